import PyProof.Rows.All
import Wide.All
import OpenK.AllK
import Wide.FinOn
import HandS.ForMost
import HandS.Exc
import HandS.ExcOwn
import HandS.WordsExc
import HandS.CallSlots
import HandS.IsInst
import KE.SortData
import HandS.Dict
import HandS.DictTup
import KE.KeyNested
import HandS.Style
import HandS.Deep
import HandS.Flow
import KE.DataMinMax
import HandS.TupSets
import KE.GoesEnum
import HandS.Iter
import HandS.Defaults
import HandS.Head0
import HandS.Head1
import HandS.Head2
import HandS.HeadEnd
import HandS.HeadHook1
import HandS.HeadHook2
import KE.KStateDown
import PySem.Challenge.RW_keysfelt_k18_whole_rings_told_soonest
set_option Elab.async false
set_option linter.all false
set_option maxRecDepth 100000
set_option maxHeartbeats 4000000
/-! KF, part 0: keys of dicts as data; a dict with tuple keys as one object. -/
namespace KF
open PySem L2
mutual
def nk : PyData → Option NestedKey
  | .none => some .none
  | .int i => some (.num i)
  | .str x => some (.text x)
  | .tuple xs => (nks xs).map .tup
  | .bool _ => none
  | .list _ => none
  | .dict _ => none
def nks : List PyData → Option (List NestedKey)
  | [] => some []
  | x :: r => (nk x).bind fun k => (nks r).bind fun ks => some (k :: ks)
end
/-- equal as keys -/
def keq (a b : PyData) : Bool := match nk a, nk b with
  | some x, some y => NestedKey.beq x y
  | _, _ => false
abbrev KVs := List (PyData × PyData)
def getK (kvs : KVs) (k : PyData) : Option PyData := (kvs.find? fun kv => keq kv.1 k).map (·.2)
def putKD (kvs : KVs) (k v : PyData) : KVs := if (getK kvs k).isSome = true then kvs.map fun kv => if keq kv.1 k = true then (kv.1, v) else kv else kvs ++ [(k, v)]
def isT : PyData → Bool
  | .tuple _ => true
  | _ => false
/-- a key that may be asked for: tuples to tuples, numbers and texts to numbers and texts -/
def kOk (kvs : KVs) : PyData → Bool
  | .tuple xs => (match nks xs with
    | some ks => Nat.ble (NestedKey.depthAll ks + 1) 8
    | none => false) && kvs.all fun kv => isT kv.1
  | .int _ => kvs.all fun kv => !isT kv.1
  | .str _ => kvs.all fun kv => !isT kv.1
  | _ => false
/-- the object of a dict with tuple keys -/
def Nest (P : Program) (w : World) (h : Heap) (a : Addr) (xs : List (NestedKey × Addr × Value)) (ep : Nat) : Prop :=
  (a == sysModules) = false ∧ xs.length ≤ sizeLine ∧ (xs.map (·.1)).Nodup ∧ ∃ o es, h.get? a = some o ∧ o.ExactDict ∧ o.data = .dict es ep ∧ es.toList = xs.map (entryOfKey (nestedKind P w))
def nestO (P : Program) (w : World) (a : Addr) (xs : List (NestedKey × Addr × Value)) (ep : Nat) : HO := .ext fun h => Nest P w h a xs ep
theorem nest_ok {P : Program} {w : World} {H : Hp} {h : Heap} {a : Addr} {xs : List (NestedKey × Addr × Value)} {ep : Nat} (n : Nest P w h a xs ep) : ObjOk P w H h a (nestO P w a xs ep) := by
  obtain ⟨o, es, ho, _⟩ := id n.2.2.2
  refine ⟨n, ⟨o, ho⟩, fun h1 h2 ⟨z1, z2, z3, o1, es1, q1, q2, q3, q4⟩ k => ⟨z1, z2, z3, o1, es1, k o1 q1, q2, q3, q4⟩⟩
theorem nest_of {P : Program} {w : World} {H : Hp} {h : Heap} {a : Addr} {xs : List (NestedKey × Addr × Value)} {ep : Nat} (ok : HOk P w H h) (e : Rd H a (nestO P w a xs ep)) : Nest P w h a xs ep := (e.ok ok).1
/-! keys of numbers and texts -/
def keyOf : PyData → Option Key
  | .int i => some (.inl i)
  | .str x => some (.inr x)
  | _ => none
theorem keyOf_V {d : PyData} {k : Key} (h : keyOf d = some k) : (∃ i, d = .int i ∧ k = .inl i) ∨ ∃ x, d = .str x ∧ k = .inr x := by
  cases d with
  | int i => cases h; exact .inl ⟨i, rfl, rfl⟩
  | str x => cases h; exact .inr ⟨x, rfl, rfl⟩
  | _ => cases h
theorem keq_keys {a b : PyData} {k l : Key} (h1 : keyOf a = some k) (h2 : keyOf b = some l) : keq a b = decide (k = l) := by
  rcases keyOf_V h1 with ⟨i, rfl, rfl⟩ | ⟨i, rfl, rfl⟩ <;> rcases keyOf_V h2 with ⟨j, rfl, rfl⟩ | ⟨j, rfl, rfl⟩
  · show decide (i = j) = _
    by_cases c : i = j
    · subst c; simp
    · rw [decide_eq_false c, decide_eq_false fun z => c (by injection z)]
  · exact (decide_eq_false (by intro z; cases z)).symm
  · exact (decide_eq_false (by intro z; cases z)).symm
  · show decide (i = j) = _
    by_cases c : i = j
    · subst c; simp
    · rw [decide_eq_false c, decide_eq_false fun z => c (by injection z)]
theorem keq_nk {a b : PyData} {k l : NestedKey} (h1 : nk a = some k) (h2 : nk b = some l) : keq a b = decide (k = l) := by
  unfold keq
  rw [h1, h2, NestedKey.decide_eq]
end KF
set_option Elab.async false
set_option linter.all false
set_option maxRecDepth 100000
set_option maxHeartbeats 4000000
/-! KF: a small by-value language; part 1: data and its standing in the heap. -/
namespace KF
open PySem L2

/-- a value: data (immutable for us), or a place of the small heap -/
inductive D where
  | py (d : PyData)
  | loc (n : Nat)
  | scr (ns : List Int)
/-- what stands at a place -/
inductive MO where
  | lst (xs : List D)
  | dct (kvs : List (PyData × PyData))
  | lck (kvs : List (PyData × PyData))
  | ins (c : Nat) (fs : List D)
abbrev MH := List MO
inductive Out (α : Type) where
  | ok (a : α) (h : MH)
  | exc (c : Nat) (fs : List D) (h : MH)
  | bad
def Out.bind {α β : Type} (o : Out α) (f : α → MH → Out β) : Out β := match o with
  | .ok a h => f a h
  | .exc c fs h => .exc c fs h
  | .bad => .bad
/-- a slot of a frame: not bound, a value, a list of the frame's own -/
inductive Sl where
  | u
  | v (d : D)
  | o (xs : List PyData)
abbrev Env := List Sl

/-- texts: signs of Unicode, of some length -/
def sOk (x : Str) : Bool := PyData.strOk x && Nat.ble x.length 100000
theorem sOk.ok {x : Str} (h : sOk x = true) : PyData.strOk x = true := (Bool.and_eq_true_iff.mp h).1
theorem sOk.len {x : Str} (h : sOk x = true) : x.length ≤ 100000 := Nat.le_of_ble_eq_true (Bool.and_eq_true_iff.mp h).2
theorem sOk.line {x : Str} (h : sOk x = true) : x.length ≤ sizeLine := Nat.le_trans (sOk.len h) (by decide)
/-! ### data in the heap; Z: the addresses that may change -/
mutual
inductive RelP (K : PySem.W.Frag) (H : Hp) (Z : Addr → Prop) : PyData → V → Prop
  | non : RelP K H Z .none .non
  | bl (b : Bool) : RelP K H Z (.bool b) (.bl b)
  | int (i : Int) : RelP K H Z (.int i) (.int i)
  | str (x : Str) : sOk x = true → RelP K H Z (.str x) (.str x)
  | lst {a : Addr} {xs : List V} {ds : List PyData} : Rd H a (.lst xs) → ¬ Z a → RelPs K H Z ds xs → RelP K H Z (.list ds) (.ref a)
  | tup {a : Addr} {xs : List V} {ds : List PyData} : SqT K H a xs → RelPs K H Z ds xs → RelP K H Z (.tuple ds) (.ref a)
inductive RelPs (K : PySem.W.Frag) (H : Hp) (Z : Addr → Prop) : List PyData → List V → Prop
  | nil : RelPs K H Z [] []
  | cons {v : V} {vs : List V} {d : PyData} {ds : List PyData} : RelP K H Z d v → RelPs K H Z ds vs → RelPs K H Z (d :: ds) (v :: vs)
end

theorem RelPs.length {K : PySem.W.Frag} {H : Hp} {Z : Addr → Prop} : ∀ {ds : List PyData} {vs : List V}, RelPs K H Z ds vs → ds.length = vs.length
  | _, _, .nil => rfl
  | _, _, .cons _ t => by rw [List.length_cons, List.length_cons, RelPs.length t]
theorem RelPs.get {K : PySem.W.Frag} {H : Hp} {Z : Addr → Prop} : ∀ {ds : List PyData} {vs : List V} {i : Nat} {d : PyData}, RelPs K H Z ds vs → ds[i]? = some d → ∃ v, vs[i]? = some v ∧ RelP K H Z d v
  | _, _, _, _, .nil, e => by simp at e
  | _, _, 0, _, .cons r _, e => by simp at e; subst e; exact ⟨_, rfl, r⟩
  | _, _, i + 1, d, .cons _ t, e => by
    obtain ⟨v, h1, h2⟩ := RelPs.get (i := i) (d := d) t (by simpa using e)
    exact ⟨v, by simpa using h1, h2⟩
theorem RelPs.getV {K : PySem.W.Frag} {H : Hp} {Z : Addr → Prop} : ∀ {ds : List PyData} {vs : List V} {i : Nat} {v : V}, RelPs K H Z ds vs → vs[i]? = some v → ∃ d, ds[i]? = some d ∧ RelP K H Z d v
  | _, _, _, _, .nil, e => by simp at e
  | _, _, 0, _, .cons r _, e => by simp at e; subst e; exact ⟨_, rfl, r⟩
  | _, _, i + 1, v, .cons _ t, e => by
    obtain ⟨d, h1, h2⟩ := RelPs.getV (i := i) (v := v) t (by simpa using e)
    exact ⟨d, by simpa using h1, h2⟩
theorem RelPs.append {K : PySem.W.Frag} {H : Hp} {Z : Addr → Prop} : ∀ {ds ds' : List PyData} {vs vs' : List V}, RelPs K H Z ds vs → RelPs K H Z ds' vs' → RelPs K H Z (ds ++ ds') (vs ++ vs')
  | _, _, _, _, .nil, s => s
  | _, _, _, _, .cons r t, s => .cons r (RelPs.append t s)
theorem RelPs.take {K : PySem.W.Frag} {H : Hp} {Z : Addr → Prop} : ∀ {ds : List PyData} {vs : List V} (n : Nat), RelPs K H Z ds vs → RelPs K H Z (ds.take n) (vs.take n)
  | _, _, 0, _ => .nil
  | _, _, _ + 1, .nil => .nil
  | _, _, n + 1, .cons r t => .cons r (RelPs.take n t)
theorem RelPs.drop {K : PySem.W.Frag} {H : Hp} {Z : Addr → Prop} : ∀ {ds : List PyData} {vs : List V} (n : Nat), RelPs K H Z ds vs → RelPs K H Z (ds.drop n) (vs.drop n)
  | _, _, 0, r => r
  | _, _, _ + 1, .nil => .nil
  | _, _, n + 1, .cons _ t => RelPs.drop n t
theorem RelPs.set {K : PySem.W.Frag} {H : Hp} {Z : Addr → Prop} {d : PyData} {v : V} (r : RelP K H Z d v) : ∀ {ds : List PyData} {vs : List V} (i : Nat), RelPs K H Z ds vs → RelPs K H Z (ds.set i d) (vs.set i v)
  | _, _, _, .nil => .nil
  | _, _, 0, .cons _ t => .cons r t
  | _, _, i + 1, .cons q t => .cons q (RelPs.set r i t)
theorem RelPs.reverse {K : PySem.W.Frag} {H : Hp} {Z : Addr → Prop} : ∀ {ds : List PyData} {vs : List V}, RelPs K H Z ds vs → RelPs K H Z ds.reverse vs.reverse
  | _, _, .nil => .nil
  | _, _, .cons r t => by
    rw [List.reverse_cons, List.reverse_cons]
    exact (RelPs.reverse t).append (.cons r .nil)

/-- what stays: all that is tracked and may not change; the new changing addresses are old ones or free -/
structure Stay (H : Hp) (Z : Addr → Prop) (H' : Hp) (Z' : Addr → Prop) : Prop where
  keep : ∀ a o, H a = some o → ¬ Z a → H' a = some o
  tups : ∀ a xs, H a = some (.tup xs) → H' a = some (.tup xs)
  frzs : ∀ a o u, H a = some (.frz o u) → H' a = some (.frz o u)
  zed : ∀ a o, H a = some o → Z' a → Z a
mutual
theorem RelP.stay {K : PySem.W.Frag} {H H' : Hp} {Z Z' : Addr → Prop} (s : Stay H Z H' Z') : ∀ {d : PyData} {v : V}, RelP K H Z d v → RelP K H' Z' d v
  | _, _, .non => .non
  | _, _, .bl b => .bl b
  | _, _, .int i => .int i
  | _, _, .str x h => .str x h
  | _, _, .lst h z r => by
    rcases h with h | ⟨o, h⟩
    · exact .lst (.inl (s.keep _ _ h z)) (fun q => z (s.zed _ _ h q)) (RelPs.stay s r)
    · exact .lst (.inr ⟨o, s.frzs _ _ _ h⟩) (fun q => z (s.zed _ _ h q)) (RelPs.stay s r)
  | _, _, .tup h r => by
    refine .tup ?_ (RelPs.stay s r)
    rcases h with (h | ⟨o, h⟩) | h
    · exact .inl (.inl (s.tups _ _ h))
    · exact .inl (.inr ⟨o, s.frzs _ _ _ h⟩)
    · exact .inr h
theorem RelPs.stay {K : PySem.W.Frag} {H H' : Hp} {Z Z' : Addr → Prop} (s : Stay H Z H' Z') : ∀ {ds : List PyData} {vs : List V}, RelPs K H Z ds vs → RelPs K H' Z' ds vs
  | _, _, .nil => .nil
  | _, _, .cons r t => .cons (RelP.stay s r) (RelPs.stay s t)
end
mutual
/-- what the layer's == reads -/
theorem RelP.dp {K : PySem.W.Frag} {H : Hp} {Z : Addr → Prop} : ∀ {d : PyData} {v : V}, RelP K H Z d v → Dp K H v d
  | _, _, .non => .non
  | _, _, .bl b => .bl b
  | _, _, .int i => .int i
  | _, _, .str x _ => .str x
  | _, _, .lst h _ r => .lst (.inl h) (RelPs.dp r)
  | _, _, .tup h r => .tup h (RelPs.dp r)
theorem RelPs.dp {K : PySem.W.Frag} {H : Hp} {Z : Addr → Prop} : ∀ {ds : List PyData} {vs : List V}, RelPs K H Z ds vs → DpAll K H vs ds
  | _, _, .nil => .nil
  | _, _, .cons r t => .cons (RelP.dp r) (RelPs.dp t)
end

mutual
theorem RelP.lay {K : PySem.W.Frag} {H : Hp} {Z : Addr → Prop} : ∀ {d : PyData} {v : V}, RelP K H Z d v → d.canLay0 = true
  | _, _, .non => by simp [PyData.canLay0]
  | _, _, .bl b => by simp [PyData.canLay0]
  | _, _, .int i => by simp [PyData.canLay0]
  | _, _, .str x h => by simp only [PyData.canLay0]; exact sOk.ok h
  | _, _, .lst _ _ r => by simp only [PyData.canLay0]; exact RelPs.lay r
  | _, _, .tup _ r => by simp only [PyData.canLay0]; exact RelPs.lay r
theorem RelPs.lay {K : PySem.W.Frag} {H : Hp} {Z : Addr → Prop} : ∀ {ds : List PyData} {vs : List V}, RelPs K H Z ds vs → PyData.canLayAll0 ds = true
  | _, _, .nil => by simp [PyData.canLayAll0]
  | _, _, .cons r t => by simp only [PyData.canLayAll0, RelP.lay r, RelPs.lay t, Bool.and_self]
end
/-- a list that nobody changes: known to the object, or of the written part -/
def SqF (K : PySem.W.Frag) (H : Hp) (a : Addr) (xs : List V) : Prop := (∃ o, H a = some (.frz o (.lst xs))) ∨ ∃ (o : Obj) (its : Array Value) (n : Nat), K.lookup a = some o ∧ o.cls = .type "list" ∧ o.dict = none ∧ o.data = .seq its n ∧ its.size ≤ sizeLine ∧ Vals xs its.toList
theorem SqF.l {K : PySem.W.Frag} {H : Hp} {a : Addr} {xs : List V} (h : SqF K H a xs) : SqL K H a xs := by
  rcases h with h | h
  · exact .inl (.inr h)
  · exact .inr h
/-- values and places; scr: the script -/
inductive RelD (K : PySem.W.Frag) (H : Hp) (L : List Addr) (Z : Addr → Prop) : D → V → Prop
  | py {d : PyData} {v : V} : RelP K H Z d v → RelD K H L Z (.py d) v
  | loc {n : Nat} {a : Addr} : L[n]? = some a → RelD K H L Z (.loc n) (.ref a)
  | scr {ns : List Int} {a : Addr} : SqF K H a (ns.map V.int) → RelD K H L Z (.scr ns) (.ref a)
inductive RelDs (K : PySem.W.Frag) (H : Hp) (L : List Addr) (Z : Addr → Prop) : List D → List V → Prop
  | nil : RelDs K H L Z [] []
  | cons {v : V} {vs : List V} {d : D} {ds : List D} : RelD K H L Z d v → RelDs K H L Z ds vs → RelDs K H L Z (d :: ds) (v :: vs)
theorem pre_get {α : Type} {l m : List α} {n : Nat} {x : α} (h : l[n]? = some x) : (l ++ m)[n]? = some x := by
  rw [List.getElem?_append_left (List.getElem?_eq_some_iff.mp h).1]; exact h
theorem RelD.stay {K : PySem.W.Frag} {H H' : Hp} {L M : List Addr} {Z Z' : Addr → Prop} (s : Stay H Z H' Z') {d : D} {v : V} (r : RelD K H L Z d v) : RelD K H' (L ++ M) Z' d v := by
  cases r with
  | py r => exact .py (r.stay s)
  | loc e => exact .loc (pre_get e)
  | scr e =>
    refine .scr ?_
    rcases e with ⟨o, e⟩ | e
    · exact .inl ⟨o, s.frzs _ _ _ e⟩
    · exact .inr e
theorem RelDs.stay {K : PySem.W.Frag} {H H' : Hp} {L M : List Addr} {Z Z' : Addr → Prop} (s : Stay H Z H' Z') : ∀ {ds : List D} {vs : List V}, RelDs K H L Z ds vs → RelDs K H' (L ++ M) Z' ds vs
  | _, _, .nil => .nil
  | _, _, .cons r t => .cons (r.stay s) (RelDs.stay s t)
theorem RelDs.length {K : PySem.W.Frag} {H : Hp} {L : List Addr} {Z : Addr → Prop} : ∀ {ds : List D} {vs : List V}, RelDs K H L Z ds vs → ds.length = vs.length
  | _, _, .nil => rfl
  | _, _, .cons _ t => by rw [List.length_cons, List.length_cons, RelDs.length t]
theorem RelDs.get {K : PySem.W.Frag} {H : Hp} {L : List Addr} {Z : Addr → Prop} : ∀ {ds : List D} {vs : List V} {i : Nat} {d : D}, RelDs K H L Z ds vs → ds[i]? = some d → ∃ v, vs[i]? = some v ∧ RelD K H L Z d v
  | _, _, _, _, .nil, e => by simp at e
  | _, _, 0, _, .cons r _, e => by simp at e; subst e; exact ⟨_, rfl, r⟩
  | _, _, i + 1, d, .cons _ t, e => by
    obtain ⟨v, h1, h2⟩ := RelDs.get (i := i) (d := d) t (by simpa using e)
    exact ⟨v, by simpa using h1, h2⟩
theorem RelDs.set {K : PySem.W.Frag} {H : Hp} {L : List Addr} {Z : Addr → Prop} {d : D} {v : V} (r : RelD K H L Z d v) : ∀ {ds : List D} {vs : List V} (i : Nat), RelDs K H L Z ds vs → RelDs K H L Z (ds.set i d) (vs.set i v)
  | _, _, _, .nil => .nil
  | _, _, 0, .cons _ t => .cons r t
  | _, _, i + 1, .cons q t => .cons q (RelDs.set r i t)

/-! ### the classes -/
/-- the written part; the classes by number: where they stand, their fields' names -/
structure MK where
  prog : Program
  w : World
  K : PySem.W.Frag
  cls : Nat → Addr
  flds : Nat → List Str
  xcls : Nat → Value
  xflds : Nat → List Str

/-- a dict's pairs: number and text keys; tuple keys -/
def DRelK (K : PySem.W.Frag) (H : Hp) (Z : Addr → Prop) : KVs → List (Key × V) → Prop := Paired fun kv p => keyOf kv.1 = some p.1 ∧ RelP K H Z kv.2 p.2
def DRelN (K : PySem.W.Frag) (H : Hp) (Z : Addr → Prop) : KVs → List (NestedKey × Addr × Value) → Prop := Paired fun kv x => nk kv.1 = some x.1 ∧ x.1.depth ≤ 8 ∧ RelP K H Z kv.1 (.ref x.2.1) ∧ ∃ v, RelV v x.2.2 ∧ RelP K H Z kv.2 v
theorem DRelK.stay {K : PySem.W.Frag} {H H' : Hp} {Z Z' : Addr → Prop} (s : Stay H Z H' Z') {kvs : KVs} {ks : List (Key × V)} (r : DRelK K H Z kvs ks) : DRelK K H' Z' kvs ks := Paired.mapP r fun _ _ q => ⟨q.1, q.2.stay s⟩
theorem DRelN.stay {K : PySem.W.Frag} {H H' : Hp} {Z Z' : Addr → Prop} (s : Stay H Z H' Z') {kvs : KVs} {ks : List (NestedKey × Addr × Value)} (r : DRelN K H Z kvs ks) : DRelN K H' Z' kvs ks := Paired.mapP r fun _ _ ⟨q1, q2, q3, v, q4, q5⟩ => ⟨q1, q2, q3.stay s, v, q4, q5.stay s⟩
/-- what stands at a place -/
inductive MOk (M : MK) (H : Hp) (L : List Addr) (Z : Addr → Prop) (a : Addr) : MO → Prop
  | lst {xs : List D} {vs : List V} : H a = some (.lst vs) → RelDs M.K H L Z xs vs → MOk M H L Z a (.lst xs)
  | ins {c : Nat} {fs : List D} {dx : Addr} {vs : List V} : H a = some (.ins (M.cls c) dx ((M.flds c).zip vs)) → vs.length ≤ (M.flds c).length → RelDs M.K H L Z fs vs → MOk M H L Z a (.ins c fs)
  | dK {kvs : KVs} {ks : List (Key × V)} : H a = some (.dK ks) → DRelK M.K H Z kvs ks → MOk M H L Z a (.dct kvs)
  | dN {kvs : KVs} {xs : List (NestedKey × Addr × Value)} {ep : Nat} : H a = some (nestO M.prog M.w a xs ep) → xs ≠ [] → DRelN M.K H Z kvs xs → MOk M H L Z a (.dct kvs)
  | lK {kvs : KVs} {ks : List (Key × V)} {od : Obj} : H a = some (.frz od (.dK ks)) → DRelK M.K H Z kvs ks → MOk M H L Z a (.lck kvs)
  | lN {kvs : KVs} {xs : List (NestedKey × Addr × Value)} {ep : Nat} {od : Obj} : H a = some (.frz od (nestO M.prog M.w a xs ep)) → xs ≠ [] → DRelN M.K H Z kvs xs → MOk M H L Z a (.lck kvs)
theorem MOk.there {M : MK} {H : Hp} {L : List Addr} {Z : Addr → Prop} {a : Addr} {o : MO} (m : MOk M H L Z a o) : ∃ u, H a = some u := by
  cases m with
  | lst h _ => exact ⟨_, h⟩
  | ins h _ _ => exact ⟨_, h⟩
  | dK h _ => exact ⟨_, h⟩
  | dN h _ _ => exact ⟨_, h⟩
  | lK h _ => exact ⟨_, h⟩
  | lN h _ _ => exact ⟨_, h⟩
theorem MOk.stay {M : MK} {H H' : Hp} {L N : List Addr} {Z Z' : Addr → Prop} {a : Addr} {o : MO} (m : MOk M H L Z a o) (s : Stay H Z H' Z') (e : H' a = H a) : MOk M H' (L ++ N) Z' a o := by
  cases m with
  | lst h r => exact .lst (e.trans h) (r.stay s)
  | ins h l r => exact .ins (e.trans h) l (r.stay s)
  | dK h r => exact .dK (e.trans h) (r.stay s)
  | dN h l r => exact .dN (e.trans h) l (r.stay s)
  | lK h r => exact .lK (e.trans h) (r.stay s)
  | lN h l r => exact .lN (e.trans h) l (r.stay s)

/-- a dict, to be read -/
def RdOk (M : MK) (H : Hp) (Z : Addr → Prop) (a : Addr) (kvs : KVs) : Prop := (∃ ks, Rd H a (.dK ks) ∧ DRelK M.K H Z kvs ks) ∨ ∃ xs ep, Rd H a (nestO M.prog M.w a xs ep) ∧ xs ≠ [] ∧ DRelN M.K H Z kvs xs
theorem MOk.rdD {M : MK} {H : Hp} {L : List Addr} {Z : Addr → Prop} {a : Addr} {kvs : KVs} (m : MOk M H L Z a (.dct kvs)) : RdOk M H Z a kvs := by
  cases m with
  | dK h r => exact .inl ⟨_, .inl h, r⟩
  | dN h l r => exact .inr ⟨_, _, .inl h, l, r⟩
theorem MOk.rdL {M : MK} {H : Hp} {L : List Addr} {Z : Addr → Prop} {a : Addr} {kvs : KVs} (m : MOk M H L Z a (.lck kvs)) : RdOk M H Z a kvs := by
  cases m with
  | lK h r => exact .inl ⟨_, .inr ⟨_, h⟩, r⟩
  | lN h l r => exact .inr ⟨_, _, .inr ⟨_, h⟩, l, r⟩
end KF
set_option Elab.async false
set_option linter.all false
set_option maxRecDepth 100000
set_option maxHeartbeats 4000000
/-! KF, part 2: a frame and its heap; what a reading is. -/
namespace KF
open PySem L2

/-- the anchor of a frame: heap and places at its entry; S: what others may change -/
structure Bs where
  H0 : Hp
  L0 : List Addr
  S : Addr → Prop
def Zf (B : Bs) (L : List Addr) (A : List (Option Addr)) (a : Addr) : Prop := a ∈ L ∨ B.S a ∨ some a ∈ A

inductive SOk (M : MK) (B : Bs) (H : Hp) (L : List Addr) (A : List (Option Addr)) (σ : St) (i : Nat) : Sl → Prop
  | u : A[i]? = some none → SOk M B H L A σ i .u
  | v {d : D} {w : V} : A[i]? = some none → σ[i]? = some (some w) → RelD M.K H L (Zf B L A) d w → SOk M B H L A σ i (.v d)
  | o {xs : List PyData} {a : Addr} {vs : List V} : A[i]? = some (some a) → σ[i]? = some (some (.ref a)) → H a = some (.lst vs) → RelPs M.K H (Zf B L A) xs vs → SOk M B H L A σ i (.o xs)

structure Good (M : MK) (B : Bs) (H : Hp) (L : List Addr) (A : List (Option Addr)) (h : MH) (env : Env) (σ : St) : Prop where
  len : L.length = h.length
  nd : L.Nodup
  obj : ∀ (n : Nat) (o : MO) (a : Addr), h[n]? = some o → L[n]? = some a → MOk M H L (Zf B L A) a o
  ls : ∀ a ∈ L, ¬ B.S a
  lpre : ∃ N, L = B.L0 ++ N ∧ ∀ a ∈ N, B.H0 a = none
  base : ∀ a o, B.H0 a = some o → a ∉ B.L0 → H a = some o
  btup : ∀ a xs, B.H0 a = some (.tup xs) → H a = some (.tup xs)
  bfrz : ∀ a o u, B.H0 a = some (.frz o u) → H a = some (.frz o u)
  dom : ∀ a o, B.H0 a = some o → ∃ o', H a = some o'
  sdom : ∀ a, B.S a → ∃ o, H a = some o
  alen : A.length = env.length
  slen : σ.length = env.length
  own : ∀ (i : Nat) (a : Addr), A[i]? = some (some a) → a ∉ L ∧ ¬ B.S a ∧ B.H0 a = none
  odis : ∀ (i j : Nat) (a : Addr), A[i]? = some (some a) → A[j]? = some (some a) → i = j
  slot : ∀ (i : Nat) (sl : Sl), env[i]? = some sl → SOk M B H L A σ i sl

/-- behind an expression -/
structure Ext (H : Hp) (L : List Addr) (H' : Hp) (L' : List Addr) : Prop where
  keep : ∀ a o, H a = some o → a ∉ L → H' a = some o
  tups : ∀ a xs, H a = some (.tup xs) → H' a = some (.tup xs)
  frzs : ∀ a o u, H a = some (.frz o u) → H' a = some (.frz o u)
  pre : ∃ N, L' = L ++ N ∧ ∀ a ∈ N, H a = none
  dom : ∀ a o, H a = some o → ∃ o', H' a = some o'
theorem Ext.refl (H : Hp) (L : List Addr) : Ext H L H L := ⟨fun _ _ h _ => h, fun _ _ h => h, fun _ _ _ h => h, ⟨[], by simp⟩, fun _ o h => ⟨o, h⟩⟩
theorem Ext.same {H H' : Hp} (L : List Addr) (s : Same H H') : Ext H L H' L := ⟨fun a o h _ => s a o h, fun a _ h => s a _ h, fun a _ _ h => s a _ h, ⟨[], by simp⟩, fun a o h => ⟨o, s a o h⟩⟩
theorem Ext.none {H H' : Hp} {L L' : List Addr} (x : Ext H L H' L') {a : Addr} (h : H' a = none) : H a = none := by
  cases q : H a with
  | none => rfl
  | some o => obtain ⟨o', e⟩ := x.dom a o q; rw [h] at e; cases e
theorem Ext.trans {H H1 H2 : Hp} {L L1 L2 : List Addr} (x : Ext H L H1 L1) (y : Ext H1 L1 H2 L2) : Ext H L H2 L2 := by
  obtain ⟨N, e1, n1⟩ := x.pre
  obtain ⟨N', e2, n2⟩ := y.pre
  refine ⟨fun a o h hl => y.keep a o (x.keep a o h hl) ?_, fun a xs h => y.tups a xs (x.tups a xs h), fun a o u h => y.frzs a o u (x.frzs a o u h), ⟨N ++ N', by rw [e2, e1, List.append_assoc], fun a ha => ?_⟩, fun a o h => ?_⟩
  · rw [e1]
    intro hm
    rcases List.mem_append.mp hm with q | q
    · exact hl q
    · rw [n1 a q] at h; cases h
  · rcases List.mem_append.mp ha with q | q
    · exact n1 a q
    · exact x.none (n2 a q)
  · obtain ⟨o', e⟩ := x.dom a o h
    exact y.dom a o' e

section
variable {M : MK} {B : Bs} {H H' : Hp} {L L' : List Addr} {A : List (Option Addr)} {h h' : MH} {env : Env} {σ : St}
theorem Ext.stay (x : Ext H L H' L') : Stay H (Zf B L A) H' (Zf B L' A) := by
  obtain ⟨N, e, n⟩ := x.pre
  refine ⟨fun a o h z => x.keep a o h fun q => z (.inl q), x.tups, x.frzs, fun a o h z => ?_⟩
  rcases z with z | z | z
  · rw [e] at z
    rcases List.mem_append.mp z with q | q
    · exact .inl q
    · rw [n a q] at h; cases h
  · exact .inr (.inl z)
  · exact .inr (.inr z)
theorem Good.there (g : Good M B H L A h env σ) {a : Addr} (ha : a ∈ L) : ∃ o, H a = some o := by
  obtain ⟨n, hn⟩ := List.getElem?_of_mem ha
  have hl : n < h.length := by rw [← g.len]; exact (List.getElem?_eq_some_iff.mp hn).1
  exact (g.obj n h[n] a (List.getElem?_eq_getElem hl) hn).there
theorem Good.ownThere (g : Good M B H L A h env σ) {i : Nat} {a : Addr} (ha : A[i]? = some (some a)) : ∃ vs, H a = some (.lst vs) := by
  have hi : i < env.length := by rw [← g.alen]; exact (List.getElem?_eq_some_iff.mp ha).1
  obtain ⟨sl, e⟩ : ∃ sl, env[i]? = some sl := ⟨_, List.getElem?_eq_getElem hi⟩
  cases g.slot i sl e with
  | u q => rw [ha] at q; cases q
  | v q _ _ => rw [ha] at q; cases q
  | o q _ q2 _ => rw [ha] at q; cases q; exact ⟨_, q2⟩
/-- a free address is none of those that may change -/
theorem Good.free (g : Good M B H L A h env σ) {a : Addr} (n : H a = none) : ¬ Zf B L A a := by
  rintro (z | z | z)
  · obtain ⟨o, e⟩ := g.there z; rw [n] at e; cases e
  · obtain ⟨o, e⟩ := g.sdom a z; rw [n] at e; cases e
  · obtain ⟨i, hi⟩ := List.getElem?_of_mem z
    obtain ⟨o, e⟩ := g.ownThere hi; rw [n] at e; cases e
theorem Good.free0 (g : Good M B H L A h env σ) {a : Addr} (n : H a = none) : B.H0 a = none := by
  cases q : B.H0 a with
  | none => rfl
  | some o => obtain ⟨o', e⟩ := g.dom a o q; rw [n] at e; cases e
theorem SOk.stay {i : Nat} {sl : Sl} (s : SOk M B H L A σ i sl) (x : Ext H L H' L') (k : ∀ a vs, A[i]? = some (some a) → H a = some (.lst vs) → H' a = some (.lst vs)) : SOk M B H' L' A σ i sl := by
  obtain ⟨N, e, n⟩ := id x.pre
  cases s with
  | u q => exact .u q
  | v q1 q2 q3 => subst e; exact .v q1 q2 (q3.stay x.stay)
  | o q1 q2 q3 q4 => exact .o q1 q2 (k _ _ q1 q3) (q4.stay x.stay)
/-- nothing that was tracked has changed -/
theorem Good.same (g : Good M B H L A h env σ) (s : Same H H') : Good M B H' L A h env σ := by
  have st : Stay H (Zf B L A) H' (Zf B L A) := (Ext.same L s).stay
  refine ⟨g.len, g.nd, fun n o a e1 e2 => ?_, g.ls, g.lpre, fun a o e hl => s _ _ (g.base a o e hl), fun a xs e => s _ _ (g.btup a xs e), fun a o u e => s _ _ (g.bfrz a o u e), fun a o e => ?_, fun a e => ?_, g.alen, g.slen, g.own, g.odis, fun i sl e => ?_⟩
  · have m := g.obj n o a e1 e2
    obtain ⟨u, hu⟩ := m.there
    have := m.stay (N := []) st ((s _ _ hu).trans hu.symm)
    rw [List.append_nil] at this
    exact this
  · obtain ⟨o', e'⟩ := g.dom a o e; exact ⟨o', s _ _ e'⟩
  · obtain ⟨o', e'⟩ := g.sdom a e; exact ⟨o', s _ _ e'⟩
  · exact (g.slot i sl e).stay (Ext.same L s) fun a vs _ q => s _ _ q
end

/-! ### how a value stands behind an expression -/
inductive Mode | b | n
/-- b: borrowed perhaps; n: for ever -/
def RelM (M : MK) : Mode → Bs → List (Option Addr) → Hp → Hp → List Addr → D → V → Prop
  | .b, B, A, _, H, L, d, v => RelD M.K H L (Zf B L A) d v ∨ ∃ (i : Nat) (a : Addr) (xs : List PyData) (vs : List V), A[i]? = some (some a) ∧ v = .ref a ∧ d = .py (.list xs) ∧ H a = some (.lst vs) ∧ RelPs M.K H (Zf B L A) xs vs
  | .n, B, A, _, H, L, d, v => RelD M.K H L (Zf B L A) d v
theorem RelPs.weak {K : PySem.W.Frag} {H : Hp} {Z Z' : Addr → Prop} {ds : List PyData} {vs : List V} (r : RelPs K H Z ds vs) (z : ∀ a, Z' a → Z a) : RelPs K H Z' ds vs := r.stay ⟨fun _ _ h _ => h, fun _ _ h => h, fun _ _ _ h => h, fun a _ _ q => z a q⟩
theorem RelP.weak {K : PySem.W.Frag} {H : Hp} {Z Z' : Addr → Prop} {d : PyData} {v : V} (r : RelP K H Z d v) (z : ∀ a, Z' a → Z a) : RelP K H Z' d v := r.stay ⟨fun _ _ h _ => h, fun _ _ h => h, fun _ _ _ h => h, fun a _ _ q => z a q⟩
theorem RelD.weak {K : PySem.W.Frag} {H : Hp} {L : List Addr} {Z Z' : Addr → Prop} {d : D} {v : V} (r : RelD K H L Z d v) (z : ∀ a, Z' a → Z a) : RelD K H L Z' d v := by
  cases r with
  | py r => exact .py (r.weak z)
  | loc e => exact .loc e
  | scr e => exact .scr e
section
variable {M : MK} {B : Bs} {A : List (Option Addr)} {Hs H : Hp} {L : List Addr} {d : D} {v : V}
theorem RelM.nb (r : RelM M .n B A Hs H L d v) : RelM M .b B A Hs H L d v := .inl r
def Mode.le : Mode → Mode → Bool
  | .b, _ => true
  | .n, .b => false
  | .n, .n => true
theorem RelM.le {m m' : Mode} (r : RelM M m B A Hs H L d v) (l : m'.le m = true) : RelM M m' B A Hs H L d v := by
  cases m <;> cases m' <;> first | exact r | exact r.nb | cases l
theorem RelM.stay {m : Mode} {H' : Hp} {L' : List Addr} (r : RelM M m B A Hs H L d v) (x : Ext H L H' L') (o : ∀ (i : Nat) (a : Addr), A[i]? = some (some a) → a ∉ L) : RelM M m B A Hs H' L' d v := by
  obtain ⟨N, e, n⟩ := id x.pre
  cases m with
  | n => subst e; exact RelD.stay (M := N) x.stay r
  | b =>
    rcases r with r | ⟨i, a, xs, vs, h1, h2, h3, h4, h5⟩
    · subst e; exact .inl (RelD.stay (M := N) x.stay r)
    · exact .inr ⟨i, a, xs, vs, h1, h2, h3, x.keep _ _ h4 (o i a h1), h5.stay x.stay⟩
/-- a list, however it stands -/
theorem RelM.list {m : Mode} {xs : List PyData} (r : RelM M m B A Hs H L (.py (.list xs)) v) : ∃ a vs, v = .ref a ∧ Rd H a (.lst vs) ∧ RelPs M.K H (Zf B L A) xs vs := by
  have r := r.le (m' := .b) rfl
  rcases r with r | ⟨i, a, xs', vs, _, rfl, e, h, q⟩
  · cases r with
    | py r => cases r with
      | lst h z q => exact ⟨_, _, rfl, h, q⟩
  · cases e; exact ⟨a, vs, rfl, .inl h, q⟩
/-- data that are no list -/
theorem RelM.data {m : Mode} {d : PyData} (r : RelM M m B A Hs H L (.py d) v) (n : ∀ xs, d ≠ .list xs) : RelP M.K H (Zf B L A) d v := by
  have r := r.le (m' := .b) rfl
  rcases r with r | ⟨i, a, xs', vs, _, rfl, e, h, q⟩
  · cases r with
    | py r => exact r
  · cases e; exact absurd rfl (n _)
theorem RelM.int {m : Mode} {i : Int} (r : RelM M m B A Hs H L (.py (.int i)) v) : v = .int i := by
  cases r.data (by intro _ h; cases h); rfl
theorem RelM.bl {m : Mode} {i : Bool} (r : RelM M m B A Hs H L (.py (.bool i)) v) : v = .bl i := by
  cases r.data (by intro _ h; cases h); rfl
theorem RelM.str {m : Mode} {i : Str} (r : RelM M m B A Hs H L (.py (.str i)) v) : v = .str i ∧ sOk i = true := by
  cases r.data (by intro _ h; cases h) with
  | str _ h => exact ⟨rfl, h⟩
theorem RelM.non {m : Mode} (r : RelM M m B A Hs H L (.py .none) v) : v = .non := by
  cases r.data (by intro _ h; cases h); rfl
theorem RelM.tup {m : Mode} {xs : List PyData} (r : RelM M m B A Hs H L (.py (.tuple xs)) v) : ∃ a vs, v = .ref a ∧ SqT M.K H a vs ∧ RelPs M.K H (Zf B L A) xs vs := by
  cases r.data (by intro _ h; cases h) with
  | tup h q => exact ⟨_, _, rfl, h, q⟩
theorem RelM.loc {m : Mode} {n : Nat} (r : RelM M m B A Hs H L (.loc n) v) : ∃ a, L[n]? = some a ∧ v = .ref a := by
  have r := r.le (m' := .b) rfl
  rcases r with r | ⟨i, a, xs', vs, _, rfl, e, h, q⟩
  · cases r with
    | loc e => exact ⟨_, e, rfl⟩
  · cases e
theorem RelM.scr {m : Mode} {ns : List Int} (r : RelM M m B A Hs H L (.scr ns) v) : ∃ a, v = .ref a ∧ SqF M.K H a (ns.map V.int) := by
  have r := r.le (m' := .b) rfl
  rcases r with r | ⟨i, a, xs', vs, _, rfl, e, h, q⟩
  · cases r with
    | scr e => exact ⟨_, rfl, e⟩
  · cases e
/-- what == reads -/
theorem RelM.dp {m : Mode} {d : PyData} (r : RelM M m B A Hs H L (.py d) v) : Dp M.K H v d := by
  have r := r.le (m' := .b) rfl
  rcases r with r | ⟨i, a, xs', vs, _, rfl, e, h, q⟩
  · cases r with
    | py r => exact r.dp
  · cases e; exact .lst (.inl (.inl h)) q.dp
end

section
variable {M : MK} {B : Bs} {A : List (Option Addr)} {Hs H : Hp} {L : List Addr} {v : V}
theorem RelM.lay {m : Mode} {d : PyData} (r : RelM M m B A Hs H L (.py d) v) : d.canLay0 = true := by
  have r := r.le (m' := .b) rfl
  rcases r with r | ⟨i, a, xs', vs, _, rfl, e, h, q⟩
  · cases r with
    | py r => exact r.lay
  · cases e; simp only [PyData.canLay0]; exact q.lay
end
/-! ### exceptions -/
inductive XRel (M : MK) (B : Bs) (A : List (Option Addr)) (H : Hp) (L : List Addr) : Nat → List D → Value → Option Addr → Prop
  | bare (c : Nat) : XRel M B A H L c [] (M.xcls c) none
  | fld {c : Nat} {d : D} {v : V} {a : Addr} {f : Str} : M.xflds c = [f] → H a = some (.xd [(f, v)]) → RelD M.K H L (Zf B L A) d v → XRel M B A H L c [d] (M.xcls c) (some a)

/-! ### readings -/
section
variable {α β : Type}
def Post (M : MK) (B : Bs) (A : List (Option Addr)) (env : Env) (σ : St) (W : WX) (R : Hp → Hp → List Addr → α → β → Prop) (H : Hp) (L : List Addr) (Q : β → Hp → Prop) : Out α → Prop
  | .ok a h' => ∀ b H' L', Ext H L H' L' → Good M B H' L' A h' env σ → R H H' L' a b → Q b H'
  | .exc c fs h' => ∀ cls dd H' L', Ext H L H' L' → Good M B H' L' A h' env σ → XRel M B A H' L' c fs cls dd → W cls dd σ H'
  | .bad => False
abbrev RT (α β : Type) := Bs → List (Option Addr) → Hp → Hp → List Addr → α → β → Prop
def tG (M : MK) (R : RT α β) (W : WX) (f : Env → MH → Out α) : St → Hp → (β → Hp → Prop) → Prop := fun σ H Q =>
  ∃ B L A h env, Good M B H L A h env σ ∧ Post M B A env σ W (R B A) H L Q (f env h)
/-- a relation that looks at the start only for what is free there -/
def SM (R : RT α β) : Prop := ∀ B A H L H1 L1 H' L' a b, Ext H L H1 L1 → R B A H1 H' L' a b → R B A H H' L' a b
theorem sm_M {M : MK} {m : Mode} : SM (RelM M m) := by
  intro B A H L H1 L1 H' L' a b x r
  cases m with
  | b => exact r
  | n => exact r
theorem Post.from {M : MK} {B : Bs} {A : List (Option Addr)} {env : Env} {σ : St} {W : WX} {R : RT α β} {H H1 : Hp} {L L1 : List Addr} {Q : β → Hp → Prop} {o : Out α} (sm : SM R) (x : Ext H L H1 L1)
    (p : Post M B A env σ W (R B A) H L Q o) : Post M B A env σ W (R B A) H1 L1 Q o := by
  cases o with
  | ok a h => exact fun b H' L' x' g r => p b H' L' (x.trans x') g (sm B A H L H1 L1 H' L' a b x r)
  | exc c fs h => exact fun cls dd H' L' x' g r => p cls dd H' L' (x.trans x') g r
  | bad => exact p
variable {γ δ : Type}
theorem tG_bind {M : MK} {B : Bs} {A : List (Option Addr)} {env : Env} {σ : St} {W : WX} {R : RT α β} {R' : RT γ δ} {H : Hp} {L : List Addr} {h : MH} {f : Env → MH → Out α} {k : α → MH → Out γ} {Q : δ → Hp → Prop} {T : β → Hp → Prop} (sm : SM R')
    (g : Good M B H L A h env σ) (p : Post M B A env σ W (R' B A) H L Q ((f env h).bind k))
    (hk : ∀ a h1 b H1 L1, f env h = .ok a h1 → Ext H L H1 L1 → Good M B H1 L1 A h1 env σ → R B A H H1 L1 a b → Post M B A env σ W (R' B A) H1 L1 Q (k a h1) → T b H1) : tG M R W f σ H T := by
  refine ⟨B, L, A, h, env, g, ?_⟩
  cases e : f env h with
  | ok a h1 =>
    rw [e] at p
    exact fun b H' L' x g' r => hk a h1 b H' L' e x g' r (Post.from sm x p)
  | exc c fs h1 => rw [e] at p; exact p
  | bad => rw [e] at p; exact p
/-- the last step: nothing that was tracked has changed -/
theorem Post.fin {M : MK} {B : Bs} {A : List (Option Addr)} {env : Env} {σ : St} {W : WX} {R : RT α β} {H H' : Hp} {L : List Addr} {h : MH} {Q : β → Hp → Prop} {a : α} {b : β} (p : Post M B A env σ W (R B A) H L Q (.ok a h))
    (g : Good M B H L A h env σ) (s : Same H H') (r : R B A H H' L a b) : Q b H' := p b H' L (Ext.same L s) (g.same s) r
end
theorem same_upd {H : Hp} {p : Addr} {o : HO} (n : H p = none) : Same H (upd H p o) := fun b u h => by
  rw [upd_ne (ne_of_none h n)]; exact h
theorem PE.mono {X : Cx} {e : Expr} {t t' : TE} (h : PE X e t) (i : ∀ σ H Q, t' σ H Q → t σ H Q) : PE X e t' := ⟨fun pins s σ H Q I q => h.run pins s σ H Q I (i σ H Q q)⟩
theorem PT.mono {X : Cx} {e : Expr} {t t' : TT} (h : PT X e t) (i : ∀ σ H Q, t' σ H Q → t σ H Q) : PT X e t' := ⟨fun pins s σ H Q I q => h.run pins s σ H Q I (i σ H Q q)⟩
theorem PW.mono {X : Cx} {e : Expr} {t t' : TT} (h : PW X e t) (i : ∀ σ H Q, t' σ H Q → t σ H Q) : PW X e t' := ⟨fun wh pins s σ H Q I q => h.run wh pins s σ H Q I (i σ H Q q)⟩
theorem PA.mono {X : Cx} {e : List Expr} {t t' : TA} (h : PA X e t) (i : ∀ σ H Q, t' σ H Q → t σ H Q) : PA X e t' := ⟨fun pos pins s σ H Q I q => h.run pos pins s σ H Q I (i σ H Q q)⟩
theorem PS.mono {X : Cx} {e : Stmt} {t t' : TS} (h : PS X e t) (i : ∀ D σ H, t' D σ H → t D σ H) : PS X e t' := ⟨fun pins s σ H D I q => h.run pins s σ H D I (i D σ H q)⟩
theorem PSs.mono {X : Cx} {e : List Stmt} {t t' : TS} (h : PSs X e t) (i : ∀ D σ H, t' D σ H → t D σ H) : PSs X e t' := ⟨fun pins s σ H D I q => h.run pins s σ H D I (i D σ H q)⟩
end KF
set_option Elab.async false
set_option linter.all false
set_option maxRecDepth 100000
set_option maxHeartbeats 4000000
/-! KF, part 3: rules of operations that the hand layer has not, or has narrower. -/
namespace KF
open PySem PySem.Spec PyProof.Rows L2
section
variable {X : Cx} {pins : List (Addr × Obj)} {σ : L2.St} {H : Hp} {s : Shared} {l : Addr} {xs : List V}
theorem lstR (I : Inv X pins σ H s) (hH : Rd H l (.lst xs)) : xs.length ≤ sizeLine ∧ ∃ (its : List Value) (n : Nat), Vals xs its ∧ xs.length = its.length ∧ s.heap.get? l = some { cls := .type "list", data := .seq its.toArray n } := by
  obtain ⟨z, its, n, r, e⟩ := hH.ok I.hok
  exact ⟨z, its, n, r, r.length, e⟩
def rCatR : R2 := fun x y H Q => ∃ l b xs zs, x = .ref l ∧ y = .ref b ∧ Rd H l (.lst xs) ∧ Rd H b (.lst zs) ∧ xs.length + zs.length ≤ sizeLine ∧ ∀ p, H p = none → Q (.ref p) (upd H p (.lst (xs ++ zs)))
theorem op_catR : OpR X (binaryOp .Add) rCatR := by
  intro pins s σ H x y v u Q I rx ry h
  obtain ⟨l, b, xs, zs, rfl, rfl, hH, hB, hz, q⟩ := h
  cases rx
  cases ry
  obtain ⟨z, its, n, r, hl, e⟩ := lstR I hH
  obtain ⟨z2, its2, n2, r2, hl2, e2⟩ := lstR I hB
  refine PySem.P.add_list e e2 ?_ (by rw [List.size_toArray, List.size_toArray]; omega)
  have ea : its.toArray ++ its2.toArray = (its ++ its2).toArray := by simp
  rw [ea]
  exact ⟨.ref _, _, I.lnew (t' := s.toks) (r.append r2) (by rw [List.length_append]; omega), rfl, q _ I.fresh⟩
/-- t + u of tuples, whatever is empty -/
def rCatTA (K : PySem.W.Frag) : R2 := fun x y H Q => ∃ a b xs ys, x = .ref a ∧ y = .ref b ∧ SqT K H a xs ∧ SqT K H b ys ∧ xs.length + ys.length ≤ sizeLine ∧
  (xs = [] → Q (.ref b) H) ∧ (xs ≠ [] → ys = [] → Q (.ref a) H) ∧ (xs ≠ [] → ys ≠ [] → ∀ p, H p = none → Q (.ref p) (upd H p (.tup (xs ++ ys))))
theorem cat_tup0 {prog : Program} {w : World} {A : Around} {E : Value → Shared → Prop} {t b : Addr} {ws : List Value} {Q : Value → Shared → Prop} (ht : IsTup s.heap t ([] : List Value).toArray) (hb : IsTup s.heap b ws.toArray)
    (h0 : Q (.ref b) s) : wpAny (model prog w) A (binaryOp .Add (.ref t) (.ref b)) Q E s := by
  obtain ⟨⟨cls, dd, data, sl⟩, ho, hc, n, hd⟩ := id ht
  obtain ⟨⟨cls2, dd2, data2, sl2⟩, ho2, hc2, n2, hd2⟩ := id hb
  simp only at hc hd hc2 hd2
  subst hc hd hc2 hd2
  exact concat_meets ⟨_, ho, rfl⟩ ⟨_, ho2, rfl⟩ noFill_tuple_add seq_tuple_add PySem.F.slot_tuple_add PySem.F.entry_tuple_add (PySem.F.args_tuple_add_2 _ _)
    (tuple_addW0 t b _ ws.toArray n n2 dd dd2 sl sl2 (by simp)) ⟨ho, ho2, h0⟩
theorem op_catTA : OpR X (binaryOp .Add) (rCatTA X.K) := by
  intro pins s σ H x y v u Q I rx ry h
  obtain ⟨a, b, xs, ys, rfl, rfl, ha, hb, hz, q0, q1, q2⟩ := h
  by_cases hx : xs = []
  · subst hx
    cases rx
    cases ry
    obtain ⟨its, r1, p1, _⟩ := I.tuple ha
    obtain ⟨its2, r2, p2, _⟩ := I.tuple hb
    cases r1
    exact cat_tup0 p1 p2 ⟨.ref b, H, I, rfl, q0 rfl⟩
  · exact op_catT pins s σ H _ _ v u Q I rx ry ⟨a, b, xs, ys, rfl, rfl, ha, hb, hx, hz, q1 hx, q2 hx⟩

/-! ### slices of tuples -/
theorem getItem_tuple_whole {prog : Program} {w : World} {A : Around} {E : Value → Shared → Prop} {t sl : Addr} {items : Array Value} {vl vu : Value} {lo hi : Option Int} {Q : Value → Shared → Prop} (ht : IsTup s.heap t items) (hs : s.heap.IsSliceOf sl vl vu .none) (pl : IsPart vl lo) (pu : IsPart vu hi)
    (hw : HT.sIx items.size 0 lo = 0 ∧ HT.sIx items.size items.size hi = items.size) (h : Q (.ref t) s) : wpAny (model prog w) A (getItem (.ref t) (.ref sl)) Q E s := by
  obtain ⟨os, hos, hcs, hds⟩ := id hs
  have hTs : s.TypeIs (.ref sl) "slice" := ⟨os, hos, hcs⟩
  unfold getItem
  try with_reducible refine wpAny_holding ?_
  first | refine wpAny_bind (wpAny_pure ?_) | skip
  refine wpAny_bind (wpAny_sequenceKey ht.typeIs (by decide) ?_)
  refine wpAny_bind (wpAny_callSpecial?_slot (name := Str.ofString "__getitem__") ht.typeIs PyProof.Rows.slot_tuple_getitem
    (wpAny_call_entry PyProof.Rows.slot_tuple_getitem ht.typeIs entry_tuple_getitem ?_ (args_tuple_getitem _ _)))
  show wpAny _ _ (Builtin.Tuple.tupleItemsOf (.ref t) >>= _) _ _ s
  refine wpAny_bind (tupleItemsOf_ ht ?_)
  refine wpAny_bind (wpAny_typeOf hTs ?_)
  rw [if_pos (by decide)]
  refine wpAny_bind (HT.sliceApplied_gen hs pl pu ?_)
  rw [hw.1, hw.2]
  have hno : ((((0 : Nat) : Int) == 0 && (1 : Int) == 1 && (items.size - 0) == items.size) = true) := by simp
  show wpAny _ _ (if ((((0 : Nat) : Int) == 0 && (1 : Int) == 1 && (items.size - 0) == items.size) = true) then _ else _) _ _ s
  rw [if_pos hno]
  refine wpAny_bind (m := Builtin.Tuple.tupleIsExact (.ref t)) (wpAny_bind (wpAny_typeOf ht.typeIs (wpAny_pure ?_)))
  rw [if_pos (by decide)]
  first
    | exact wpAny_bind (wpAny_rule (wpAny_pure ⟨_, rfl, wpAny_pure h⟩))
    | exact wpAny_bind (wpAny_rule (wpAny_bind (wpAny_pure (wpAny_pure ⟨_, rfl, wpAny_pure h⟩))))
/-- t[lo:hi] of a tuple -/
def rSlTA (K : PySem.W.Frag) : V → Option Int → Option Int → Hp → VK → Prop := fun x lo hi H Q => ∃ a xs, x = .ref a ∧ SqT K H a xs ∧
  ((HT.sIx xs.length 0 lo = 0 ∧ HT.sIx xs.length xs.length hi = xs.length) → Q (.ref a) H) ∧
  (¬ (HT.sIx xs.length 0 lo = 0 ∧ HT.sIx xs.length xs.length hi = xs.length) → ∀ p, H p = none → Q (.ref p) (upd H p (.tup (cutV xs lo hi))))
theorem sl_tupA : SlR X (rSlTA X.K) := by
  intro pins s σ H x v vl vu lo hi sl Q I rx hs pl pu h
  obtain ⟨a, xs, rfl, hx, q0, q1⟩ := h
  by_cases hw : HT.sIx xs.length 0 lo = 0 ∧ HT.sIx xs.length xs.length hi = xs.length
  · cases rx
    obtain ⟨its, r, ht, hz⟩ := I.tuple hx
    have hlen : its.toArray.size = xs.length := by rw [List.size_toArray]; exact r.length.symm
    refine ⟨"tuple", _, PyProof.Rows.slot_tuple_getitem.lookup, ht.typeIs, ?_⟩
    exact getItem_tuple_whole ht hs pl pu (by rw [hlen]; exact hw) ⟨.ref a, H, I, rfl, q0 hw⟩
  · exact sl_tup pins s σ H _ v vl vu lo hi sl Q I rx hs pl pu ⟨a, xs, rfl, hx, hw, q1 hw⟩
/-! ### t[::-1] of a tuple -/
theorem sliceApplied_back {prog : Program} {w : World} {A : Around} {E : Value → Shared → Prop} {sl : Addr} {vl vu vk : Value} {n : Nat} {Q : Int × Int × Nat → Shared → Prop} (hs : s.heap.IsSliceOf sl vl vu vk) (pl : IsPart vl none) (pu : IsPart vu none) (pk : IsPart vk (some (-1)))
    (h : Q ((n : Int) - 1, -1, n) s) : wpAny (model prog w) A (Builtin.Slice.sliceApplied (.ref sl) (pure (n : Int))) Q E s := by
  obtain ⟨os, hos, hcs, hds⟩ := id hs
  unfold Builtin.Slice.sliceApplied Builtin.Slice.sliceFields
  refine wpAny_bind (wpAny_bind (wpAny_field hos hds (x := vl) rfl (wpAny_bind (wpAny_field hos hds (x := vu) rfl (wpAny_bind (wpAny_field hos hds (x := vk) rfl (wpAny_pure ?_)))))))
  refine wpAny_bind (HT.slicePart_ pk ?_)
  show wpAny _ _ (if ((-1 : Int) == 0) = true then _ else _) _ _ s
  rw [if_neg (by decide)]
  refine wpAny_bind (HT.slicePart_ pl (wpAny_bind (HT.slicePart_ pu (wpAny_bind (wpAny_pure ?_)))))
  show wpAny _ _ (match Builtin.Slice.sliceAdjust none none (-1) (n : Int) with | (lo, hi) => pure (lo, (-1 : Int), Builtin.Slice.slicePlaces lo hi (-1))) _ _ s
  have e : Builtin.Slice.sliceAdjust none none (-1) (n : Int) = ((n : Int) - 1, -1) := by
    unfold Builtin.Slice.sliceAdjust
    simp
  rw [e]
  have e2 : Builtin.Slice.slicePlaces ((n : Int) - 1) (-1) (-1) = n := by
    unfold Builtin.Slice.slicePlaces
    have h1 : ¬ ((-1 : Int) > 0) := by omega
    rw [if_neg h1]
    by_cases h2 : (n : Int) - 1 > -1
    · rw [if_pos h2]
      have e3 : (n : Int) - 1 - -1 - 1 = (n : Int) - 1 := by omega
      have e4 : (- (-1 : Int)) = 1 := by decide
      rw [e3, e4, Int.ediv_one]
      omega
    · rw [if_neg h2]
      omega
  show wpAny _ _ (pure ((n : Int) - 1, (-1 : Int), Builtin.Slice.slicePlaces ((n : Int) - 1) (-1) (-1))) _ _ s
  rw [e2]
  exact wpAny_pure h
theorem fm_congr {α β : Type} {f g : α → Option β} : ∀ {l : List α}, (∀ x ∈ l, f x = g x) → l.filterMap f = l.filterMap g
  | [], _ => rfl
  | x :: r, h => by
    rw [List.filterMap_cons, List.filterMap_cons, h x List.mem_cons_self, fm_congr fun y hy => h y (List.mem_cons_of_mem _ hy)]
theorem pick_back (xs : Array Value) : ((List.range xs.size).filterMap fun (k : Nat) => xs[((xs.size : Int) - 1 + (k : Int) * (-1)).toNat]?).toArray = xs.toList.reverse.toArray := by
  have h := PySem.W.krv_pick xs
  rw [← h]
  unfold slicePick
  rw [PySem.W.krv_bounds]
  show _ = ((sliceRange ((xs.size : Int) - 1) (-1) (-1)).filterMap (xs[·]?)).toArray
  rw [PySem.W.krv_sliceRange, List.filterMap_map]
  congr 1
  refine fm_congr fun k hk => ?_
  have hk := List.mem_range.mp hk
  show xs[((xs.size : Int) - 1 + (k : Int) * (-1)).toNat]? = xs[xs.size - 1 - k]?
  have e : ((xs.size : Int) - 1 + (k : Int) * (-1)).toNat = xs.size - 1 - k := by omega
  rw [e]
theorem getItem_tuple_back {prog : Program} {w : World} {A : Around} {E : Value → Shared → Prop} {t sl : Addr} {items : Array Value} {vl vu vk : Value} {Q : Value → Shared → Prop} (ht : IsTup s.heap t items) (hs : s.heap.IsSliceOf sl vl vu vk) (pl : IsPart vl none) (pu : IsPart vu none) (pk : IsPart vk (some (-1)))
    (h : Q (.ref s.heap.objs.size) { s with heap := s.heap.push { cls := .type "tuple", data := .seq items.toList.reverse.toArray } })
    (hsz : items.size ≤ sizeLine) : wpAny (model prog w) A (getItem (.ref t) (.ref sl)) Q E s := by
  have htake : sizeOk (.seq items.toList.reverse.toArray) := by
    show items.toList.reverse.toArray.size ≤ sizeLine
    rw [List.size_toArray, List.length_reverse, Array.length_toList]
    exact hsz
  obtain ⟨os, hos, hcs, hds⟩ := id hs
  have hTs : s.TypeIs (.ref sl) "slice" := ⟨os, hos, hcs⟩
  unfold getItem
  try with_reducible refine wpAny_holding ?_
  first | refine wpAny_bind (wpAny_pure ?_) | skip
  refine wpAny_bind (wpAny_sequenceKey ht.typeIs (by decide) ?_)
  refine wpAny_bind (wpAny_callSpecial?_slot (name := Str.ofString "__getitem__") ht.typeIs PyProof.Rows.slot_tuple_getitem
    (wpAny_call_entry PyProof.Rows.slot_tuple_getitem ht.typeIs entry_tuple_getitem ?_ (args_tuple_getitem _ _)))
  show wpAny _ _ (Builtin.Tuple.tupleItemsOf (.ref t) >>= _) _ _ s
  refine wpAny_bind (tupleItemsOf_ ht ?_)
  refine wpAny_bind (wpAny_typeOf hTs ?_)
  rw [if_pos (by decide)]
  refine wpAny_bind (sliceApplied_back hs pl pu pk ?_)
  have hno : ¬ (((((items.size : Nat) : Int) - 1) == 0 && (-1 : Int) == 1 && items.size == items.size) = true) := by simp
  show wpAny _ _ (if (((((items.size : Nat) : Int) - 1) == 0 && (-1 : Int) == 1 && items.size == items.size) = true) then _ else _) _ _ s
  rw [if_neg hno, pick_back]
  first
    | exact wpAny_bind (m := Builtin.Tuple.tupleExact _) (wpAny_newObj_type (wpAny_pure ⟨_, rfl, wpAny_pure h⟩) htake)
    | exact wpAny_bind (m := Builtin.Tuple.tupleExact _) (wpAny_newObj_type (wpAny_bind (wpAny_pure (wpAny_pure ⟨_, rfl, wpAny_pure h⟩))) htake)
    | exact wpAny_bind (wpAny_bind (m := Builtin.Tuple.tupleExact _) (wpAny_newObj_type (wpAny_pure (wpAny_pure ⟨_, rfl, wpAny_pure h⟩)) htake))
    | exact wpAny_bind (wpAny_bind (m := Builtin.Tuple.tupleExact _) (wpAny_newObj_type (wpAny_pure ⟨_, rfl, wpAny_pure h⟩) htake))
def tRevT (K : PySem.W.Frag) (te : TE) : TE := fun σ H Q => te σ H fun x H1 => ∃ a xs, x = .ref a ∧ SqT K H1 a xs ∧ ∀ p, H1 p = none → Q (.ref p) (upd H1 p (.tup xs.reverse))
theorem pe_revT {e : Expr} {te : TE} {k : Nat} {p1 p2 p3 pos : Pos} (he : PE X e te) : PE X (.Subscript e (.Slice none none (some (.UnaryOp .USub (.Constant (.int 1) k p1) p2)) p3) pos) (tRevT X.K te) := by
  refine ⟨fun pins s σ H Q I h => ?_⟩
  refine Subscript_ (thn (he.run pins s σ H _ I h) fun v s1 ⟨x, H1, I1, r1, q1⟩ => ?_)
  obtain ⟨a, xs, ex, hx, q⟩ := q1
  subst ex
  cases r1
  have hst : PO X (some (.UnaryOp .USub (.Constant (.int 1) k p1) p2)) (tPart (tUn (rU fun i => .int (-i)) (tC (.int 1)))) := po_some (pe_un un_neg pe_int)
  refine wpAny_Slice (thn (po_none.run pins s1 σ H1 (fun o H2 => o = none ∧ H2 = H1) I1 ⟨rfl, rfl⟩) fun vl s2 ⟨l, H2, I2, pl, el, e2⟩ => ?_)
  subst el e2
  refine thn (po_none.run pins s2 σ H2 (fun o H3 => o = none ∧ H3 = H2) I2 ⟨rfl, rfl⟩) fun vu s3 ⟨u, H3, I3, pu, eu, e3⟩ => ?_
  subst eu e3
  refine thn (hst.run pins s3 σ H3 (fun o H4 => o = some (-1) ∧ H4 = H3) I3 ⟨1, rfl, -1, rfl, rfl, rfl⟩) fun vs s4 ⟨o, H4, I4, ps, eo, e4⟩ => ?_
  subst eo e4
  have I5 : Inv X pins σ H4 { s4 with heap := s4.heap.push { cls := .type "slice", data := .fields #[vl, vu, vs] } } := I4.kept (t' := s4.toks) fun b ob q => Heap.get?_push_of_some _ q
  obtain ⟨its, r, ht, hz⟩ := I5.tuple hx
  have hlen := r.length
  show wpAny (model X.prog X.w) X.A (subscriptTail e (.Slice none none (some (.UnaryOp .USub (.Constant (.int 1) k p1) p2)) p3) (.ref a) (.ref s4.heap.objs.size)) (EP X pins σ Q) X.xe { s4 with heap := s4.heap.push { cls := .type "slice", data := .fields #[vl, vu, vs] } }
  refine tail_any (ops := [.ref a, .ref s4.heap.objs.size]) ht.typeIs (PyProof.Rows.slot_tuple_getitem.lookup) ?_ (by with_unfolding_all rfl)
  refine getItem_tuple_back ht (Heap.IsSliceOf.new _ vl vu vs) pl pu ps ?_ (by rw [List.size_toArray]; omega)
  refine ⟨.ref _, _, I5.laid (t' := s4.toks) (o := .tup xs.reverse) (fun b ob q => Heap.get?_push_of_some _ q) (Nat.le_refl _) ?_, rfl, q _ (I5.hok.fresh (Nat.le_refl _))⟩
  exact ⟨by rw [List.length_reverse]; exact hz, _, r.reverse, IsTup.new _ _⟩
end
end KF
set_option Elab.async false
set_option linter.all false
set_option maxRecDepth 100000
set_option maxHeartbeats 4000000
/-! KF, part 4: expressions, by what they are worth. -/
namespace KF
open PySem PySem.Spec PyProof.Rows L2
abbrev EvF (α : Type) := Env → MH → Out α
def lift {α : Type} (o : Option α) (h : MH) : Out α := match o with
  | some a => .ok a h
  | none => .bad
abbrev kE (M : MK) (m : Mode) (W : WX) (f : EvF D) : TE := tG M (RelM M m) W f
def RB : RT Bool Bool := fun _ _ _ _ _ a b => a = b
theorem sm_B : SM RB := fun _ _ _ _ _ _ _ _ _ _ _ r => r
def RBV : RT Bool V := fun _ _ _ _ _ b v => v = V.bl b
theorem sm_BV : SM RBV := fun _ _ _ _ _ _ _ _ _ _ _ r => r
abbrev kT (M : MK) (W : WX) (f : EvF Bool) : TT := tG M RB W f
inductive RelMs (M : MK) (m : Mode) (B : Bs) (A : List (Option Addr)) (Hs H : Hp) (L : List Addr) : List D → List V → Prop
  | nil : RelMs M m B A Hs H L [] []
  | cons {d : D} {ds : List D} {v : V} {vs : List V} : RelM M m B A Hs H L d v → RelMs M m B A Hs H L ds vs → RelMs M m B A Hs H L (d :: ds) (v :: vs)
theorem sm_Ms {M : MK} {m : Mode} : SM (RelMs M m) := by
  intro B A H L H1 L1 H' L' ds vs x r
  induction r with
  | nil => exact .nil
  | cons r _ ih => exact .cons (sm_M B A H L H1 L1 H' L' _ _ x r) ih
abbrev kA (M : MK) (m : Mode) (W : WX) (f : EvF (List D)) : TA := tG M (RelMs M m) W f
section
variable {M : MK} {m m' : Mode} {B : Bs} {A : List (Option Addr)} {Hs H H' : Hp} {L L' : List Addr} {h : MH} {env : KF.Env} {σ : L2.St} {W : WX}
theorem RelMs.stay {ds : List D} {vs : List V} (r : RelMs M m B A Hs H L ds vs) (x : Ext H L H' L') (o : ∀ (i : Nat) (a : Addr), A[i]? = some (some a) → a ∉ L) : RelMs M m B A Hs H' L' ds vs := by
  induction r with
  | nil => exact .nil
  | cons r _ ih => exact .cons (r.stay x o) ih
theorem RelMs.length {ds : List D} {vs : List V} (r : RelMs M m B A Hs H L ds vs) : ds.length = vs.length := by
  induction r with
  | nil => rfl
  | cons _ _ ih => rw [List.length_cons, List.length_cons, ih]
theorem RelMs.ds {ds : List D} {vs : List V} (r : RelMs M .n B A Hs H L ds vs) : RelDs M.K H L (Zf B L A) ds vs := by
  induction r with
  | nil => exact .nil
  | cons r _ ih => exact .cons r ih
theorem RelM.ofP {d : PyData} {v : V} (r : RelP M.K H (Zf B L A) d v) : RelM M .n B A Hs H L (.py d) v := RelD.py r
theorem kE_le {f : EvF D} (l : m'.le m = true) {σ : L2.St} {H : Hp} {Q : VK} (q : kE M m' W f σ H Q) : kE M m W f σ H Q := by
  obtain ⟨B, L, A, h, env, g, p⟩ := q
  refine ⟨B, L, A, h, env, g, ?_⟩
  cases e : f env h with
  | ok a h1 => rw [e] at p; exact fun b H' L' x g' r => p b H' L' x g' (r.le l)
  | exc c fs h1 => rw [e] at p; exact p
  | bad => rw [e] at p; exact p
end
section
variable {X : Cx} {M : MK} {m m' : Mode} {W : WX}
theorem PE.weak {e : Expr} {f : EvF D} (p : PE X e (kE M m W f)) (l : m'.le m = true) : PE X e (kE M m' W f) := PE.mono p fun _ _ _ q => kE_le l q

/-! ### atoms -/
theorem k_const {e : Expr} {v : V} {d : PyData} (p : PE X e (tC v)) (r : ∀ H Z, RelP M.K H Z d v) : PE X e (kE M .n W fun _ h => .ok (.py d) h) := PE.mono p fun σ H Q ⟨B, L, A, h, env, g, p⟩ => p.fin g (Same.refl H) (RelM.ofP (r _ _))
theorem k_int {i : Int} {k : Nat} {pos : Pos} : PE X (.Constant (.int i) k pos) (kE M .n W fun _ h => .ok (.py (.int i)) h) := k_const pe_int fun _ _ => .int i
theorem k_bool {i : Bool} {k : Nat} {pos : Pos} : PE X (.Constant (.bool i) k pos) (kE M .n W fun _ h => .ok (.py (.bool i)) h) := k_const pe_bl fun _ _ => .bl i
theorem k_none {k : Nat} {pos : Pos} : PE X (.Constant .none k pos) (kE M .n W fun _ h => .ok (.py .none) h) := k_const pe_non fun _ _ => .non
theorem k_str {x : Str} {k : Nat} {pos : Pos} (ok : sOk x = true) : PE X (.Constant (.str x) k pos) (kE M .n W fun _ h => .ok (.py (.str x)) h) := k_const pe_str fun _ _ => .str x ok
def Sl.get : Sl → Option D
  | .u => none
  | .v d => some d
  | .o xs => some (.py (.list xs))
def Sl.getV : Sl → Option D
  | .v d => some d
  | _ => none
def look (env : KF.Env) (i : Nat) : Option D := (env[i]?).bind Sl.get
def lookV (env : KF.Env) (i : Nat) : Option D := (env[i]?).bind Sl.getV
theorem k_var {i : Nat} {x : Str} {pos : Pos} (hN : X.N[i]? = some x) (hv : Vis X.env.scope x) (hd : (x == ("__debug__" : Str)) = false) (hcd : (x == ("__classdict__" : Str)) = false) :
    PE X (.Name x pos) (kE M .b W fun env h => lift (look env i) h) := by
  refine PE.mono (pe_var hN hv hd hcd) fun σ H Q ⟨B, L, A, h, env, g, p⟩ => ?_
  dsimp only at p; unfold look at p
  cases e : env[i]? with
  | none => rw [e] at p; exact p.elim
  | some sl =>
    rw [e] at p
    cases g.slot i sl e with
    | u q => exact p.elim
    | v q1 q2 q3 => exact ⟨_, q2, p.fin g (Same.refl H) (.inl q3)⟩
    | o q1 q2 q3 q4 => exact ⟨_, q2, p.fin g (Same.refl H) (.inr ⟨i, _, _, _, q1, rfl, rfl, q3, q4⟩)⟩
theorem k_varV {i : Nat} {x : Str} {pos : Pos} (hN : X.N[i]? = some x) (hv : Vis X.env.scope x) (hd : (x == ("__debug__" : Str)) = false) (hcd : (x == ("__classdict__" : Str)) = false) :
    PE X (.Name x pos) (kE M .n W fun env h => lift (lookV env i) h) := by
  refine PE.mono (pe_var hN hv hd hcd) fun σ H Q ⟨B, L, A, h, env, g, p⟩ => ?_
  dsimp only at p; unfold lookV at p
  cases e : env[i]? with
  | none => rw [e] at p; exact p.elim
  | some sl =>
    rw [e] at p
    cases g.slot i sl e with
    | u q => exact p.elim
    | v q1 q2 q3 => exact ⟨_, q2, p.fin g (Same.refl H) q3⟩
    | o q1 q2 q3 q4 => exact p.elim

/-! ### two operands -/
def Op2 (M : MK) (m : Mode) (r : R2) (fo : MH → D → D → Option D) : Prop :=
  ∀ (B : Bs) (A : List (Option Addr)) (H : Hp) (L : List Addr) (h : MH) (env : KF.Env) (σ : L2.St) (d1 d2 d3 : D) (v1 v2 : V) (Q : VK), Good M B H L A h env σ → RelM M .b B A H H L d1 v1 → RelM M .b B A H H L d2 v2 → fo h d1 d2 = some d3 →
    (∀ v H', Same H H' → RelM M m B A H H' L d3 v → Q v H') → r v1 v2 H Q
def sem2 (fa fb : EvF D) (fo : MH → D → D → Option D) : EvF D := fun env h => (fa env h).bind fun x h1 => (fb env h1).bind fun y h2 => lift (fo h2 x y) h2
theorem two {fa fb : EvF D} {fo : MH → D → D → Option D} {r : R2} (o2 : Op2 M m r fo) {σ : L2.St} {H : Hp} {Q : VK} (q : kE M m W (sem2 fa fb fo) σ H Q) : tOp r (kE M .b W fa) (kE M .b W fb) σ H Q := by
  obtain ⟨B, L, A, h, env, g, p⟩ := q
  refine tG_bind sm_M g p fun x h1 v H1 L1 e1 x1 g1 r1 p1 => ?_
  refine tG_bind sm_M g1 p1 fun y h2 u H2 L2 e2 x2 g2 r2 p2 => ?_
  have r1' : RelM M .b B A H2 H2 L2 x v := r1.stay x2 fun i a ha => (g1.own i a ha).1
  cases e : fo h2 x y with
  | none => rw [e] at p2; exact p2.elim
  | some d3 => rw [e] at p2; exact o2 B A H2 L2 h2 env σ x y d3 v u Q g2 r1' r2 e fun v3 H3 s3 r3 => p2.fin g2 s3 r3
theorem k_op {op : Operator} {r : R2} {fo : MH → D → D → Option D} {a b : Expr} {fa fb : EvF D} {pos : Pos} (ho : OpR X (binaryOp op) r) (o2 : Op2 M m r fo) (ha : PE X a (kE M .b W fa)) (hb : PE X b (kE M .b W fb)) :
    PE X (.BinOp a op b pos) (kE M m W (sem2 fa fb fo)) := PE.mono (pe_op ho ha hb) fun _ _ _ q => two o2 q
theorem k_cmp {op : CmpOp} {r : R2} {fo : MH → D → D → Option D} {a b : Expr} {fa fb : EvF D} {pos : Pos} (ho : OpR X (compareOp op) r) (o2 : Op2 M m r fo) (ha : PE X a (kE M .b W fa)) (hb : PE X b (kE M .b W fb)) (hm : behindInMarks op b = false) :
    PE X (.Compare a [op] [b] pos) (kE M m W (sem2 fa fb fo)) := PE.mono (pe_cmpR ho ha hb hm) fun _ _ _ q => two o2 q
theorem k_ix {r : R2} {fo : MH → D → D → Option D} {a b : Expr} {fa fb : EvF D} {pos : Pos} (ho : IxR X r) (o2 : Op2 M m r fo) (ha : PE X a (kE M .b W fa)) (hb : PE X b (kE M .b W fb)) (hs : PlainIx b) :
    PE X (.Subscript a b pos) (kE M m W (sem2 fa fb fo)) := PE.mono (pe_ix ho ha hb hs) fun _ _ _ q => two o2 q
/-! ### expressions that make a new list -/
def PostFr (M : MK) (B : Bs) (A : List (Option Addr)) (env : KF.Env) (σ : L2.St) (W : WX) (H : Hp) (L : List Addr) (Q : VK) : Out D → Prop
  | .ok d h' => ∀ ps H1 L1 p vs, d = .py (.list ps) → Ext H L H1 L1 → Good M B H1 L1 A h' env σ → H1 p = none → RelPs M.K H1 (Zf B L1 A) ps vs → Q (.ref p) (upd H1 p (.lst vs))
  | .exc c fs h' => ∀ cls dd H' L', Ext H L H' L' → Good M B H' L' A h' env σ → XRel M B A H' L' c fs cls dd → W cls dd σ H'
  | .bad => False
def kF (M : MK) (W : WX) (f : EvF D) : TE := fun σ H Q => ∃ B L A h env, Good M B H L A h env σ ∧ PostFr M B A env σ W H L Q (f env h)
theorem PE.ofF {e : Expr} {f : EvF D} (p : PE X e (kF M W f)) : PE X e (kE M .n W f) := by
  refine PE.mono p fun σ H Q ⟨B, L, A, h, env, g, q⟩ => ⟨B, L, A, h, env, g, ?_⟩
  cases ef : f env h with
  | ok d h' =>
    rw [ef] at q
    intro ps H1 L1 a vs ed x g1 ha r
    subst ed
    exact q _ _ L1 (x.trans (Ext.same L1 (same_upd ha))) (g1.same (same_upd ha)) (RelM.ofP (.lst (.inl upd_same) (g1.free ha) (r.stay (Ext.same L1 (same_upd ha)).stay)))
  | exc c fs h' => rw [ef] at q; exact q
  | bad => rw [ef] at q; exact q
theorem PostFr.from {B : Bs} {A : List (Option Addr)} {env : KF.Env} {σ : L2.St} {H H1 : Hp} {L L1 : List Addr} {Q : VK} {o : Out D} (x : Ext H L H1 L1) (p : PostFr M B A env σ W H L Q o) : PostFr M B A env σ W H1 L1 Q o := by
  cases o with
  | ok a h => exact fun ps H2 L2 a vs e x' g' n r => p ps H2 L2 a vs e (x.trans x') g' n r
  | exc c fs h => exact fun cls dd H' L' x' g r => p cls dd H' L' (x.trans x') g r
  | bad => exact p
theorem tG_bindF {α β : Type} {B : Bs} {A : List (Option Addr)} {env : KF.Env} {σ : L2.St} {R : RT α β} {H : Hp} {L : List Addr} {h : MH} {f : EvF α} {k : α → MH → Out D} {Q : VK} {T : β → Hp → Prop}
    (g : Good M B H L A h env σ) (p : PostFr M B A env σ W H L Q ((f env h).bind k))
    (hk : ∀ a h1 b H1 L1, f env h = .ok a h1 → Ext H L H1 L1 → Good M B H1 L1 A h1 env σ → R B A H H1 L1 a b → PostFr M B A env σ W H1 L1 Q (k a h1) → T b H1) : tG M R W f σ H T := by
  refine ⟨B, L, A, h, env, g, ?_⟩
  cases e : f env h with
  | ok a h1 => rw [e] at p; exact fun b H' L' x g' r => hk a h1 b H' L' e x g' r (PostFr.from x p)
  | exc c fs h1 => rw [e] at p; exact p
  | bad => rw [e] at p; exact p
theorem PostFr.fin {B : Bs} {A : List (Option Addr)} {env : KF.Env} {σ : L2.St} {H : Hp} {L : List Addr} {h : MH} {Q : VK} {ps : List PyData} {vs : List V} {a : Addr} (p : PostFr M B A env σ W H L Q (.ok (.py (.list ps)) h))
    (g : Good M B H L A h env σ) (n : H a = none) (r : RelPs M.K H (Zf B L A) ps vs) : Q (.ref a) (upd H a (.lst vs)) := p ps H L a vs rfl (Ext.refl H L) g n r
def Op2F (M : MK) (r : R2) (fo : MH → D → D → Option D) : Prop :=
  ∀ (B : Bs) (A : List (Option Addr)) (H : Hp) (L : List Addr) (h : MH) (env : KF.Env) (σ : L2.St) (d1 d2 d3 : D) (v1 v2 : V) (Q : VK), Good M B H L A h env σ → RelM M .b B A H H L d1 v1 → RelM M .b B A H H L d2 v2 → fo h d1 d2 = some d3 →
    (∀ ps a vs, d3 = .py (.list ps) → H a = none → RelPs M.K H (Zf B L A) ps vs → Q (.ref a) (upd H a (.lst vs))) → r v1 v2 H Q
theorem k_opF {op : Operator} {r : R2} {fo : MH → D → D → Option D} {a b : Expr} {fa fb : EvF D} {pos : Pos} (ho : OpR X (binaryOp op) r) (o2 : Op2F M r fo) (ha : PE X a (kE M .b W fa)) (hb : PE X b (kE M .b W fb)) :
    PE X (.BinOp a op b pos) (kF M W (sem2 fa fb fo)) := by
  refine PE.mono (pe_op ho ha hb) fun σ H Q ⟨B, L, A, h, env, g, p⟩ => ?_
  refine tG_bindF g p fun x h1 v H1 L1 e1 x1 g1 r1 p1 => ?_
  refine tG_bindF g1 p1 fun y h2 u H2 L2 e2 x2 g2 r2 p2 => ?_
  have r1' : RelM M .b B A H2 H2 L2 x v := r1.stay x2 fun i a ha => (g1.own i a ha).1
  cases e : fo h2 x y with
  | none => rw [e] at p2; exact p2.elim
  | some d3 => rw [e] at p2; exact o2 B A H2 L2 h2 env σ x y d3 v u Q g2 r1' r2 e fun ps a vs ed n r => by subst ed; exact p2.fin g2 n r
/-- a comparison as a test -/
def semC (fa fb : EvF D) (fo : MH → D → D → Option Bool) : EvF Bool := fun env h => (fa env h).bind fun x h1 => (fb env h1).bind fun y h2 => lift (fo h2 x y) h2
def boolD (fo : MH → D → D → Option Bool) : MH → D → D → Option D := fun h x y => (fo h x y).map fun b => .py (.bool b)
def Cm2 (M : MK) (r : R2) (fo : MH → D → D → Option Bool) : Prop :=
  ∀ (B : Bs) (A : List (Option Addr)) (H : Hp) (L : List Addr) (h : MH) (env : KF.Env) (σ : L2.St) (d1 d2 : D) (b : Bool) (v1 v2 : V) (Q : VK), Good M B H L A h env σ → RelM M .b B A H H L d1 v1 → RelM M .b B A H H L d2 v2 → fo h d1 d2 = some b →
    Q (.bl b) H → r v1 v2 H Q
theorem Cm2.op {r : R2} {fo : MH → D → D → Option Bool} (c : Cm2 M r fo) : Op2 M .n r (boolD fo) := by
  intro B A H L h env σ d1 d2 d3 v1 v2 Q g r1 r2 e k
  unfold boolD at e
  cases e2 : fo h d1 d2 with
  | none => rw [e2] at e; cases e
  | some b => rw [e2] at e; cases e; exact c B A H L h env σ d1 d2 b v1 v2 Q g r1 r2 e2 (k _ _ (Same.refl H) (RelM.ofP (.bl b)))
theorem k_cmpT {op : CmpOp} {r : R2} {fo : MH → D → D → Option Bool} {a b : Expr} {fa fb : EvF D} {pos : Pos} (ho : OpR X (compareOp op) r) (o2 : Cm2 M r fo) (ha : PE X a (kE M .b W fa)) (hb : PE X b (kE M .b W fb)) (hm : behindInMarks op b = false) :
    PT X (.Compare a [op] [b] pos) (kT M W (semC fa fb fo)) := by
  refine PT.mono (pt_cmpR ho ha hb hm) fun σ H Q ⟨B, L, A, h, env, g, p⟩ => ?_
  refine tG_bind sm_B g p fun x h1 v H1 L1 e1 x1 g1 r1 p1 => ?_
  refine tG_bind sm_B g1 p1 fun y h2 u H2 L2 e2 x2 g2 r2 p2 => ?_
  have r1' : RelM M .b B A H2 H2 L2 x v := r1.stay x2 fun i a ha => (g1.own i a ha).1
  cases e : fo h2 x y with
  | none => rw [e] at p2; exact p2.elim
  | some b => rw [e] at p2; exact o2 B A H2 L2 h2 env σ x y b v u _ g2 r1' r2 e ⟨b, rfl, p2.fin g2 (Same.refl _) rfl⟩
/-- two comparisons in a chain -/
def semCh (fa fb fc : EvF D) (f1 f2 : MH → D → D → Option Bool) : EvF Bool := fun env h => (fa env h).bind fun x h1 => (fb env h1).bind fun y h2 => (lift (f1 h2 x y) h2).bind fun k h3 => if k = true then (fc env h3).bind fun z h4 => lift (f2 h4 y z) h4 else .ok false h3
theorem chain_core {r r' : R2} {f1 f2 : MH → D → D → Option Bool} {fa fb fc : EvF D} {α : Type} {R : RT α V} (c1 : Cm2 M r f1) (c2 : Cm2 M r' f2) {β : Type} {RR : RT Bool β} (sm : SM RR) {B : Bs} {A : List (Option Addr)} {H : Hp} {L : List Addr} {h : MH} {env : KF.Env} {σ : L2.St} {Q : β → Hp → Prop}
    (g : Good M B H L A h env σ) (p : Post M B A env σ W (RR B A) H L Q (semCh fa fb fc f1 f2 env h)) {T : VK} (hT : ∀ b h1 H1 L1, Good M B H1 L1 A h1 env σ → Post M B A env σ W (RR B A) H1 L1 Q (.ok b h1) → T (.bl b) H1) :
    tChain r r' (kE M .b W fa) (kE M .b W fb) (kE M .b W fc) σ H T := by
  refine tG_bind sm g p fun x h1 v H1 L1 e1 x1 g1 r1 p1 => ?_
  refine tG_bind sm g1 p1 fun y h2 u H2 L2 e2 x2 g2 r2 p2 => ?_
  have r1' : RelM M .b B A H2 H2 L2 x v := r1.stay x2 fun i a ha => (g1.own i a ha).1
  cases e : f1 h2 x y with
  | none => rw [e] at p2; exact p2.elim
  | some k =>
    rw [e] at p2
    refine c1 B A H2 L2 h2 env σ x y k v u _ g2 r1' r2 e ⟨k, rfl, ?_⟩
    cases k with
    | false => exact hT false h2 H2 L2 g2 p2
    | true =>
      refine tG_bind sm g2 p2 fun z h4 z' H4 L4 e4 x4 g4 r4 p4 => ?_
      have r2' : RelM M .b B A H4 H4 L4 y u := r2.stay x4 fun i a ha => (g2.own i a ha).1
      cases e5 : f2 h4 y z with
      | none => rw [e5] at p4; exact p4.elim
      | some b =>
        rw [e5] at p4
        exact c2 B A H4 L4 h4 env σ y z b u z' _ g4 r2' r4 e5 (hT b h4 H4 L4 g4 p4)
theorem k_chainT {op op' : CmpOp} {r r' : R2} {f1 f2 : MH → D → D → Option Bool} {a b c : Expr} {fa fb fc : EvF D} {pos : Pos} (ho : OpR X (compareOp op) r) (ho' : OpR X (compareOp op') r') (c1 : Cm2 M r f1) (c2 : Cm2 M r' f2)
    (ha : PE X a (kE M .b W fa)) (hb : PE X b (kE M .b W fb)) (hc : PE X c (kE M .b W fc)) (n2 : behindInMarks op' c = false) : PT X (.Compare a [op, op'] [b, c] pos) (kT M W (semCh fa fb fc f1 f2)) := by
  refine PT.mono (pt_chain ho ho' ha hb hc (by simpa [lastMarks] using n2)) fun σ H Q ⟨B, L, A, h, env, g, p⟩ => ?_
  exact chain_core (R := RelM M .n) c1 c2 sm_B g p fun b h1 H1 L1 g1 p1 => ⟨b, rfl, p1.fin g1 (Same.refl _) rfl⟩
theorem k_chain {op op' : CmpOp} {r r' : R2} {f1 f2 : MH → D → D → Option Bool} {a b c : Expr} {fa fb fc : EvF D} {pos : Pos} (ho : OpR X (compareOp op) r) (ho' : OpR X (compareOp op') r') (c1 : Cm2 M r f1) (c2 : Cm2 M r' f2)
    (ha : PE X a (kE M .b W fa)) (hb : PE X b (kE M .b W fb)) (hc : PE X c (kE M .b W fc)) (n2 : behindInMarks op' c = false) :
    PE X (.Compare a [op, op'] [b, c] pos) (kE M .n W fun env h => (semCh fa fb fc f1 f2 env h).bind fun b h1 => .ok (.py (.bool b)) h1) := by
  refine PE.mono (pe_chain ho ho' ha hb hc (by simpa [lastMarks] using n2)) fun σ H Q ⟨B, L, A, h, env, g, p⟩ => ?_
  refine chain_core (R := RelM M .n) (RR := RBV) (Q := Q) c1 c2 sm_BV g ?_ fun b h1 H1 L1 g1 p1 => p1.fin (R := RBV) g1 (Same.refl _) rfl
  dsimp only at p
  cases e : semCh fa fb fc f1 f2 env h with
  | ok b h1 => rw [e] at p; exact fun v H' L' x g' r => by cases (show v = V.bl b from r); exact p _ H' L' x g' (RelM.ofP (.bl b))
  | exc c fs h1 => rw [e] at p; exact p
  | bad => rw [e] at p; exact p
end
end KF
set_option Elab.async false
set_option linter.all false
set_option maxRecDepth 100000
set_option maxHeartbeats 4000000
/-! KF, part 5: tests, displays, arguments, calls of built-ins; the operations by value. -/
namespace KF
open PySem PySem.Spec PyProof.Rows L2
section
variable {X : Cx} {M : MK} {m m' : Mode} {W : WX}
/-! ### truth -/
def truD (h : MH) : D → Option Bool
  | .py .none => some false
  | .py (.bool b) => some b
  | .py (.int i) => some (i != 0)
  | .py (.str x) => some (x.length != 0)
  | .py (.list xs) => some (!xs.isEmpty)
  | .py (.tuple xs) => some (!xs.isEmpty)
  | _ => none
theorem isEmpty_len {α β : Type} {xs : List α} {ys : List β} (h : xs.length = ys.length) : (!xs.isEmpty) = !ys.isEmpty := by
  cases xs <;> cases ys <;> first | rfl | cases h
theorem tru_of {B : Bs} {A : List (Option Addr)} {H : Hp} {L : List Addr} {h : MH} {d : D} {v : V} {k : Bool} (r : RelM M .b B A H H L d v) (e : truD h d = some k) : TruV M.K v H k := by
  cases d with
  | loc n => cases e
  | scr n => cases e
  | py d =>
    cases d with
    | none => cases e; cases r.non; rfl
    | bool b => cases e; cases r.bl; rfl
    | int i => cases e; cases r.int; rfl
    | str x => cases e; obtain ⟨rfl, ok⟩ := r.str; exact ⟨sOk.line ok, by cases x.length <;> rfl⟩
    | list xs => cases e; obtain ⟨a, vs, rfl, h1, h2⟩ := r.list; exact .inl ⟨vs, .inl h1, isEmpty_len h2.length⟩
    | tuple xs => cases e; obtain ⟨a, vs, rfl, h1, h2⟩ := r.tup; exact .inr (.inl ⟨vs, h1, isEmpty_len h2.length⟩)
    | dict kvs => cases e
def semV (fa : EvF D) : EvF Bool := fun env h => (fa env h).bind fun x h1 => lift (truD h1 x) h1
theorem k_val (hK : M.K = X.K) {a : Expr} {fa : EvF D} (ha : PE X a (kE M .b W fa)) (he : ∀ whole, isTrue a X.env whole = (do let v ← whole; standAt a.pos; holding [v] (truthy v))) : PT X a (kT M W (semV fa)) := by
  refine PT.mono (pt_truth ha he) fun σ H Q ⟨B, L, A, h, env, g, p⟩ => ?_
  refine tG_bind sm_B g p fun x h1 v H1 L1 e1 x1 g1 r1 p1 => ?_
  cases e : truD h1 x with
  | none => rw [e] at p1; exact p1.elim
  | some k => rw [e] at p1; rw [← hK]; exact ⟨k, tru_of r1 e, p1.fin g1 (Same.refl _) rfl⟩
theorem k_not {a : Expr} {fa : EvF Bool} {pos : Pos} (ha : PT X a (kT M W fa)) : PT X (.UnaryOp .Not a pos) (kT M W fun env h => (fa env h).bind fun b h1 => .ok (!b) h1) := by
  refine PT.mono (pt_not ha) fun σ H Q ⟨B, L, A, h, env, g, p⟩ => ?_
  exact tG_bind sm_B g p fun x h1 v H1 L1 e1 x1 g1 r1 p1 => by cases (show x = v from r1); exact p1.fin g1 (Same.refl _) rfl
theorem k_notE (hK : M.K = X.K) {a : Expr} {fa : EvF D} {pos : Pos} (ha : PE X a (kE M .b W fa)) : PE X (.UnaryOp .Not a pos) (kE M .n W fun env h => (semV fa env h).bind fun b h1 => .ok (.py (.bool (!b))) h1) := by
  refine PE.mono (pe_notT ha) fun σ H Q ⟨B, L, A, h, env, g, p⟩ => ?_
  have p : Post M B A env σ W (RelM M .n B A) H L Q ((fa env h).bind fun x h1 => (lift (truD h1 x) h1).bind fun b h1 => .ok (.py (.bool (!b))) h1) := by
    dsimp only [semV] at p
    cases e : fa env h with
    | ok a h1 => rw [e] at p; exact p
    | exc c fs h1 => rw [e] at p; exact p
    | bad => rw [e] at p; exact p
  refine tG_bind sm_M g p fun x h1 v H1 L1 e1 x1 g1 r1 p1 => ?_
  cases e : truD h1 x with
  | none => rw [e] at p1; exact p1.elim
  | some k => rw [e] at p1; rw [← hK]; exact ⟨k, tru_of r1 e, p1.fin g1 (Same.refl _) (RelM.ofP (.bl _))⟩
def semAnd (fa fb : EvF Bool) : EvF Bool := fun env h => (fa env h).bind fun b h1 => if b = true then fb env h1 else .ok false h1
def semOr (fa fb : EvF Bool) : EvF Bool := fun env h => (fa env h).bind fun b h1 => if b = true then .ok true h1 else fb env h1
theorem Post.tG {α β : Type} {B : Bs} {A : List (Option Addr)} {H : Hp} {L : List Addr} {h : MH} {env : KF.Env} {σ : L2.St} {R : RT α β} {f : EvF α} {Q : β → Hp → Prop} (g : Good M B H L A h env σ) (p : Post M B A env σ W (R B A) H L Q (f env h)) : tG M R W f σ H Q := ⟨B, L, A, h, env, g, p⟩
theorem k_and1 {a : Expr} {fa : EvF Bool} {pos : Pos} (ha : PT X a (kT M W fa)) : PW X (.BoolOp .And [a] pos) (kT M W fa) := pw_and1 ha
theorem k_or1 {a : Expr} {fa : EvF Bool} {pos : Pos} (ha : PT X a (kT M W fa)) : PW X (.BoolOp .Or [a] pos) (kT M W fa) := pw_or1 ha
theorem k_and {a b : Expr} {rest : List Expr} {fa fb : EvF Bool} {pos : Pos} (ha : PT X a (kT M W fa)) (hb : PW X (.BoolOp .And (b :: rest) pos) (kT M W fb)) : PW X (.BoolOp .And (a :: b :: rest) pos) (kT M W (semAnd fa fb)) := by
  refine PW.mono (pw_and ha hb) fun σ H Q ⟨B, L, A, h, env, g, p⟩ => ?_
  refine tG_bind sm_B g p fun x h1 v H1 L1 e1 x1 g1 r1 p1 => ?_
  cases (show x = v from r1)
  cases x with
  | true => exact Post.tG g1 p1
  | false => exact p1.fin g1 (Same.refl _) rfl
theorem k_or {a b : Expr} {rest : List Expr} {fa fb : EvF Bool} {pos : Pos} (ha : PT X a (kT M W fa)) (hb : PW X (.BoolOp .Or (b :: rest) pos) (kT M W fb)) : PW X (.BoolOp .Or (a :: b :: rest) pos) (kT M W (semOr fa fb)) := by
  refine PW.mono (pw_or ha hb) fun σ H Q ⟨B, L, A, h, env, g, p⟩ => ?_
  refine tG_bind sm_B g p fun x h1 v H1 L1 e1 x1 g1 r1 p1 => ?_
  cases (show x = v from r1)
  cases x with
  | true => exact p1.fin g1 (Same.refl _) rfl
  | false => exact Post.tG g1 p1
/-- and, or as values -/
def semAndE (fa fb : EvF D) : EvF D := fun env h => (fa env h).bind fun x h1 => (lift (truD h1 x) h1).bind fun b h2 => if b = true then fb env h2 else .ok x h2
def semOrE (fa fb : EvF D) : EvF D := fun env h => (fa env h).bind fun x h1 => (lift (truD h1 x) h1).bind fun b h2 => if b = true then .ok x h2 else fb env h2
theorem k_andE (hK : M.K = X.K) {a b : Expr} {rest : List Expr} {fa fb : EvF D} {pos : Pos} (ha : PE X a (kE M .n W fa)) (hb : PE X (.BoolOp .And (b :: rest) pos) (kE M .n W fb)) : PE X (.BoolOp .And (a :: b :: rest) pos) (kE M .n W (semAndE fa fb)) := by
  refine PE.mono (pe_andT ha hb) fun σ H Q ⟨B, L, A, h, env, g, p⟩ => ?_
  refine tG_bind sm_M g p fun x h1 v H1 L1 e1 x1 g1 r1 p1 => ?_
  cases e : truD h1 x with
  | none => rw [e] at p1; exact p1.elim
  | some k =>
    rw [e] at p1
    refine ⟨k, by rw [← hK]; exact tru_of r1.nb e, ?_⟩
    cases k with
    | true => exact Post.tG g1 p1
    | false => exact p1.fin g1 (Same.refl _) r1
theorem k_orE (hK : M.K = X.K) {a b : Expr} {rest : List Expr} {fa fb : EvF D} {pos : Pos} (ha : PE X a (kE M .n W fa)) (hb : PE X (.BoolOp .Or (b :: rest) pos) (kE M .n W fb)) : PE X (.BoolOp .Or (a :: b :: rest) pos) (kE M .n W (semOrE fa fb)) := by
  refine PE.mono (pe_orT ha hb) fun σ H Q ⟨B, L, A, h, env, g, p⟩ => ?_
  refine tG_bind sm_M g p fun x h1 v H1 L1 e1 x1 g1 r1 p1 => ?_
  cases e : truD h1 x with
  | none => rw [e] at p1; exact p1.elim
  | some k =>
    rw [e] at p1
    refine ⟨k, by rw [← hK]; exact tru_of r1.nb e, ?_⟩
    cases k with
    | true => exact p1.fin g1 (Same.refl _) r1
    | false => exact Post.tG g1 p1
def semIf {α : Type} (ft : EvF Bool) (fa fb : EvF α) : EvF α := fun env h => (ft env h).bind fun b h1 => if b = true then fa env h1 else fb env h1
theorem k_ifx {t a b : Expr} {ft : EvF Bool} {fa fb : EvF D} {pos : Pos} (ht : PT X t (kT M W ft)) (ha : PE X a (kE M m W fa)) (hb : PE X b (kE M m W fb)) : PE X (.IfExp t a b pos) (kE M m W (semIf ft fa fb)) := by
  refine PE.mono (pe_ifExp ht ha hb) fun σ H Q ⟨B, L, A, h, env, g, p⟩ => ?_
  refine tG_bind sm_M g p fun x h1 v H1 L1 e1 x1 g1 r1 p1 => ?_
  cases (show x = v from r1)
  cases x with
  | true => exact Post.tG g1 p1
  | false => exact Post.tG g1 p1

/-! ### argument lists -/
def semNil : EvF (List D) := fun _ h => .ok [] h
def semCons (fa : EvF D) (fr : EvF (List D)) : EvF (List D) := fun env h => (fa env h).bind fun x h1 => (fr env h1).bind fun xs h2 => .ok (x :: xs) h2
theorem k_nil : PA X [] (kA M m W semNil) := PA.mono pa_nil fun σ H Q ⟨B, L, A, h, env, g, p⟩ => p.fin g (Same.refl _) .nil
theorem k_cons {e : Expr} {es : List Expr} {fa : EvF D} {fr : EvF (List D)} (ha : PE X e (kE M m W fa)) (hr : PA X es (kA M m W fr)) (hs : starEach (e :: es) X.env = (false, eval e X.env) :: starEach es X.env) : PA X (e :: es) (kA M m W (semCons fa fr)) := by
  refine PA.mono (pa_cons ha hr hs) fun σ H Q ⟨B, L, A, h, env, g, p⟩ => ?_
  refine tG_bind sm_Ms g p fun x h1 v H1 L1 e1 x1 g1 r1 p1 => ?_
  refine tG_bind sm_Ms g1 p1 fun xs h2 vs H2 L2 e2 x2 g2 r2 p2 => ?_
  have r1' : RelM M m B A H2 H2 L2 x v := by
    have := r1.stay x2 fun i a ha => (g1.own i a ha).1
    cases m <;> exact this
  have r2' : RelMs M m B A H2 H2 L2 xs vs := by
    clear p2 e2
    induction r2 with
    | nil => exact .nil
    | cons r _ ih => exact .cons (by cases m <;> exact r) ih
  exact p2.fin g2 (Same.refl _) (.cons r1' r2')
def allPy : List D → Option (List PyData)
  | [] => some []
  | .py d :: r => (allPy r).map (d :: ·)
  | .loc _ :: _ => none
  | .scr _ :: _ => none
theorem RelDs.py {K : PySem.W.Frag} {H : Hp} {L : List Addr} {Z : Addr → Prop} : ∀ {ds : List D} {vs : List V} {ps : List PyData}, RelDs K H L Z ds vs → allPy ds = some ps → RelPs K H Z ps vs
  | _, _, _, .nil, e => by cases e; exact .nil
  | .py d :: r, _, ps, .cons h t, e => by
    have e' : (allPy r).map (d :: ·) = some ps := e
    cases q : allPy r with
    | none => rw [q] at e'; cases e'
    | some qs =>
      rw [q] at e'; cases e'
      cases h with
      | py h => exact .cons h (RelDs.py t q)
  | .loc n :: r, _, ps, .cons h t, e => by cases e
  | .scr n :: r, _, ps, .cons h t, e => by cases e
def fits (n : Nat) : Bool := Nat.ble n 16777216
theorem fits.ok {n : Nat} (h : fits n = true) : n ≤ sizeLine := by
  have := Nat.le_of_ble_eq_true h
  rw [sizeLine_eq]; exact this
def mkTup (ds : List D) : Option D := (allPy ds).bind fun ps => if fits ps.length = true then some (.py (.tuple ps)) else none
def mkLst (ds : List D) : Option D := (allPy ds).bind fun ps => if fits ps.length = true then some (.py (.list ps)) else none
def semTup (f : EvF (List D)) : EvF D := fun env h => (f env h).bind fun ds h1 => lift (mkTup ds) h1
def semLst (f : EvF (List D)) : EvF D := fun env h => (f env h).bind fun ds h1 => lift (mkLst ds) h1
theorem mkTup_some {ds : List D} {d : D} (e : mkTup ds = some d) : ∃ ps, allPy ds = some ps ∧ d = .py (.tuple ps) ∧ fits ps.length = true := by
  unfold mkTup at e
  cases q : allPy ds with
  | none => rw [q] at e; cases e
  | some ps =>
    rw [q] at e
    by_cases hf : fits ps.length = true
    · have e : (if fits ps.length = true then some (D.py (.tuple ps)) else none) = some d := e
      rw [if_pos hf] at e; cases e; exact ⟨ps, rfl, rfl, hf⟩
    · have e : (if fits ps.length = true then some (D.py (.tuple ps)) else none) = some d := e
      rw [if_neg hf] at e; cases e
theorem mkLst_some {ds : List D} {d : D} (e : mkLst ds = some d) : ∃ ps, allPy ds = some ps ∧ d = .py (.list ps) ∧ fits ps.length = true := by
  unfold mkLst at e
  cases q : allPy ds with
  | none => rw [q] at e; cases e
  | some ps =>
    rw [q] at e
    by_cases hf : fits ps.length = true
    · have e : (if fits ps.length = true then some (D.py (.list ps)) else none) = some d := e
      rw [if_pos hf] at e; cases e; exact ⟨ps, rfl, rfl, hf⟩
    · have e : (if fits ps.length = true then some (D.py (.list ps)) else none) = some d := e
      rw [if_neg hf] at e; cases e
/-- a new tuple, a new list -/
theorem relTup {B : Bs} {A : List (Option Addr)} {Hs H : Hp} {L : List Addr} {p : Addr} {ps : List PyData} {vs : List V} (n : H p = none) (r : RelPs M.K H (Zf B L A) ps vs) : RelM M .n B A Hs (upd H p (.tup vs)) L (.py (.tuple ps)) (.ref p) :=
  RelM.ofP (.tup (.inl (.inl upd_same)) (r.stay (Ext.same L (same_upd n)).stay))
theorem k_tup {es : List Expr} {f : EvF (List D)} {k : Nat} {pos : Pos} (ha : PA X es (kA M .n W f)) : PE X (.Tuple es k pos) (kE M .n W (semTup f)) := by
  refine PE.mono (pe_tup ha) fun σ H Q ⟨B, L, A, h, env, g, p⟩ => ?_
  refine tG_bind sm_M g p fun ds h1 vs H1 L1 e1 x1 g1 r1 p1 => ?_
  cases e : mkTup ds with
  | none => rw [e] at p1; exact p1.elim
  | some d =>
    rw [e] at p1
    obtain ⟨ps, ea, rfl, hf⟩ := mkTup_some e
    have r := r1.ds.py ea
    exact ⟨by rw [← r.length]; exact fits.ok hf, fun q hq => p1.fin g1 (same_upd hq) (relTup hq r)⟩
theorem k_lst {es : List Expr} {f : EvF (List D)} {pos : Pos} (ha : PA X es (kA M .n W f)) : PE X (.List es pos) (kF M W (semLst f)) := by
  refine PE.mono (pe_lst ha) fun σ H Q ⟨B, L, A, h, env, g, p⟩ => ?_
  refine tG_bindF g p fun ds h1 vs H1 L1 e1 x1 g1 r1 p1 => ?_
  cases e : mkLst ds with
  | none => rw [e] at p1; exact p1.elim
  | some d =>
    rw [e] at p1
    obtain ⟨ps, ea, rfl, hf⟩ := mkLst_some e
    have r := r1.ds.py ea
    exact ⟨by rw [← r.length]; exact fits.ok hf, fun q hq => p1.fin g1 hq r⟩

/-! ### calls of built-ins -/
def Cl (M : MK) (m : Mode) (r : List V → Hp → VK → Prop) (fo : MH → List D → Option D) : Prop :=
  ∀ (B : Bs) (A : List (Option Addr)) (H : Hp) (L : List Addr) (h : MH) (env : KF.Env) (σ : L2.St) (ds : List D) (d3 : D) (vs : List V) (Q : VK), Good M B H L A h env σ → RelMs M .b B A H H L ds vs → fo h ds = some d3 →
    (∀ v H', Same H H' → RelM M m B A H H' L d3 v → Q v H') → r vs H Q
def semCl (f : EvF (List D)) (fo : MH → List D → Option D) : EvF D := fun env h => (f env h).bind fun ds h1 => lift (fo h1 ds) h1
theorem clb {f : EvF (List D)} {fo : MH → List D → Option D} {r : List V → Hp → VK → Prop} (c : Cl M m r fo) {σ : L2.St} {H : Hp} {Q : VK} (q : kE M m W (semCl f fo) σ H Q) : tCB r (kA M .b W f) σ H Q := by
  obtain ⟨B, L, A, h, env, g, p⟩ := q
  refine tG_bind sm_M g p fun ds h1 vs H1 L1 e1 x1 g1 r1 p1 => ?_
  have r1' : RelMs M .b B A H1 H1 L1 ds vs := by
    clear p1 e1
    induction r1 with
    | nil => exact .nil
    | cons r _ ih => exact .cons r ih
  cases e : fo h1 ds with
  | none => rw [e] at p1; exact p1.elim
  | some d3 => rw [e] at p1; exact c B A H1 L1 h1 env σ ds d3 vs Q g1 r1' e fun v3 H3 s3 r3 => p1.fin g1 s3 r3
def ClF (M : MK) (r : List V → Hp → VK → Prop) (fo : MH → List D → Option D) : Prop :=
  ∀ (B : Bs) (A : List (Option Addr)) (H : Hp) (L : List Addr) (h : MH) (env : KF.Env) (σ : L2.St) (ds : List D) (d3 : D) (vs : List V) (Q : VK), Good M B H L A h env σ → RelMs M .b B A H H L ds vs → fo h ds = some d3 →
    (∀ ps a us, d3 = .py (.list ps) → H a = none → RelPs M.K H (Zf B L A) ps us → Q (.ref a) (upd H a (.lst us))) → r vs H Q
theorem clbF {f : EvF (List D)} {fo : MH → List D → Option D} {r : List V → Hp → VK → Prop} (c : ClF M r fo) {σ : L2.St} {H : Hp} {Q : VK} (q : kF M W (semCl f fo) σ H Q) : tCB r (kA M .b W f) σ H Q := by
  obtain ⟨B, L, A, h, env, g, p⟩ := q
  refine tG_bindF g p fun ds h1 vs H1 L1 e1 x1 g1 r1 p1 => ?_
  have r1' : RelMs M .b B A H1 H1 L1 ds vs := by
    clear p1 e1
    induction r1 with
    | nil => exact .nil
    | cons r _ ih => exact .cons r ih
  cases e : fo h1 ds with
  | none => rw [e] at p1; exact p1.elim
  | some d3 => rw [e] at p1; exact c B A H1 L1 h1 env σ ds d3 vs Q g1 r1' e fun ps a us ed n r => by subst ed; exact p1.fin g1 n r
theorem k_callTyF {x : Str} {T : String} {np pos : Pos} {e : Expr} {es : List Expr} {f : EvF (List D)} {fo : MH → List D → Option D} {r : List V → Hp → VK → Prop} (hc : CallR X (.type T) r) (c : ClF M r fo) (hg : Gl X x) (hm : X.mg x = none) (hv : bootBuiltins x = some (.type T))
    (ha : PA X (e :: es) (kA M .b W f)) (hn : x ≠ "__name__") (hdb : (x == ("__debug__" : Str)) = false) (he : starEach (e :: es) X.env = (false, eval e X.env) :: starEach es X.env) (hpl : (backTo pos (starEach es X.env)).any (·.1) = false) :
    PE X (.Call (.Name x np) (e :: es) [] pos) (kF M W (semCl f fo)) := PE.mono (pe_callTy hc hg hm hv ha hn hdb he hpl) fun _ _ _ q => clbF c q
theorem k_callBF {x : Str} {id : String} {np pos : Pos} {e : Expr} {es : List Expr} {f : EvF (List D)} {fo : MH → List D → Option D} {r : List V → Hp → VK → Prop} (hc : CallR X (.builtin id) r) (c : ClF M r fo) (hg : Gl X x) (hm : X.mg x = none) (hv : bootBuiltins x = some (.builtin id))
    (ha : PA X (e :: es) (kA M .b W f)) (hn : x ≠ "__name__") (hdb : (x == ("__debug__" : Str)) = false) (he : starEach (e :: es) X.env = (false, eval e X.env) :: starEach es X.env) (hpl : (backTo pos (starEach es X.env)).any (·.1) = false) :
    PE X (.Call (.Name x np) (e :: es) [] pos) (kF M W (semCl f fo)) := PE.mono (pe_callB hc hg hm hv ha hn hdb he hpl) fun _ _ _ q => clbF c q
theorem k_callB {x : Str} {id : String} {np pos : Pos} {e : Expr} {es : List Expr} {f : EvF (List D)} {fo : MH → List D → Option D} {r : List V → Hp → VK → Prop} (hc : CallR X (.builtin id) r) (c : Cl M m r fo) (hg : Gl X x) (hm : X.mg x = none) (hv : bootBuiltins x = some (.builtin id))
    (ha : PA X (e :: es) (kA M .b W f)) (hn : x ≠ "__name__") (hdb : (x == ("__debug__" : Str)) = false) (he : starEach (e :: es) X.env = (false, eval e X.env) :: starEach es X.env) (hpl : (backTo pos (starEach es X.env)).any (·.1) = false) :
    PE X (.Call (.Name x np) (e :: es) [] pos) (kE M m W (semCl f fo)) := PE.mono (pe_callB hc hg hm hv ha hn hdb he hpl) fun _ _ _ q => clb c q
theorem k_callTy {x : Str} {T : String} {np pos : Pos} {e : Expr} {es : List Expr} {f : EvF (List D)} {fo : MH → List D → Option D} {r : List V → Hp → VK → Prop} (hc : CallR X (.type T) r) (c : Cl M m r fo) (hg : Gl X x) (hm : X.mg x = none) (hv : bootBuiltins x = some (.type T))
    (ha : PA X (e :: es) (kA M .b W f)) (hn : x ≠ "__name__") (hdb : (x == ("__debug__" : Str)) = false) (he : starEach (e :: es) X.env = (false, eval e X.env) :: starEach es X.env) (hpl : (backTo pos (starEach es X.env)).any (·.1) = false) :
    PE X (.Call (.Name x np) (e :: es) [] pos) (kE M m W (semCl f fo)) := PE.mono (pe_callTy hc hg hm hv ha hn hdb he hpl) fun _ _ _ q => clb c q
end
end KF
set_option Elab.async false
set_option linter.all false
set_option maxRecDepth 100000
set_option maxHeartbeats 4000000
/-! KF, part 6: the operations by value. -/
namespace KF
open PySem PySem.Spec PyProof.Rows L2
/-! ### ints -/
def iop (g : Int → Int → Option Int) : MH → D → D → Option D := fun _ x y => match x, y with
  | .py (.int i), .py (.int j) => (g i j).map fun k => .py (.int k)
  | _, _ => none
def gAdd (i j : Int) : Option Int := some (i + j)
def gSub (i j : Int) : Option Int := some (i - j)
def gMul (i j : Int) : Option Int := if (Nat.blt i.natAbs 18446744073709551616 || Nat.blt j.natAbs 18446744073709551616) = true then some (i * j) else none
def gDiv (i j : Int) : Option Int := if (decide (0 < j) && decide (j < 1073741824)) = true then some (i / j) else none
def gMod (i j : Int) : Option Int := if decide (0 < j) = true then some (i % j) else none
def gPow (i j : Int) : Option Int := if (decide (0 ≤ j) && decide (j ≤ 1000) && Nat.blt i.natAbs 1000000) = true then some (i ^ j.toNat) else none
section
variable {X : Cx} {M : MK} {m m' : Mode} {W : WX}
theorem iop_some {g : Int → Int → Option Int} {h : MH} {x y d : D} (e : iop g h x y = some d) : ∃ i j k, x = .py (.int i) ∧ y = .py (.int j) ∧ g i j = some k ∧ d = .py (.int k) := by
  unfold iop at e
  split at e
  · rename_i i j
    cases q : g i j with
    | none => rw [q] at e; cases e
    | some k => rw [q] at e; cases e; exact ⟨i, j, k, rfl, rfl, q, rfl⟩
  · cases e
theorem o_I0 {f : Int → Int → Int} {g : Int → Int → Option Int} (hg : ∀ i j k, g i j = some k → k = f i j) : Op2 M .n (rI0 fun i j => .int (f i j)) (iop g) := by
  intro B A H L h env σ d1 d2 d3 v1 v2 Q gd r1 r2 e k
  obtain ⟨i, j, n, rfl, rfl, e2, rfl⟩ := iop_some e
  cases hg i j n e2
  exact ⟨i, j, r1.int, r2.int, k _ _ (Same.refl H) (RelM.ofP (.int _))⟩
theorem o_I {C : Int → Int → Prop} {f : Int → Int → Int} {g : Int → Int → Option Int} (hg : ∀ i j k, g i j = some k → k = f i j ∧ C i j) : Op2 M .n (rI C fun i j => .int (f i j)) (iop g) := by
  intro B A H L h env σ d1 d2 d3 v1 v2 Q gd r1 r2 e k
  obtain ⟨i, j, n, rfl, rfl, e2, rfl⟩ := iop_some e
  obtain ⟨rfl, c⟩ := hg i j n e2
  exact ⟨i, j, r1.int, r2.int, c, k _ _ (Same.refl H) (RelM.ofP (.int _))⟩
theorem o_add : Op2 M .n (rI0 fun i j => .int (i + j)) (iop gAdd) := o_I0 fun _ _ _ e => (Option.some.inj e).symm
theorem o_sub : Op2 M .n (rI0 fun i j => .int (i - j)) (iop gSub) := o_I0 fun _ _ _ e => (Option.some.inj e).symm
theorem o_mul : Op2 M .n (rI CMul fun i j => .int (i * j)) (iop gMul) := o_I fun i j k e => by
  unfold gMul at e
  split at e
  · rename_i c
    cases e
    refine ⟨rfl, ?_⟩
    rcases Bool.or_eq_true_iff.mp c with c | c
    · have := Nat.le_of_ble_eq_true c
      exact .inl (by omega)
    · have := Nat.le_of_ble_eq_true c
      exact .inr (by omega)
  · cases e
theorem o_div : Op2 M .n (rI CDiv fun i j => .int (i / j)) (iop gDiv) := o_I fun i j k e => by
  unfold gDiv at e
  split at e
  · rename_i c
    cases e
    obtain ⟨c1, c2⟩ := Bool.and_eq_true_iff.mp c
    exact ⟨rfl, of_decide_eq_true c1, of_decide_eq_true c2⟩
  · cases e
theorem o_mod : Op2 M .n (rI (fun _ j => 0 < j) fun i j => .int (i % j)) (iop gMod) := o_I fun i j k e => by
  unfold gMod at e
  split at e
  · rename_i c
    cases e
    exact ⟨rfl, of_decide_eq_true c⟩
  · cases e
theorem o_pow : Op2 M .n (rI CPow fun i j => .int (i ^ j.toNat)) (iop gPow) := o_I fun i j k e => by
  unfold gPow at e
  split at e
  · rename_i c
    cases e
    obtain ⟨c, c3⟩ := Bool.and_eq_true_iff.mp c
    obtain ⟨c1, c2⟩ := Bool.and_eq_true_iff.mp c
    have c1 := of_decide_eq_true c1
    have c2 := of_decide_eq_true c2
    have c3 := Nat.le_of_ble_eq_true c3
    exact ⟨rfl, c1, by omega, by omega⟩
  · cases e
/-! ### comparisons -/
def icmp (p : Int → Int → Bool) : MH → D → D → Option Bool := fun _ x y => match x, y with
  | .py (.int i), .py (.int j) => some (p i j)
  | _, _ => none
theorem c_int (p : Int → Int → Bool) : Cm2 M (rI0 fun i j => .bl (p i j)) (icmp p) := by
  intro B A H L h env σ d1 d2 b v1 v2 Q g r1 r2 e q
  unfold icmp at e
  split at e
  · cases e; exact ⟨_, _, r1.int, r2.int, q⟩
  · cases e
/-- data of a depth -/
def shal : Nat → PyData → Bool
  | 0, .list _ => false
  | 0, .tuple _ => false
  | n + 1, .list xs => xs.all (shal n)
  | n + 1, .tuple xs => xs.all (shal n)
  | _, _ => true
mutual
theorem shal_depth : ∀ (d : PyData) (n : Nat), d.canLay0 = true → shal n d = true → d.depth ≤ n
  | .none, n, _, _ => by simp [PyData.depth]
  | .bool _, n, _, _ => by simp [PyData.depth]
  | .int _, n, _, _ => by simp [PyData.depth]
  | .str _, n, _, _ => by simp [PyData.depth]
  | .list xs, 0, _, h => by simp [shal] at h
  | .tuple xs, 0, _, h => by simp [shal] at h
  | .list xs, n + 1, c, h => by
    simp only [PyData.depth]
    exact Nat.succ_le_succ (shal_depthAll xs n (by simpa only [PyData.canLay0] using c) (by simpa only [shal] using h))
  | .tuple xs, n + 1, c, h => by
    simp only [PyData.depth]
    exact Nat.succ_le_succ (shal_depthAll xs n (by simpa only [PyData.canLay0] using c) (by simpa only [shal] using h))
  | .dict kvs, n, c, _ => by simp [PyData.canLay0] at c
theorem shal_depthAll : ∀ (xs : List PyData) (n : Nat), PyData.canLayAll0 xs = true → xs.all (shal n) = true → PyData.depthAll xs ≤ n
  | [], n, _, _ => by simp [PyData.depthAll]
  | x :: xs, n, c, h => by
    simp only [PyData.canLayAll0, Bool.and_eq_true] at c
    simp only [List.all_cons, Bool.and_eq_true] at h
    simp only [PyData.depthAll]
    exact Nat.max_le.mpr ⟨shal_depth x n c.1 h.1, shal_depthAll xs n c.2 h.2⟩
end
def eqD : MH → D → D → Option Bool := fun _ x y => match x, y with
  | .py d, .py e => if (shal 64 d || shal 64 e) = true then some (PyData.eqv d e) else none
  | _, _ => none
def neD : MH → D → D → Option Bool := fun h x y => (eqD h x y).map (!·)
def rEqS (K : PySem.W.Frag) : R2 := fun x y H Q => ∃ d e, Dp K H x d ∧ Dp K H y e ∧ d.canLay0 = true ∧ e.canLay0 = true ∧ min d.depth e.depth ≤ 64 ∧ Q (.bl (PyData.eqv d e)) H
def rNeS (K : PySem.W.Frag) : R2 := fun x y H Q => ∃ d e, Dp K H x d ∧ Dp K H y e ∧ d.canLay0 = true ∧ e.canLay0 = true ∧ min d.depth e.depth ≤ 64 ∧ Q (.bl (!PyData.eqv d e)) H
theorem op_eqS (hu : X.A.units + 64 < cLine) : OpR X (compareOp .Eq) (rEqS X.K) := by
  intro pins s σ H x y v u Q I rx ry h
  obtain ⟨d, e, hd, he, c1, c2, dp, q⟩ := h
  obtain ⟨as, r1⟩ := Dp.reads I d x v hd rx
  obtain ⟨bs, r2⟩ := Dp.reads I e y u he ry
  exact SeqAt.compareEq_reads r1 r2 c1 c2 (by omega) ⟨.bl _, H, I, rfl, q⟩
theorem op_neS (hu : X.A.units + 64 < cLine) : OpR X (compareOp .NotEq) (rNeS X.K) := by
  intro pins s σ H x y v u Q I rx ry h
  obtain ⟨d, e, hd, he, c1, c2, dp, q⟩ := h
  obtain ⟨as, r1⟩ := Dp.reads I d x v hd rx
  obtain ⟨bs, r2⟩ := Dp.reads I e y u he ry
  exact SeqAt.compareNe_reads r1 r2 c1 c2 (by omega) ⟨.bl _, H, I, rfl, q⟩
theorem eqD_some {h : MH} {x y : D} {b : Bool} (e : eqD h x y = some b) : ∃ d e, x = .py d ∧ y = .py e ∧ b = PyData.eqv d e ∧ (shal 64 d = true ∨ shal 64 e = true) := by
  unfold eqD at e
  split at e
  · rename_i d e'
    split at e
    · rename_i c; cases e; exact ⟨d, e', rfl, rfl, rfl, Bool.or_eq_true_iff.mp c⟩
    · cases e
  · cases e
theorem min64 {d e : PyData} (c1 : d.canLay0 = true) (c2 : e.canLay0 = true) (h : shal 64 d = true ∨ shal 64 e = true) : min d.depth e.depth ≤ 64 := by
  rcases h with h | h
  · exact Nat.le_trans (Nat.min_le_left _ _) (shal_depth d 64 c1 h)
  · exact Nat.le_trans (Nat.min_le_right _ _) (shal_depth e 64 c2 h)
theorem c_eq : Cm2 M (rEqS M.K) eqD := by
  intro B A H L h env σ d1 d2 b v1 v2 Q g r1 r2 e q
  obtain ⟨d, e', rfl, rfl, rfl, c⟩ := eqD_some e
  exact ⟨d, e', r1.dp, r2.dp, r1.lay, r2.lay, min64 r1.lay r2.lay c, q⟩
theorem c_ne : Cm2 M (rNeS M.K) neD := by
  intro B A H L h env σ d1 d2 b v1 v2 Q g r1 r2 e q
  unfold neD at e
  cases e2 : eqD h d1 d2 with
  | none => rw [e2] at e; cases e
  | some k =>
    rw [e2] at e
    obtain ⟨d, e', rfl, rfl, rfl, c⟩ := eqD_some e2
    cases e
    exact ⟨d, e', r1.dp, r2.dp, r1.lay, r2.lay, min64 r1.lay r2.lay c, q⟩
/-- is None -/
def isN : D → Bool
  | .py .none => true
  | _ => false
def isND : MH → D → D → Option Bool := fun _ x y => match y with
  | .py .none => some (isN x)
  | _ => none
def notND : MH → D → D → Option Bool := fun _ x y => match y with
  | .py .none => some (!isN x)
  | _ => none
theorem isN_eq {B : Bs} {A : List (Option Addr)} {H : Hp} {L : List Addr} {d : D} {v : V} (r : RelM M .b B A H H L d v) : decide (v = .non) = isN d := by
  cases d with
  | loc n => obtain ⟨a, _, rfl⟩ := r.loc; rfl
  | scr n => obtain ⟨a, rfl, _⟩ := r.scr; rfl
  | py d =>
    cases d with
    | none => cases r.non; rfl
    | bool b => cases r.bl; rfl
    | int i => cases r.int; rfl
    | str x => cases r.str.1; rfl
    | list xs => obtain ⟨a, vs, rfl, _⟩ := r.list; rfl
    | tuple xs => obtain ⟨a, vs, rfl, _⟩ := r.tup; rfl
    | dict kvs => cases r.data (by intro _ h; cases h)
theorem c_isN : Cm2 M (fun x y H Q => y = .non ∧ Q (.bl (decide (x = .non))) H) isND := by
  intro B A H L h env σ d1 d2 b v1 v2 Q g r1 r2 e q
  unfold isND at e
  split at e
  · cases e; exact ⟨r2.non, by rw [isN_eq r1]; exact q⟩
  · cases e
theorem c_notN : Cm2 M (fun x y H Q => y = .non ∧ Q (.bl (!decide (x = .non))) H) notND := by
  intro B A H L h env σ d1 d2 b v1 v2 Q g r1 r2 e q
  unfold notND at e
  split at e
  · cases e; exact ⟨r2.non, by rw [isN_eq r1]; exact q⟩
  · cases e
/-! ### lists and tuples -/
def listOf (h : MH) : D → Option (List PyData)
  | .py (.list xs) => some xs
  | .loc n => match h[n]? with
    | some (.lst ds) => allPy ds
    | _ => none
  | _ => none
theorem listOf_rel {B : Bs} {A : List (Option Addr)} {H : Hp} {L : List Addr} {h : MH} {env : KF.Env} {σ : L2.St} {d : D} {v : V} {xs : List PyData} (g : Good M B H L A h env σ) (r : RelM M .b B A H H L d v) (e : listOf h d = some xs) :
    ∃ a vs, v = .ref a ∧ Rd H a (.lst vs) ∧ RelPs M.K H (Zf B L A) xs vs := by
  cases d with
  | scr n => cases e
  | loc n =>
    obtain ⟨a, ha, rfl⟩ := r.loc
    unfold listOf at e
    dsimp only at e
    cases q : h[n]? with
    | none => rw [q] at e; cases e
    | some o =>
      rw [q] at e
      cases o with
      | lst ds =>
        have m := g.obj n _ a q ha
        cases m with
        | lst h1 h2 => exact ⟨a, _, rfl, .inl h1, h2.py e⟩
      | dct kvs => cases e
      | lck kvs => cases e
      | ins c fs => cases e
  | py d =>
    cases d with
    | list ys => cases e; exact r.list
    | none => cases e
    | bool b => cases e
    | int i => cases e
    | str x => cases e
    | tuple xs => cases e
    | dict kvs => cases e
def catL : MH → D → D → Option D := fun h x y => match listOf h x, listOf h y with
  | some xs, some ys => if fits (xs.length + ys.length) = true then some (.py (.list (xs ++ ys))) else none
  | _, _ => none
theorem o_catL : Op2F M rCatR catL := by
  intro B A H L h env σ d1 d2 d3 v1 v2 Q g r1 r2 e k
  unfold catL at e
  cases q1 : listOf h d1 with
  | none => rw [q1] at e; cases e
  | some xs =>
    cases q2 : listOf h d2 with
    | none => rw [q1, q2] at e; cases e
    | some ys =>
      rw [q1, q2] at e
      dsimp only at e
      split at e
      · rename_i c
        cases e
        obtain ⟨a, vs, rfl, h1, h2⟩ := listOf_rel g r1 q1
        obtain ⟨b, us, rfl, h3, h4⟩ := listOf_rel g r2 q2
        exact ⟨a, b, vs, us, rfl, rfl, h1, h3, by rw [← h2.length, ← h4.length]; exact fits.ok c, fun p hp => k _ _ _ rfl hp (h2.append h4)⟩
      · cases e
def catT : MH → D → D → Option D := fun _ x y => match x, y with
  | .py (.tuple xs), .py (.tuple ys) => if fits (xs.length + ys.length) = true then some (.py (.tuple (xs ++ ys))) else none
  | _, _ => none
theorem o_catT : Op2 M .n (rCatTA M.K) catT := by
  intro B A H L h env σ d1 d2 d3 v1 v2 Q g r1 r2 e k
  unfold catT at e
  split at e
  · rename_i xs ys
    split at e
    · rename_i c
      cases e
      obtain ⟨a, vs, rfl, h1, h2⟩ := r1.tup
      obtain ⟨b, us, rfl, h3, h4⟩ := r2.tup
      refine ⟨a, b, vs, us, rfl, rfl, h1, h3, by rw [← h2.length, ← h4.length]; exact fits.ok c, fun q => ?_, fun _ q => ?_, fun _ _ p hp => k _ _ (same_upd hp) (relTup hp (h2.append h4))⟩
      · subst q
        cases h2
        exact k _ _ (Same.refl H) (RelM.ofP (.tup h3 h4))
      · subst q
        cases h4
        rw [List.append_nil] at k
        exact k _ _ (Same.refl H) (RelM.ofP (.tup h1 h2))
    · cases e
  · cases e
theorem ixN_len {α β : Type} {xs : List α} {ys : List β} (h : xs.length = ys.length) (i : Int) : ixN xs.length i = ixN ys.length i := by rw [h]
def ixD (h : MH) (d : D) (i : Int) : Option D := match d with
  | .py (.list xs) => (atI xs i).map .py
  | .py (.tuple xs) => (atI xs i).map .py
  | .py (.str x) => (atI x.cps.toList i).map fun c => .py (.str ⟨#[c]⟩)
  | .loc n => match h[n]? with
    | some (.lst ds) => atI ds i
    | _ => none
  | _ => none
def ixO : MH → D → D → Option D := fun h x y => match y with
  | .py (.int i) => ixD h x i
  | _ => none
theorem atI_rel {K : PySem.W.Frag} {H : Hp} {Z : Addr → Prop} {ds : List PyData} {vs : List V} {i : Int} {d : PyData} (r : RelPs K H Z ds vs) (e : atI ds i = some d) : ∃ v, atI vs i = some v ∧ RelP K H Z d v := by
  unfold atI at e ⊢
  rw [← r.length]
  cases q : ixN ds.length i with
  | none => rw [q] at e; cases e
  | some j => rw [q] at e; exact r.get (i := j) e
theorem atI_relD {K : PySem.W.Frag} {H : Hp} {L : List Addr} {Z : Addr → Prop} {ds : List D} {vs : List V} {i : Int} {d : D} (r : RelDs K H L Z ds vs) (e : atI ds i = some d) : ∃ v, atI vs i = some v ∧ RelD K H L Z d v := by
  unfold atI at e ⊢
  rw [← r.length]
  cases q : ixN ds.length i with
  | none => rw [q] at e; cases e
  | some j => rw [q] at e; exact r.get (i := j) e
theorem sOk_sign {x : Str} {c : Nat} {i : Int} (ok : sOk x = true) (e : atI x.cps.toList i = some c) : sOk ⟨#[c]⟩ = true := by
  have h1 := sOk.ok ok
  have hm : c ∈ x.cps.toList := by
    unfold atI at e
    cases q : ixN x.cps.toList.length i with
    | none => rw [q] at e; cases e
    | some j => rw [q] at e; exact List.mem_of_getElem? e
  have hc : (decide (c < 0x110000)) = true := by
    unfold PyData.strOk at h1
    rw [← Array.all_toList] at h1
    exact List.all_eq_true.mp h1 c hm
  unfold sOk PyData.strOk
  have hc := of_decide_eq_true hc
  simp [hc, Str.length]
theorem o_ix : Op2 M .n (rIx M.K) ixO := by
  intro B A H L h env σ d1 d2 d3 v1 v2 Q g r1 r2 e k
  unfold ixO at e
  split at e
  · rename_i i
    cases r2.int
    cases d1 with
    | scr n => cases e
    | loc n =>
      obtain ⟨a, ha, rfl⟩ := r1.loc
      unfold ixD at e
      dsimp only at e
      cases q : h[n]? with
      | none => rw [q] at e; cases e
      | some o =>
        rw [q] at e
        cases o with
        | lst ds =>
          have m := g.obj n _ a q ha
          cases m with
          | lst h1 h2 =>
            obtain ⟨v, e1, e2⟩ := atI_relD h2 e
            exact .inl ⟨a, _, i, v, rfl, rfl, .inl (.inl h1), e1, k _ _ (Same.refl H) e2⟩
        | dct kvs => cases e
        | lck kvs => cases e
        | ins c fs => cases e
    | py d =>
      cases d with
      | list xs =>
        obtain ⟨a, vs, rfl, h1, h2⟩ := r1.list
        have e : (atI xs i).map D.py = some d3 := e
        cases q : atI xs i with
        | none => rw [q] at e; cases e
        | some d =>
          rw [q] at e; cases e
          obtain ⟨v, e1, e2⟩ := atI_rel h2 q
          exact .inl ⟨a, _, i, v, rfl, rfl, .inl h1, e1, k _ _ (Same.refl H) (RelM.ofP e2)⟩
      | tuple xs =>
        obtain ⟨a, vs, rfl, h1, h2⟩ := r1.tup
        have e : (atI xs i).map D.py = some d3 := e
        cases q : atI xs i with
        | none => rw [q] at e; cases e
        | some d =>
          rw [q] at e; cases e
          obtain ⟨v, e1, e2⟩ := atI_rel h2 q
          exact .inr (.inl ⟨a, _, i, v, rfl, rfl, h1, e1, k _ _ (Same.refl H) (RelM.ofP e2)⟩)
      | str x =>
        obtain ⟨rfl, ok⟩ := r1.str
        have e : (atI x.cps.toList i).map (fun c => D.py (.str ⟨#[c]⟩)) = some d3 := e
        cases q : atI x.cps.toList i with
        | none => rw [q] at e; cases e
        | some c =>
          rw [q] at e; cases e
          exact .inr (.inr ⟨x, i, c, rfl, rfl, sOk.line ok, q, k _ _ (Same.refl H) (RelM.ofP (.str _ (sOk_sign ok q)))⟩)
      | none => cases e
      | bool b => cases e
      | int i => cases e
      | dict kvs => cases e
  · cases e
end
end KF
set_option Elab.async false
set_option linter.all false
set_option maxRecDepth 100000
set_option maxHeartbeats 4000000
/-! KF, part 7: slices, built-ins. -/
namespace KF
open PySem PySem.Spec PyProof.Rows L2
section
variable {X : Cx} {M : MK} {m m' : Mode} {W : WX}
def RO : RT (Option Int) (Option Int) := fun _ _ _ _ _ a b => a = b
theorem sm_O : SM RO := fun _ _ _ _ _ _ _ _ _ _ _ r => r
abbrev kO (M : MK) (W : WX) (f : EvF (Option Int)) : TO := tG M RO W f
theorem PO.mono {e : Option Expr} {t t' : TO} (h : PO X e t) (i : ∀ σ H Q, t' σ H Q → t σ H Q) : PO X e t' := ⟨fun pins s σ H Q I q => h.run pins s σ H Q I (i σ H Q q)⟩
def semNo : EvF (Option Int) := fun _ h => .ok none h
def asI : D → Option (Option Int)
  | .py (.int i) => some (some i)
  | _ => none
def semSo (fa : EvF D) : EvF (Option Int) := fun env h => (fa env h).bind fun x h1 => lift (asI x) h1
theorem k_no : PO X none (kO M W semNo) := PO.mono po_none fun σ H Q ⟨B, L, A, h, env, g, p⟩ => p.fin g (Same.refl _) rfl
theorem k_so {e : Expr} {fa : EvF D} (ha : PE X e (kE M .b W fa)) : PO X (some e) (kO M W (semSo fa)) := by
  refine PO.mono (po_some ha) fun σ H Q ⟨B, L, A, h, env, g, p⟩ => ?_
  refine tG_bind sm_O g p fun x h1 v H1 L1 e1 x1 g1 r1 p1 => ?_
  cases e : asI x with
  | none => rw [e] at p1; exact p1.elim
  | some o =>
    rw [e] at p1
    unfold asI at e
    split at e
    · cases e; exact ⟨_, r1.int, p1.fin g1 (Same.refl _) rfl⟩
    · cases e
def cut {α : Type} (xs : List α) (lo hi : Option Int) : List α := (xs.drop (HT.sIx xs.length 0 lo)).take (HT.sIx xs.length xs.length hi - HT.sIx xs.length 0 lo)
theorem cut_rel {K : PySem.W.Frag} {H : Hp} {Z : Addr → Prop} {ds : List PyData} {vs : List V} (r : RelPs K H Z ds vs) (lo hi : Option Int) : RelPs K H Z (cut ds lo hi) (cutV vs lo hi) := by
  unfold cut cutV
  rw [r.length]
  exact (r.drop _).take _
def cutD : D → Option Int → Option Int → Option D
  | .py (.list xs), lo, hi => some (.py (.list (cut xs lo hi)))
  | .py (.tuple xs), lo, hi => some (.py (.tuple (cut xs lo hi)))
  | _, _, _ => none
def semSl (fa : EvF D) (fl fh : EvF (Option Int)) (fo : D → Option Int → Option Int → Option D) : EvF D := fun env h => (fa env h).bind fun x h1 => (fl env h1).bind fun lo h2 => (fh env h2).bind fun hi h3 => lift (fo x lo hi) h3
def cutL : D → Option Int → Option Int → Option D
  | .py (.list xs), lo, hi => some (.py (.list (cut xs lo hi)))
  | _, _, _ => none
def cutT : D → Option Int → Option Int → Option D
  | .py (.tuple xs), lo, hi => some (.py (.tuple (cut xs lo hi)))
  | _, _, _ => none
theorem k_slT (hK : M.K = X.K) {e : Expr} {lo hi : Option Expr} {p2 pos : Pos} {fa : EvF D} {fl fh : EvF (Option Int)} (ha : PE X e (kE M .b W fa)) (hl : PO X lo (kO M W fl)) (hh : PO X hi (kO M W fh)) :
    PE X (.Subscript e (.Slice lo hi none p2) pos) (kE M .n W (semSl fa fl fh cutT)) := by
  refine PE.mono (pe_slice sl_tupA ha hl hh) fun σ H Q ⟨B, L, A, h, env, g, p⟩ => ?_
  refine tG_bind sm_M g p fun x h1 v H1 L1 e1 x1 g1 r1 p1 => ?_
  refine tG_bind sm_M g1 p1 fun lo h2 lo' H2 L2 e2 x2 g2 r2 p2 => ?_
  refine tG_bind sm_M g2 p2 fun hi h3 hi' H3 L3 e3 x3 g3 r3 p3 => ?_
  cases (show lo = lo' from r2)
  cases (show hi = hi' from r3)
  have r1' : RelM M .b B A H3 H3 L3 x v := r1.stay (x2.trans x3) fun i a ha => (g1.own i a ha).1
  cases e : cutT x lo hi with
  | none => rw [e] at p3; exact p3.elim
  | some d =>
    rw [e] at p3
    unfold cutT at e
    split at e
    · cases e
      obtain ⟨a, vs, rfl, q1, q2⟩ := r1'.tup
      refine ⟨a, vs, rfl, hK ▸ q1, fun hw => ?_, fun hw q hq => p3.fin g3 (same_upd hq) (relTup hq (cut_rel q2 lo hi))⟩
      have ec : cutV vs lo hi = vs := by
        unfold cutV
        rw [hw.1, hw.2, List.drop_zero, Nat.sub_zero, List.take_length]
      have := cut_rel q2 lo hi
      rw [ec] at this
      exact p3.fin g3 (Same.refl _) (RelM.ofP (.tup q1 this))
    · cases e
theorem k_slL (hK : M.K = X.K) {e : Expr} {lo hi : Option Expr} {p2 pos : Pos} {fa : EvF D} {fl fh : EvF (Option Int)} (ha : PE X e (kE M .b W fa)) (hl : PO X lo (kO M W fl)) (hh : PO X hi (kO M W fh)) :
    PE X (.Subscript e (.Slice lo hi none p2) pos) (kF M W (semSl fa fl fh cutL)) := by
  refine PE.mono (pe_slice sl_list ha hl hh) fun σ H Q ⟨B, L, A, h, env, g, p⟩ => ?_
  refine tG_bindF g p fun x h1 v H1 L1 e1 x1 g1 r1 p1 => ?_
  refine tG_bindF g1 p1 fun lo h2 lo' H2 L2 e2 x2 g2 r2 p2 => ?_
  refine tG_bindF g2 p2 fun hi h3 hi' H3 L3 e3 x3 g3 r3 p3 => ?_
  cases (show lo = lo' from r2)
  cases (show hi = hi' from r3)
  have r1' : RelM M .b B A H3 H3 L3 x v := r1.stay (x2.trans x3) fun i a ha => (g1.own i a ha).1
  cases e : cutL x lo hi with
  | none => rw [e] at p3; exact p3.elim
  | some d =>
    rw [e] at p3
    unfold cutL at e
    split at e
    · cases e
      obtain ⟨a, vs, rfl, q1, q2⟩ := r1'.list
      exact ⟨a, vs, rfl, .inl q1, fun q hq => p3.fin g3 hq (cut_rel q2 lo hi)⟩
    · cases e
def revT : MH → D → Option D := fun _ x => match x with
  | .py (.tuple xs) => some (.py (.tuple xs.reverse))
  | _ => none
def sem1 (fa : EvF D) (fo : MH → D → Option D) : EvF D := fun env h => (fa env h).bind fun x h1 => lift (fo h1 x) h1
theorem k_revT (hK : M.K = X.K) {e : Expr} {k : Nat} {p1 p2 p3 pos : Pos} {fa : EvF D} (ha : PE X e (kE M .b W fa)) :
    PE X (.Subscript e (.Slice none none (some (.UnaryOp .USub (.Constant (.int 1) k p1) p2)) p3) pos) (kE M .n W (sem1 fa revT)) := by
  refine PE.mono (pe_revT ha) fun σ H Q ⟨B, L, A, h, env, g, p⟩ => ?_
  refine tG_bind sm_M g p fun x h1 v H1 L1 e1 x1 g1 r1 p1 => ?_
  cases e : revT h1 x with
  | none => rw [e] at p1; exact p1.elim
  | some d =>
    rw [e] at p1
    unfold revT at e
    split at e
    · cases e
      obtain ⟨a, vs, rfl, q1, q2⟩ := r1.tup
      exact ⟨a, vs, rfl, hK ▸ q1, fun q hq => p1.fin g1 (same_upd hq) (relTup hq q2.reverse)⟩
    · cases e
/-- -a -/
def negD : MH → D → Option D := fun _ x => match x with
  | .py (.int i) => some (.py (.int (-i)))
  | _ => none
theorem k_neg {a : Expr} {fa : EvF D} {pos : Pos} (ha : PE X a (kE M .b W fa)) : PE X (.UnaryOp .USub a pos) (kE M .n W (sem1 fa negD)) := by
  refine PE.mono (pe_un un_neg ha) fun σ H Q ⟨B, L, A, h, env, g, p⟩ => ?_
  refine tG_bind sm_M g p fun x h1 v H1 L1 e1 x1 g1 r1 p1 => ?_
  cases e : negD h1 x with
  | none => rw [e] at p1; exact p1.elim
  | some d =>
    rw [e] at p1
    unfold negD at e
    split at e
    · cases e; exact ⟨_, r1.int, p1.fin g1 (Same.refl _) (RelM.ofP (.int _))⟩
    · cases e
/-! ### built-ins -/
theorem relMs1 {B : Bs} {A : List (Option Addr)} {H : Hp} {L : List Addr} {d : D} {vs : List V} (r : RelMs M .b B A H H L [d] vs) : ∃ v, vs = [v] ∧ RelM M .b B A H H L d v := by
  cases r with
  | cons r t => cases t; exact ⟨_, rfl, r⟩
theorem relMs2 {B : Bs} {A : List (Option Addr)} {H : Hp} {L : List Addr} {d e : D} {vs : List V} (r : RelMs M .b B A H H L [d, e] vs) : ∃ v w, vs = [v, w] ∧ RelM M .b B A H H L d v ∧ RelM M .b B A H H L e w := by
  cases r with
  | cons r t =>
    obtain ⟨w, rfl, q⟩ := relMs1 t
    exact ⟨_, w, rfl, r, q⟩
def lenD (h : MH) : D → Option Nat
  | .py (.str x) => some x.length
  | .py (.list xs) => some xs.length
  | .py (.tuple xs) => some xs.length
  | .loc n => match h[n]? with
    | some (.lst ds) => some ds.length
    | _ => none
  | _ => none
def fLen : MH → List D → Option D := fun h ds => match ds with
  | [d] => (lenD h d).map fun n => .py (.int n)
  | _ => none
theorem b_len : Cl M .n (fun xs H Q => ∃ x n, xs = [x] ∧ LenV M.K x H n ∧ Q (.int n) H) fLen := by
  intro B A H L h env σ ds d3 vs Q g rr e k
  unfold fLen at e
  split at e
  · rename_i d
    obtain ⟨v, rfl, r⟩ := relMs1 rr
    cases q : lenD h d with
    | none => rw [q] at e; cases e
    | some n =>
      rw [q] at e; cases e
      refine ⟨v, n, rfl, ?_, k _ _ (Same.refl H) (RelM.ofP (.int _))⟩
      cases d with
      | scr j => cases q
      | loc j =>
        obtain ⟨a, ha, rfl⟩ := r.loc
        unfold lenD at q
        dsimp only at q
        cases q2 : h[j]? with
        | none => rw [q2] at q; cases q
        | some o =>
          rw [q2] at q
          cases o with
          | lst ds =>
            cases q
            cases g.obj j _ a q2 ha with
            | lst h1 h2 => exact .inl ⟨_, .inl (.inl h1), h2.length⟩
          | dct kvs => cases q
          | lck kvs => cases q
          | ins c fs => cases q
      | py d =>
        cases d with
        | str x => cases q; obtain ⟨rfl, ok⟩ := r.str; exact ⟨sOk.line ok, rfl⟩
        | list xs => cases q; obtain ⟨a, vs, rfl, h1, h2⟩ := r.list; exact .inl ⟨vs, .inl h1, h2.length⟩
        | tuple xs => cases q; obtain ⟨a, vs, rfl, h1, h2⟩ := r.tup; exact .inr ⟨vs, h1, h2.length⟩
        | none => cases q
        | bool b => cases q
        | int i => cases q
        | dict kvs => cases q
  · cases e
def fInt : MH → List D → Option D := fun _ ds => match ds with
  | [.py (.int i)] => some (.py (.int i))
  | [.py (.bool b)] => some (.py (.int (if b then 1 else 0)))
  | _ => none
theorem b_int : Cl M .n (fun xs H Q => (∃ i, xs = [.int i] ∧ Q (.int i) H) ∨ ∃ k, xs = [.bl k] ∧ Q (.int (if k then 1 else 0)) H) fInt := by
  intro B A H L h env σ ds d3 vs Q g rr e k
  unfold fInt at e
  split at e
  · cases e
    obtain ⟨v, rfl, r⟩ := relMs1 rr
    cases r.int
    exact .inl ⟨_, rfl, k _ _ (Same.refl H) (RelM.ofP (.int _))⟩
  · cases e
    obtain ⟨v, rfl, r⟩ := relMs1 rr
    cases r.bl
    exact .inr ⟨_, rfl, k _ _ (Same.refl H) (RelM.ofP (.int _))⟩
  · cases e
def fMax2 : MH → List D → Option D := fun _ ds => match ds with
  | [.py (.int i), .py (.int j)] => some (.py (.int (if j > i then j else i)))
  | _ => none
def fMin2 : MH → List D → Option D := fun _ ds => match ds with
  | [.py (.int i), .py (.int j)] => some (.py (.int (if j < i then j else i)))
  | _ => none
theorem b_max2 : Cl M .n (fun xs H Q => ∃ i j, xs = [.int i, .int j] ∧ Q (.int (if j > i then j else i)) H) fMax2 := by
  intro B A H L h env σ ds d3 vs Q g rr e k
  unfold fMax2 at e
  split at e
  · cases e
    obtain ⟨v, w, rfl, r1, r2⟩ := relMs2 rr
    cases r1.int
    cases r2.int
    exact ⟨_, _, rfl, k _ _ (Same.refl H) (RelM.ofP (.int _))⟩
  · cases e
theorem b_min2 : Cl M .n (fun xs H Q => ∃ i j, xs = [.int i, .int j] ∧ Q (.int (if j < i then j else i)) H) fMin2 := by
  intro B A H L h env σ ds d3 vs Q g rr e k
  unfold fMin2 at e
  split at e
  · cases e
    obtain ⟨v, w, rfl, r1, r2⟩ := relMs2 rr
    cases r1.int
    cases r2.int
    exact ⟨_, _, rfl, k _ _ (Same.refl H) (RelM.ofP (.int _))⟩
  · cases e
def fAbs : MH → List D → Option D := fun _ ds => match ds with
  | [.py (.int i)] => some (.py (.int (if i < 0 then -i else i)))
  | _ => none
theorem b_abs : Cl M .n (fun xs H Q => ∃ i, xs = [.int i] ∧ Q (.int (if i < 0 then -i else i)) H) fAbs := by
  intro B A H L h env σ ds d3 vs Q g rr e k
  unfold fAbs at e
  split at e
  · cases e
    obtain ⟨v, rfl, r⟩ := relMs1 rr
    cases r.int
    exact ⟨_, rfl, k _ _ (Same.refl H) (RelM.ofP (.int _))⟩
  · cases e
/-- tuple(xs), list(xs) -/
def fTup : MH → List D → Option D := fun h ds => match ds with
  | [.py (.tuple xs)] => some (.py (.tuple xs))
  | [d] => (listOf h d).map fun xs => .py (.tuple xs)
  | _ => none
theorem b_tup (hK : M.K = X.K) : Cl M .n (fun xs H Q => ∃ p ys, xs = [.ref p] ∧ ((SqL X.K H p ys ∧ ∀ l, H l = none → Q (.ref l) (upd H l (.tup ys))) ∨ (SqT X.K H p ys ∧ Q (.ref p) H))) fTup := by
  intro B A H L h env σ ds d3 vs Q g rr e k
  unfold fTup at e
  split at e
  · cases e
    obtain ⟨v, rfl, r⟩ := relMs1 rr
    obtain ⟨a, us, rfl, h1, h2⟩ := r.tup
    exact ⟨a, us, rfl, .inr ⟨hK ▸ h1, k _ _ (Same.refl H) (RelM.ofP (.tup h1 h2))⟩⟩
  · rename_i d _
    obtain ⟨v, rfl, r⟩ := relMs1 rr
    cases q : listOf h d with
    | none => rw [q] at e; cases e
    | some xs =>
      rw [q] at e; cases e
      obtain ⟨a, us, rfl, h1, h2⟩ := listOf_rel g r q
      exact ⟨a, us, rfl, .inl ⟨.inl h1, fun l hl => k _ _ (same_upd hl) (relTup hl h2)⟩⟩
  · cases e
theorem relInts {K : PySem.W.Frag} {H : Hp} {Z : Addr → Prop} : ∀ ns : List Int, RelPs K H Z (ns.map .int) (ns.map V.int)
  | [] => .nil
  | n :: r => .cons (.int n) (relInts r)
def fLst : MH → List D → Option D := fun h ds => match ds with
  | [.py (.tuple xs)] => some (.py (.list xs))
  | [.scr ns] => some (.py (.list (ns.map .int)))
  | [d] => (listOf h d).map fun xs => .py (.list xs)
  | _ => none
theorem b_lst (hK : M.K = X.K) : ClF M (fun xs H Q => ∃ p ys, xs = [.ref p] ∧ (SqL X.K H p ys ∨ SqT X.K H p ys) ∧ ∀ l, H l = none → Q (.ref l) (upd H l (.lst ys))) fLst := by
  intro B A H L h env σ ds d3 vs Q g rr e k
  unfold fLst at e
  split at e
  · cases e
    obtain ⟨v, rfl, r⟩ := relMs1 rr
    obtain ⟨a, us, rfl, h1, h2⟩ := r.tup
    exact ⟨a, us, rfl, .inr (hK ▸ h1), fun l hl => k _ _ _ rfl hl h2⟩
  · cases e
    obtain ⟨v, rfl, r⟩ := relMs1 rr
    obtain ⟨a, rfl, h1⟩ := r.scr
    exact ⟨a, _, rfl, .inl (hK ▸ h1.l), fun l hl => k _ _ _ rfl hl (relInts _)⟩
  · rename_i d _ _
    obtain ⟨v, rfl, r⟩ := relMs1 rr
    cases q : listOf h d with
    | none => rw [q] at e; cases e
    | some xs =>
      rw [q] at e; cases e
      obtain ⟨a, us, rfl, h1, h2⟩ := listOf_rel g r q
      exact ⟨a, us, rfl, .inl (.inl h1), fun l hl => k _ _ _ rfl hl h2⟩
  · cases e
/-! ### isinstance -/
def tyD : D → Option String
  | .py .none => some "NoneType"
  | .py (.bool _) => some "bool"
  | .py (.int _) => some "int"
  | .py (.str _) => some "str"
  | .py (.list _) => some "list"
  | .py (.tuple _) => some "tuple"
  | _ => none
def isTy (T t : String) : Bool := t == T || (t == "bool" && T == "int")
def tys : List String := ["NoneType", "bool", "int", "str", "list", "tuple"]
theorem kit_tab : ∀ t ∈ tys, ∀ T ∈ tys, kitB t T = some (isTy T t) := by decide +kernel
def isiD (T : String) : MH → D → Option D := fun _ d => (tyD d).map fun t => .py (.bool (isTy T t))
theorem tyD_mem {d : D} {t : String} (e : tyD d = some t) : t ∈ tys := by
  unfold tyD at e
  split at e <;> first | (cases e; decide) | cases e
theorem tyD_rel {B : Bs} {A : List (Option Addr)} {H : Hp} {L : List Addr} {d : D} {v : V} {t : String} (r : RelM M .b B A H H L d v) (e : tyD d = some t) : TyX M.K H v (.type t) := by
  cases d with
  | loc n => cases e
  | scr n => cases e
  | py d =>
    cases d with
    | none => cases e; cases r.non; exact .base .non
    | bool b => cases e; cases r.bl; exact .base (.bl _)
    | int i => cases e; cases r.int; exact .base (.int _)
    | str x => cases e; cases r.str.1; exact .base (.str _)
    | list xs =>
      cases e
      obtain ⟨a, vs, rfl, h1, _⟩ := r.list
      rcases h1 with h1 | ⟨o, h1⟩
      · exact .base (.lst h1)
      · exact .base (.frz h1)
    | tuple xs =>
      cases e
      obtain ⟨a, vs, rfl, h1, _⟩ := r.tup
      rcases h1 with (h1 | ⟨o, h1⟩) | ⟨o, its, n, hk, hc, _⟩
      · exact .base (.tup h1)
      · exact .fTuple h1
      · exact .kTuple hk hc
    | dict kvs => cases e
theorem k_isi (hK : M.K = X.K) {T : Str} {t : String} {p1 p2 pos : Pos} {a : Expr} {fa : EvF D} (ha : PE X a (kE M .b W fa)) (hT : T = Str.ofString t) (ht : t ∈ tys) (hg : Gl X "isinstance") (hm : X.mg "isinstance" = none) (hgT : Gl X T) (hmT : X.mg T = none) (hv : bootBuiltins T = some (.type t))
    (hnT : T ≠ "__name__") (hdT : (T == ("__debug__" : Str)) = false) (he : starEach [a, .Name T p2] X.env = (false, eval a X.env) :: starEach [.Name T p2] X.env) :
    PE X (.Call (.Name "isinstance" p1) [a, .Name T p2] [] pos) (kE M .n W (sem1 fa (isiD t))) := by
  have hb : bootBuiltins "isinstance" = some (.builtin "isinstance") := by decide +kernel
  refine PE.mono (pe_callB call_isi hg hm hb (pa_cons ha (pa_cons (pe_bltn (v := .ty t) hgT hmT hv rfl hnT hdT) pa_nil rfl) he) (by decide) (by decide) he rfl) fun σ H Q ⟨B, L, A, h, env, g, p⟩ => ?_
  refine tG_bind sm_M g p fun x h1 v H1 L1 e1 x1 g1 r1 p1 => ?_
  cases e : tyD x with
  | none => simp only [isiD, e] at p1; exact p1.elim
  | some ty =>
    simp only [isiD, e] at p1
    exact ⟨v, .ty t, .type ty, .type t, isTy t ty, rfl, .ty t, hK ▸ tyD_rel r1 e, kit_ty (kit_tab ty (tyD_mem e) t ht), p1.fin g1 (Same.refl _) (RelM.ofP (.bl _))⟩
end
end KF
set_option Elab.async false
set_option linter.all false
set_option maxRecDepth 100000
set_option maxHeartbeats 4000000
/-! KF, part 8: what a def promises; calls of defs. -/
namespace KF
open PySem PySem.Spec PyProof.Rows L2

/-- the world at a call, without a frame -/
abbrev Ent (M : MK) (B : Bs) (H : Hp) (L : List Addr) (h : MH) : Prop := Good M B H L [] h [] []
def PostF (M : MK) (B : Bs) (H : Hp) (L : List Addr) (Q : VK) (E : XK) : Out D → Prop
  | .ok d h' => ∀ v H' L', Ext H L H' L' → Ent M B H' L' h' → RelD M.K H' L' (Zf B L' []) d v → Q v H'
  | .exc c fs h' => ∀ cls dd H' L', Ext H L H' L' → Ent M B H' L' h' → XRel M B [] H' L' c fs cls dd → E cls dd H'
  | .bad => False
/-- the promise of a def of n parameters that is worth f -/
def spF (M : MK) (n : Nat) (f : List D → MH → Out D) : Sp := fun vs H Q E =>
  ∃ (B : Bs) (L : List Addr) (h : MH) (ds : List D), vs.length = n ∧ B.H0 = H ∧ B.L0 = L ∧ Ent M B H L h ∧ RelDs M.K H L (Zf B L []) ds vs ∧ PostF M B H L Q E (f ds h)

section
variable {M : MK} {B : Bs} {A : List (Option Addr)} {H H' : Hp} {L L' : List Addr} {h h' : MH} {env : KF.Env} {σ : L2.St}
theorem MOk.zed {Z Z' : Addr → Prop} {a : Addr} {o : MO} (m : MOk M H L Z a o) (z : ∀ b, Z' b → Z b) : MOk M H L Z' a o := by
  have s : Stay H Z H Z' := ⟨fun _ _ h _ => h, fun _ _ h => h, fun _ _ _ h => h, fun a _ _ q => z a q⟩
  have := m.stay (N := []) s rfl
  rw [List.append_nil] at this
  exact this
theorem RelDs.weak {K : PySem.W.Frag} {Z Z' : Addr → Prop} {ds : List D} {vs : List V} (r : RelDs K H L Z ds vs) (z : ∀ a, Z' a → Z a) : RelDs K H L Z' ds vs := by
  induction r with
  | nil => exact .nil
  | cons r _ ih => exact .cons (r.weak z) ih
theorem XRel.weak {B' : Bs} {A' : List (Option Addr)} {c : Nat} {fs : List D} {cls : Value} {dd : Option Addr} (r : XRel M B A H L c fs cls dd) (z : ∀ a, Zf B' L A' a → Zf B L A a) : XRel M B' A' H L c fs cls dd := by
  cases r with
  | bare => exact .bare _
  | fld h1 h2 h3 => exact .fld h1 h2 (h3.weak z)
/-- the callee's anchor -/
def Bs.sub (B : Bs) (A : List (Option Addr)) (H : Hp) (L : List Addr) : Bs := ⟨H, L, fun a => B.S a ∨ some a ∈ A⟩
theorem zf_sub {a : Addr} : Zf (B.sub A H L) L' [] a ↔ Zf B L' A a := by
  constructor
  · rintro (z | z | z)
    · exact .inl z
    · exact .inr z
    · cases z
  · rintro (z | z | z)
    · exact .inl z
    · exact .inr (.inl (.inl z))
    · exact .inr (.inl (.inr z))
theorem Good.enter (g : Good M B H L A h env σ) : Ent M (B.sub A H L) H L h := by
  refine ⟨g.len, g.nd, fun n o a e1 e2 => (g.obj n o a e1 e2).zed fun b z => zf_sub.mp z, fun a ha z => ?_, ⟨[], by simp [Bs.sub]⟩, fun a o e _ => e, fun a xs e => e, fun a o u e => e, fun a o e => ⟨o, e⟩, fun a z => ?_, rfl, rfl, fun i a e => by simp at e, fun i j a e => by simp at e, fun i sl e => by simp at e⟩
  · rcases z with z | z
    · exact g.ls a ha z
    · obtain ⟨i, hi⟩ := List.getElem?_of_mem z
      exact (g.own i a hi).1 ha
  · rcases z with z | z
    · exact g.sdom a z
    · obtain ⟨i, hi⟩ := List.getElem?_of_mem z
      obtain ⟨vs, e⟩ := g.ownThere hi
      exact ⟨_, e⟩
theorem Good.back (g : Good M B H L A h env σ) (x : Ext H L H' L') (e : Ent M (B.sub A H L) H' L' h') : Good M B H' L' A h' env σ := by
  obtain ⟨N, eN, nN⟩ := id x.pre
  obtain ⟨N0, e0, n0⟩ := g.lpre
  have notL : ∀ a o, B.H0 a = some o → a ∉ B.L0 → a ∉ L := fun a o q hl hm => by
    rw [e0] at hm
    rcases List.mem_append.mp hm with z | z
    · exact hl z
    · rw [n0 a z] at q; cases q
  refine ⟨e.len, e.nd, fun n o a e1 e2 => (e.obj n o a e1 e2).zed fun b z => zf_sub.mpr z, fun a ha z => ?_, ⟨N0 ++ N, by rw [eN, e0, List.append_assoc], fun a ha => ?_⟩, fun a o q hl => x.keep a o (g.base a o q hl) (notL a o q hl), fun a xs q => x.tups a xs (g.btup a xs q), fun a o u q => x.frzs a o u (g.bfrz a o u q),
    fun a o q => ?_, fun a z => ?_, g.alen, g.slen, fun i a q => ⟨fun hm => ?_, (g.own i a q).2⟩, g.odis, fun i sl q => (g.slot i sl q).stay x fun a vs q1 q2 => x.keep a _ q2 (g.own i a q1).1⟩
  · exact e.ls a ha (.inl z)
  · rcases List.mem_append.mp ha with q | q
    · exact n0 a q
    · exact g.free0 (nN a q)
  · obtain ⟨o', q'⟩ := g.dom a o q
    exact x.dom a o' q'
  · obtain ⟨o', q'⟩ := g.sdom a z
    exact x.dom a o' q'
  · rw [eN] at hm
    rcases List.mem_append.mp hm with z | z
    · exact (g.own i a q).1 z
    · obtain ⟨vs, q2⟩ := g.ownThere q
      rw [nN a z] at q2; cases q2
end

section
variable {X : Cx} {M : MK} {W : WX}
def semF (fc : List D → MH → Out D) (f : EvF (List D)) : EvF D := fun env h => (f env h).bind fun ds h1 => fc ds h1
theorem call_core {n : Nat} {fc : List D → MH → Out D} {f : EvF (List D)} {σ : L2.St} {H : Hp} {Q : VK} (hn : ∀ ds h, fc ds h ≠ .bad → ds.length = n) (q : kE M .n W (semF fc f) σ H Q) : tCallS (spF M n fc) (WE W) (kA M .n W f) σ H Q := by
  obtain ⟨B, L, A, h, env, g, p⟩ := q
  refine tG_bind sm_M g p fun ds h1 vs H1 L1 e1 x1 g1 r1 p1 => ?_
  have nb : fc ds h1 ≠ .bad := fun z => by rw [z] at p1; exact p1
  refine ⟨B.sub A H1 L1, L1, h1, ds, by rw [← r1.length]; exact hn ds h1 nb, rfl, rfl, g1.enter, r1.ds.weak fun a z => zf_sub.mp z, ?_⟩
  cases e : fc ds h1 with
  | ok d h2 =>
    rw [e] at p1
    exact fun v H' L' x en r => p1 v H' L' x (g1.back x en) (r.weak fun a z => zf_sub.mpr z)
  | exc c fs h2 =>
    rw [e] at p1
    exact fun cls dd H' L' x en r => p1 cls dd H' L' x (g1.back x en) (r.weak fun a z => zf_sub.mpr z)
  | bad => rw [e] at p1; exact p1
theorem k_call {k : Nat} {fa : Addr} {fd : FuncData} {ps : List Str} {n : Nat} {fc : List D → MH → Out D} {x : Str} {np pos : Pos} {e : Expr} {es : List Expr} {f : EvF (List D)}
    (F : FnOk X.prog X.w X.K X.mg X.base (L2.CX X.prog X.w) k fa fd ps (spF M n fc)) (hr : Room k X.A) (hg : Gl X x) (hm : X.mg x = some (.ref fa)) (hk : PySem.W.keepIn X.K (.ref fa) = true) (hb : Binds X.K fd ps []) (tk : Takes X W) (hn : ∀ ds h, fc ds h ≠ .bad → ds.length = n)
    (ha : PA X (e :: es) (kA M .n W f)) (hdb : (x == ("__debug__" : Str)) = false) (he : starEach (e :: es) X.env = (false, eval e X.env) :: starEach es X.env) (hpl : (backTo pos (starEach es X.env)).any (·.1) = false) :
    PE X (.Call (.Name x np) (e :: es) [] pos) (kE M .n W (semF fc f)) := PE.mono (pe_callS F hr hg hm hk hb (passAt tk) ha hdb he hpl) fun _ _ _ q => call_core hn q
end

/-! ### statements -/
inductive OutS where
  | nx (env : KF.Env) (h : MH)
  | rt (d : D) (h : MH)
  | exc (c : Nat) (fs : List D) (env : KF.Env) (h : MH)
  | bad
abbrev EvS := KF.Env → MH → OutS
def PostS (M : MK) (B : Bs) (W : WX) (De : Ends) : OutS → Prop
  | .nx env' h' => ∀ σ' H' L' A', Good M B H' L' A' h' env' σ' → De.nx σ' H'
  | .rt d h' => ∀ v H' L' A' env' σ', Good M B H' L' A' h' env' σ' → RelD M.K H' L' (Zf B L' []) d v → De.rt v H'
  | .exc c fs env' h' => ∀ cls dd σ' H' L' A', Good M B H' L' A' h' env' σ' → XRel M B A' H' L' c fs cls dd → W cls dd σ' H'
  | .bad => False
def kS (M : MK) (W : WX) (f : EvS) : TS := fun De σ H => ∃ B L A h env, Good M B H L A h env σ ∧ PostS M B W De (f env h)
/-- from an expression on -/
def Out.toS {α : Type} (o : Out α) (env : KF.Env) (k : α → MH → OutS) : OutS := match o with
  | .ok a h => k a h
  | .exc c fs h => .exc c fs env h
  | .bad => .bad
section
variable {M : MK} {W : WX}
theorem tG_toS {α β : Type} {R : RT α β} {B : Bs} {A : List (Option Addr)} {H : Hp} {L : List Addr} {h : MH} {env : KF.Env} {σ : L2.St} {f : EvF α} {k : α → MH → OutS} {De : Ends} {T : β → Hp → Prop} (g : Good M B H L A h env σ) (p : PostS M B W De ((f env h).toS env k))
    (hk : ∀ a h1 b H1 L1, f env h = .ok a h1 → Ext H L H1 L1 → Good M B H1 L1 A h1 env σ → R B A H H1 L1 a b → PostS M B W De (k a h1) → T b H1) : tG M R W f σ H T := by
  refine ⟨B, L, A, h, env, g, ?_⟩
  cases e : f env h with
  | ok a h1 => rw [e] at p; exact fun b H' L' x g' r => hk a h1 b H' L' e x g' r p
  | exc c fs h1 => rw [e] at p; exact fun cls dd H' L' x g' r => p cls dd σ H' L' A g' r
  | bad => rw [e] at p; exact p
end
end KF
set_option Elab.async false
set_option linter.all false
set_option maxRecDepth 100000
set_option maxHeartbeats 4000000
/-! KF, part 9: statements. -/
namespace KF
open PySem PySem.Spec PyProof.Rows L2
section
variable {M : MK} {B : Bs} {A : List (Option Addr)} {H H' : Hp} {L L' : List Addr} {h h' : MH} {env : KF.Env} {σ : L2.St}
/-! ### stores to slots -/
theorem mem_set_none {A : List (Option Addr)} {i : Nat} {a : Addr} (m : some a ∈ A.set i none) : some a ∈ A := by
  rcases List.mem_or_eq_of_mem_set m with q | q
  · exact q
  · cases q
theorem zf_none {i : Nat} {b : Addr} (z : Zf B L (A.set i none) b) : Zf B L A b := by
  rcases z with z | z | z
  · exact .inl z
  · exact .inr (.inl z)
  · exact .inr (.inr (mem_set_none z))
theorem SOk.zed {A' : List (Option Addr)} {σ' : L2.St} {i : Nat} {sl : Sl} (s : SOk M B H L A σ i sl) (ea : A'[i]? = A[i]?) (es : σ'[i]? = σ[i]?) (z : ∀ b, Zf B L A' b → Zf B L A b) : SOk M B H L A' σ' i sl := by
  cases s with
  | u q => exact .u (ea.trans q)
  | v q1 q2 q3 => exact .v (ea.trans q1) (es.trans q2) (q3.weak z)
  | o q1 q2 q3 q4 => exact .o (ea.trans q1) (es.trans q2) q3 (q4.weak z)
/-- a value into a slot -/
theorem Good.setV (g : Good M B H L A h env σ) {d : D} {v : V} {i : Nat} (r : RelD M.K H L (Zf B L A) d v) (hi : i < env.length) : Good M B H L (A.set i none) h (env.set i (.v d)) (σ.set i (some v)) := by
  have hA : i < A.length := by rw [g.alen]; exact hi
  have hS : i < σ.length := by rw [g.slen]; exact hi
  refine ⟨g.len, g.nd, fun n o a e1 e2 => (g.obj n o a e1 e2).zed fun b z => zf_none z, g.ls, g.lpre, g.base, g.btup, g.bfrz, g.dom, g.sdom, by simp [g.alen], by simp [g.slen], fun j a e => ?_, fun j k a e1 e2 => ?_, fun j sl e => ?_⟩
  · by_cases hj : j = i
    · subst hj; rw [List.getElem?_set_self hA] at e; cases e
    · rw [List.getElem?_set_ne (Ne.symm hj)] at e; exact g.own j a e
  · by_cases hj : j = i
    · subst hj; rw [List.getElem?_set_self hA] at e1; cases e1
    · by_cases hk : k = i
      · subst hk; rw [List.getElem?_set_self hA] at e2; cases e2
      · rw [List.getElem?_set_ne (Ne.symm hj)] at e1
        rw [List.getElem?_set_ne (Ne.symm hk)] at e2
        exact g.odis j k a e1 e2
  · by_cases hj : j = i
    · subst hj
      rw [List.getElem?_set_self hi] at e; cases e
      exact .v (List.getElem?_set_self hA) (List.getElem?_set_self hS) (r.weak fun b z => zf_none z)
    · rw [List.getElem?_set_ne (Ne.symm hj)] at e
      exact (g.slot j sl e).zed (List.getElem?_set_ne (Ne.symm hj)) (List.getElem?_set_ne (Ne.symm hj)) fun b z => zf_none z
/-- a new list into a slot, to be the frame's own -/
theorem Good.setNew (g : Good M B H L A h env σ) {p : Addr} {ps : List PyData} {vs : List V} {i : Nat} (n : H p = none) (r : RelPs M.K H (Zf B L A) ps vs) (hi : i < env.length) :
    Good M B (upd H p (.lst vs)) L (A.set i (some p)) h (env.set i (.o ps)) (σ.set i (some (.ref p))) := by
  have hA : i < A.length := by rw [g.alen]; exact hi
  have hS : i < σ.length := by rw [g.slen]; exact hi
  have sm : Same H (upd H p (.lst vs)) := same_upd n
  have zz : ∀ b o, H b = some o → Zf B L (A.set i (some p)) b → Zf B L A b := fun b o hb z => by
    rcases z with z | z | z
    · exact .inl z
    · exact .inr (.inl z)
    · rcases List.mem_or_eq_of_mem_set z with q | q
      · exact .inr (.inr q)
      · cases q; rw [n] at hb; cases hb
  have st : Stay H (Zf B L A) (upd H p (.lst vs)) (Zf B L (A.set i (some p))) := ⟨fun a o e _ => sm a o e, fun a xs e => sm a _ e, fun a o u e => sm a _ e, zz⟩
  refine ⟨g.len, g.nd, fun m o a e1 e2 => ?_, g.ls, g.lpre, fun a o e hl => sm a o (g.base a o e hl), fun a xs e => sm a _ (g.btup a xs e), fun a o u e => sm a _ (g.bfrz a o u e), fun a o e => ?_, fun a e => ?_, by simp [g.alen], by simp [g.slen], fun j a e => ?_, fun j k a e1 e2 => ?_, fun j sl e => ?_⟩
  · have q := g.obj m o a e1 e2
    obtain ⟨u, hu⟩ := q.there
    have := q.stay (N := []) st ((sm _ _ hu).trans hu.symm)
    rw [List.append_nil] at this
    exact this
  · obtain ⟨o', e'⟩ := g.dom a o e; exact ⟨o', sm _ _ e'⟩
  · obtain ⟨o', e'⟩ := g.sdom a e; exact ⟨o', sm _ _ e'⟩
  · by_cases hj : j = i
    · subst hj; rw [List.getElem?_set_self hA] at e; cases e
      refine ⟨fun hm => ?_, fun z => ?_, g.free0 n⟩
      · obtain ⟨o, e⟩ := g.there hm; rw [n] at e; cases e
      · obtain ⟨o, e⟩ := g.sdom _ z; rw [n] at e; cases e
    · rw [List.getElem?_set_ne (Ne.symm hj)] at e; exact g.own j a e
  · have key : ∀ j, A[j]? = some (some p) → False := fun j q => by
      obtain ⟨us, e⟩ := g.ownThere q; rw [n] at e; cases e
    by_cases hj : j = i
    · subst hj
      rw [List.getElem?_set_self hA] at e1; cases e1
      by_cases hk : k = j
      · exact hk.symm
      · rw [List.getElem?_set_ne (Ne.symm hk)] at e2; exact (key k e2).elim
    · rw [List.getElem?_set_ne (Ne.symm hj)] at e1
      by_cases hk : k = i
      · subst hk
        rw [List.getElem?_set_self hA] at e2; cases e2
        exact (key j e1).elim
      · rw [List.getElem?_set_ne (Ne.symm hk)] at e2
        exact g.odis j k a e1 e2
  · by_cases hj : j = i
    · subst hj
      rw [List.getElem?_set_self hi] at e; cases e
      exact .o (List.getElem?_set_self hA) (List.getElem?_set_self hS) upd_same (r.stay st)
    · rw [List.getElem?_set_ne (Ne.symm hj)] at e
      have q := g.slot j sl e
      cases q with
      | u q => exact .u ((List.getElem?_set_ne (Ne.symm hj)).trans q)
      | v q1 q2 q3 =>
        have := q3.stay (M := []) st
        rw [List.append_nil] at this
        exact .v ((List.getElem?_set_ne (Ne.symm hj)).trans q1) ((List.getElem?_set_ne (Ne.symm hj)).trans q2) this
      | o q1 q2 q3 q4 => exact .o ((List.getElem?_set_ne (Ne.symm hj)).trans q1) ((List.getElem?_set_ne (Ne.symm hj)).trans q2) (sm _ _ q3) (q4.stay st)
/-- the frame's own list gets other items -/
theorem Good.setOwn (g : Good M B H L A h env σ) {a : Addr} {ps : List PyData} {vs us : List V} {i : Nat} (ea : A[i]? = some (some a)) (eH : H a = some (.lst us)) (eS : σ[i]? = some (some (.ref a))) (r : RelPs M.K H (Zf B L A) ps vs) :
    Good M B (upd H a (.lst vs)) L A h (env.set i (.o ps)) σ := by
  have hA : i < A.length := (List.getElem?_eq_some_iff.mp ea).1
  have hi : i < env.length := by rw [← g.alen]; exact hA
  have za : Zf B L A a := .inr (.inr (List.mem_of_getElem? ea))
  obtain ⟨nL, nS, n0⟩ := g.own i a ea
  have ne : ∀ b o, H b = some o → b ≠ a → (upd H a (.lst vs)) b = some o := fun b o e q => by rw [upd_ne q]; exact e
  have tne : ∀ b xs, H b = some (.tup xs) → b ≠ a := fun b xs e q => by subst q; rw [eH] at e; cases e
  have fne : ∀ b o u, H b = some (.frz o u) → b ≠ a := fun b o u e q => by subst q; rw [eH] at e; cases e
  have st : Stay H (Zf B L A) (upd H a (.lst vs)) (Zf B L A) := ⟨fun b o e z => ne b o e fun q => z (q ▸ za), fun b xs e => ne b _ e (tne b xs e), fun b o u e => ne b _ e (fne b o u e), fun b o _ z => z⟩
  have dm : ∀ b o, H b = some o → ∃ o', (upd H a (.lst vs)) b = some o' := fun b o e => by
    by_cases q : b = a
    · subst q; exact ⟨_, upd_same⟩
    · exact ⟨o, ne b o e q⟩
  have bne : ∀ b o, B.H0 b = some o → b ≠ a := fun b o e q => by subst q; rw [n0] at e; cases e
  refine ⟨g.len, g.nd, fun m o b e1 e2 => ?_, g.ls, g.lpre, fun b o e hl => ne _ _ (g.base b o e hl) (bne b o e), fun b xs e => ne _ _ (g.btup b xs e) (bne b _ e), fun b o u e => ne _ _ (g.bfrz b o u e) (bne b _ e), fun b o e => ?_, fun b e => ?_, by simp [g.alen], by simp [g.slen], g.own, g.odis, fun j sl e => ?_⟩
  · have q := g.obj m o b e1 e2
    have hb : b ≠ a := fun z => nL (z ▸ List.mem_of_getElem? e2)
    have := q.stay (N := []) st (upd_ne hb)
    rw [List.append_nil] at this
    exact this
  · obtain ⟨o', e'⟩ := g.dom b o e; exact dm _ _ e'
  · obtain ⟨o', e'⟩ := g.sdom b e; exact dm _ _ e'
  · by_cases hj : j = i
    · subst hj
      rw [List.getElem?_set_self hi] at e; cases e
      exact .o ea eS upd_same (r.stay st)
    · rw [List.getElem?_set_ne (Ne.symm hj)] at e
      have q := g.slot j sl e
      cases q with
      | u q => exact .u q
      | v q1 q2 q3 =>
        have := q3.stay (M := []) st
        rw [List.append_nil] at this
        exact .v q1 q2 this
      | o q1 q2 q3 q4 => exact .o q1 q2 (ne _ _ q3 fun z => hj (g.odis j i a (z ▸ q1) ea)) (q4.stay st)
/-- the frame's own list is given away -/
theorem Good.freeze (g : Good M B H L A h env σ) {ps : List PyData} {i : Nat} (e : env[i]? = some (.o ps)) : Good M B H L (A.set i none) h (env.set i (.v (.py (.list ps)))) σ := by
  have hi : i < env.length := (List.getElem?_eq_some_iff.mp e).1
  have hA : i < A.length := by rw [g.alen]; exact hi
  cases g.slot i _ e with
  | @o _ a vs q1 q2 q3 q4 =>
    refine ⟨g.len, g.nd, fun n o a e1 e2 => (g.obj n o a e1 e2).zed fun b z => zf_none z, g.ls, g.lpre, g.base, g.btup, g.bfrz, g.dom, g.sdom, by simp [g.alen], by simp [g.slen], fun j a e => ?_, fun j k a e1 e2 => ?_, fun j sl e => ?_⟩
    · by_cases hj : j = i
      · subst hj; rw [List.getElem?_set_self hA] at e; cases e
      · rw [List.getElem?_set_ne (Ne.symm hj)] at e; exact g.own j a e
    · by_cases hj : j = i
      · subst hj; rw [List.getElem?_set_self hA] at e1; cases e1
      · by_cases hk : k = i
        · subst hk; rw [List.getElem?_set_self hA] at e2; cases e2
        · rw [List.getElem?_set_ne (Ne.symm hj)] at e1
          rw [List.getElem?_set_ne (Ne.symm hk)] at e2
          exact g.odis j k a e1 e2
    · by_cases hj : j = i
      · subst hj
        rw [List.getElem?_set_self hi] at e; cases e
        refine .v (List.getElem?_set_self hA) q2 (.py (.lst (.inl q3) ?_ (q4.weak fun b z => zf_none z)))
        obtain ⟨nL, nS, n0⟩ := g.own j a q1
        rintro (z | z | z)
        · exact nL z
        · exact nS z
        · obtain ⟨k, hk⟩ := List.getElem?_of_mem z
          by_cases hkj : k = j
          · subst hkj; rw [List.getElem?_set_self hA] at hk; cases hk
          · rw [List.getElem?_set_ne (Ne.symm hkj)] at hk
            exact hkj (g.odis k j a hk q1)
      · rw [List.getElem?_set_ne (Ne.symm hj)] at e
        exact (g.slot j sl e).zed (List.getElem?_set_ne (Ne.symm hj)) rfl fun b z => zf_none z
/-- what is handed back -/
theorem RelM.ret {d : D} {v : V} (g : Good M B H L A h env σ) {Hs : Hp} (r : RelM M .b B A Hs H L d v) : RelD M.K H L (Zf B L []) d v := by
  have z0 : ∀ b, Zf B L [] b → Zf B L A b := fun b z => by
    rcases z with z | z | z
    · exact .inl z
    · exact .inr (.inl z)
    · cases z
  rcases r with r | ⟨i, a, xs, vs, q1, rfl, rfl, q3, q4⟩
  · exact r.weak z0
  · obtain ⟨nL, nS, n0⟩ := g.own i a q1
    refine .py (.lst (.inl q3) ?_ (q4.weak z0))
    rintro (z | z | z)
    · exact nL z
    · exact nS z
    · cases z
/-- a place of the small heap changes -/
theorem Good.setL (g : Good M B H L A h env σ) {n : Nat} {a : Addr} {o : MO} {u u' : HO} (ea : L[n]? = some a) (eH : H a = some u) (nt : ∀ xs, u ≠ .tup xs) (nf : ∀ ob w, u ≠ .frz ob w)
    (m : MOk M (upd H a u') L (Zf B L A) a o) : Good M B (upd H a u') L A (h.set n o) env σ := by
  have hn : n < L.length := (List.getElem?_eq_some_iff.mp ea).1
  have hh : n < h.length := by rw [← g.len]; exact hn
  have aL : a ∈ L := List.mem_of_getElem? ea
  have za : Zf B L A a := .inl aL
  have ne : ∀ b o, H b = some o → b ≠ a → (upd H a u') b = some o := fun b o e q => by rw [upd_ne q]; exact e
  have tne : ∀ b xs, H b = some (.tup xs) → b ≠ a := fun b xs e q => by subst q; rw [eH] at e; exact nt xs (Option.some.inj e)
  have fne : ∀ b o w, H b = some (.frz o w) → b ≠ a := fun b o w e q => by subst q; rw [eH] at e; exact nf o w (Option.some.inj e)
  have st : Stay H (Zf B L A) (upd H a u') (Zf B L A) := ⟨fun b o e z => ne b o e fun q => z (q ▸ za), fun b xs e => ne b _ e (tne b xs e), fun b o w e => ne b _ e (fne b o w e), fun b o _ z => z⟩
  have dm : ∀ b o, H b = some o → ∃ o', (upd H a u') b = some o' := fun b o e => by
    by_cases q : b = a
    · subst q; exact ⟨_, upd_same⟩
    · exact ⟨o, ne b o e q⟩
  obtain ⟨N0, e0, n0⟩ := g.lpre
  refine ⟨by simp [g.len], g.nd, fun k o' b e1 e2 => ?_, g.ls, g.lpre, fun b o e hl => ?_, fun b xs e => ?_, fun b o w e => ?_, fun b o e => ?_, fun b e => ?_, g.alen, g.slen, g.own, g.odis, fun j sl e => ?_⟩
  · by_cases hk : k = n
    · subst hk
      rw [ea] at e2; cases e2
      rw [List.getElem?_set_self hh] at e1; cases e1
      exact m
    · rw [List.getElem?_set_ne (Ne.symm hk)] at e1
      have q := g.obj k o' b e1 e2
      have hb : b ≠ a := fun z => by
        subst z
        exact hk ((List.getElem?_inj (List.getElem?_eq_some_iff.mp e2).1 g.nd).mp (e2.trans ea.symm))
      have := q.stay (N := []) st (upd_ne hb)
      rw [List.append_nil] at this
      exact this
  · have hb : b ≠ a := fun z => by
      subst z
      rw [e0] at aL
      rcases List.mem_append.mp aL with q | q
      · exact hl q
      · rw [n0 _ q] at e; cases e
    exact ne _ _ (g.base b o e hl) hb
  · exact ne _ _ (g.btup b xs e) (tne b xs (g.btup b xs e))
  · exact ne _ _ (g.bfrz b o w e) (fne b o w (g.bfrz b o w e))
  · obtain ⟨o', e'⟩ := g.dom b o e; exact dm _ _ e'
  · obtain ⟨o', e'⟩ := g.sdom b e; exact dm _ _ e'
  · have q := g.slot j sl e
    cases q with
    | u q => exact .u q
    | v q1 q2 q3 =>
      have := q3.stay (M := []) st
      rw [List.append_nil] at this
      exact .v q1 q2 this
    | o q1 q2 q3 q4 => exact .o q1 q2 (ne _ _ q3 fun z => (g.own j _ q1).1 (z ▸ aL)) (q4.stay st)
/-- a new place -/
theorem Good.newL (g : Good M B H L A h env σ) {p : Addr} {o : MO} {u : HO} (n : H p = none) (m : ∀ Z, (∀ b o, H b = some o → Z b → Zf B L A b) → MOk M (upd H p u) (L ++ [p]) Z p o) : Good M B (upd H p u) (L ++ [p]) A (h ++ [o]) env σ := by
  have sm : Same H (upd H p u) := same_upd n
  have nz : p ∉ L := fun hm => by obtain ⟨o, e⟩ := g.there hm; rw [n] at e; cases e
  have zz : ∀ b o, H b = some o → Zf B (L ++ [p]) A b → Zf B L A b := fun b o hb z => by
    rcases z with z | z | z
    · rcases List.mem_append.mp z with q | q
      · exact .inl q
      · have : b = p := by simpa using q
        subst this; rw [n] at hb; cases hb
    · exact .inr (.inl z)
    · exact .inr (.inr z)
  have st : Stay H (Zf B L A) (upd H p u) (Zf B (L ++ [p]) A) := ⟨fun a o e _ => sm a o e, fun a xs e => sm a _ e, fun a o w e => sm a _ e, zz⟩
  obtain ⟨N0, e0, n0⟩ := g.lpre
  have nd : (L ++ [p]).Nodup := by
    refine List.nodup_append.mpr ⟨g.nd, by simp, fun a ha b hb e => ?_⟩
    have hb : b = p := by simpa using hb
    subst e hb
    exact nz ha
  refine ⟨by simp [g.len], nd, fun k o' b e1 e2 => ?_, fun a ha => ?_, ⟨N0 ++ [p], by rw [e0, List.append_assoc], fun a ha => ?_⟩, fun a o e hl => sm a o (g.base a o e hl), fun a xs e => sm a _ (g.btup a xs e), fun a o w e => sm a _ (g.bfrz a o w e), fun a o e => ?_, fun a e => ?_, g.alen, g.slen, fun j a e => ⟨fun hm => ?_, (g.own j a e).2⟩, g.odis, fun j sl e => ?_⟩
  · by_cases hk : k < L.length
    · rw [List.getElem?_append_left hk] at e2
      rw [List.getElem?_append_left (by rw [← g.len]; exact hk)] at e1
      have q := g.obj k o' b e1 e2
      obtain ⟨w, hw⟩ := q.there
      exact q.stay (N := [p]) st ((sm _ _ hw).trans hw.symm)
    · have hk2 : k = L.length := by
        have h1 := (List.getElem?_eq_some_iff.mp e2).1
        rw [List.length_append, List.length_singleton] at h1
        omega
      subst hk2
      rw [List.getElem?_append_right (Nat.le_refl _)] at e2
      rw [List.getElem?_append_right (by rw [g.len]; exact Nat.le_refl _)] at e1
      simp at e2
      simp [g.len] at e1
      subst e2 e1
      exact m _ zz
  · rcases List.mem_append.mp ha with q | q
    · exact g.ls a q
    · have : a = p := by simpa using q
      subst this
      intro z
      obtain ⟨o, e⟩ := g.sdom _ z; rw [n] at e; cases e
  · rcases List.mem_append.mp ha with q | q
    · exact n0 a q
    · have : a = p := by simpa using q
      subst this
      exact g.free0 n
  · obtain ⟨o', e'⟩ := g.dom a o e; exact ⟨o', sm _ _ e'⟩
  · obtain ⟨o', e'⟩ := g.sdom a e; exact ⟨o', sm _ _ e'⟩
  · rcases List.mem_append.mp hm with q | q
    · exact (g.own j a e).1 q
    · have : a = p := by simpa using q
      subst this
      obtain ⟨us, e'⟩ := g.ownThere e
      rw [n] at e'; cases e'
  · have q := g.slot j sl e
    cases q with
    | u q => exact .u q
    | v q1 q2 q3 => exact .v q1 q2 (q3.stay (M := [p]) st)
    | o q1 q2 q3 q4 => exact .o q1 q2 (sm _ _ q3) (q4.stay st)
/-! ### another anchor, for a loop -/
open Classical in
noncomputable def Bs.anc (B : Bs) (A : List (Option Addr)) (H : Hp) (L : List Addr) : Bs := ⟨fun a => if some a ∈ A then none else H a, L, B.S⟩
theorem anc_some {a : Addr} {o : HO} (e : (B.anc A H L).H0 a = some o) : some a ∉ A ∧ H a = some o := by
  unfold Bs.anc at e
  dsimp only at e
  split at e
  · cases e
  · rename_i q; exact ⟨q, e⟩
theorem anc_none {a : Addr} (e : (B.anc A H L).H0 a = none) : some a ∈ A ∨ H a = none := by
  unfold Bs.anc at e
  dsimp only at e
  split at e
  · rename_i q; exact .inl q
  · exact .inr e
theorem anc_of {a : Addr} {o : HO} (n : some a ∉ A) (e : H a = some o) : (B.anc A H L).H0 a = some o := by
  unfold Bs.anc
  dsimp only
  rw [if_neg n]; exact e
theorem zf_anc {A' : List (Option Addr)} : Zf (B.anc A H L) L' A' = Zf B L' A' := rfl
theorem Good.anchor (g : Good M B H L A h env σ) : Good M (B.anc A H L) H L A h env σ := by
  refine ⟨g.len, g.nd, g.obj, g.ls, ⟨[], by simp [Bs.anc]⟩, fun a o e _ => (anc_some e).2, fun a xs e => (anc_some e).2, fun a o u e => (anc_some e).2, fun a o e => ⟨o, (anc_some e).2⟩, g.sdom, g.alen, g.slen, fun i a e => ⟨(g.own i a e).1, (g.own i a e).2.1, ?_⟩, g.odis, fun i sl e => ?_⟩
  · cases q : (B.anc A H L).H0 a with
    | none => rfl
    | some o => exact absurd (List.mem_of_getElem? e) (anc_some q).1
  · cases g.slot i sl e with
    | u q => exact .u q
    | v q1 q2 q3 => exact .v q1 q2 q3
    | o q1 q2 q3 q4 => exact .o q1 q2 q3 q4
theorem Good.unanchor (g : Good M B H L A h env σ) {A' : List (Option Addr)} {env' : KF.Env} {σ' : L2.St} (g' : Good M (B.anc A H L) H' L' A' h' env' σ') : Good M B H' L' A' h' env' σ' := by
  obtain ⟨N0, e0, n0⟩ := g.lpre
  obtain ⟨N1, e1, n1⟩ := g'.lpre
  have e1 : L' = L ++ N1 := e1
  have nA : ∀ a o, B.H0 a = some o → some a ∉ A := fun a o e hm => by
    obtain ⟨i, hi⟩ := List.getElem?_of_mem hm
    rw [(g.own i a hi).2.2] at e; cases e
  have f0 : ∀ a, (B.anc A H L).H0 a = none → B.H0 a = none := fun a e => by
    rcases anc_none e with q | q
    · obtain ⟨i, hi⟩ := List.getElem?_of_mem q
      exact (g.own i a hi).2.2
    · exact g.free0 q
  refine ⟨g'.len, g'.nd, g'.obj, g'.ls, ⟨N0 ++ N1, by rw [e1, e0, List.append_assoc], fun a ha => ?_⟩, fun a o e hl => ?_, fun a xs e => g'.btup a xs (anc_of (nA a _ e) (g.btup a xs e)), fun a o u e => g'.bfrz a o u (anc_of (nA a _ e) (g.bfrz a o u e)), fun a o e => ?_, g'.sdom, g'.alen, g'.slen, fun i a e => ⟨(g'.own i a e).1, (g'.own i a e).2.1, f0 a (g'.own i a e).2.2⟩, g'.odis, fun i sl e => ?_⟩
  · rcases List.mem_append.mp ha with q | q
    · exact n0 a q
    · exact f0 a (n1 a q)
  · refine g'.base a o (anc_of (nA a o e) (g.base a o e hl)) fun hm => ?_
    have hm : a ∈ L := hm
    rw [e0] at hm
    rcases List.mem_append.mp hm with q | q
    · exact hl q
    · rw [n0 a q] at e; cases e
  · obtain ⟨o', e'⟩ := g.dom a o e
    exact g'.dom a o' (anc_of (nA a o e) e')
  · cases g'.slot i sl e with
    | u q => exact .u q
    | v q1 q2 q3 => exact .v q1 q2 q3
    | o q1 q2 q3 q4 => exact .o q1 q2 q3 q4
theorem PostS.anc {W : WX} {De : Ends} {o : OutS} (g : Good M B H L A h env σ) (p : PostS M B W De o) : PostS M (B.anc A H L) W De o := by
  cases o with
  | nx env' h' => exact fun σ' H' L' A' g' => p σ' H' L' A' (g.unanchor g')
  | rt d h' => exact fun v H' L' A' env' σ' g' r => p v H' L' A' env' σ' (g.unanchor g') r
  | exc c fs env' h' => exact fun cls dd σ' H' L' A' g' r => p cls dd σ' H' L' A' (g.unanchor g') (r.weak fun _ z => z)
  | bad => exact p
/-- what stood at the anchor stands -/
theorem Good.since (g' : Good M (B.anc A H L) H' L' A' h' env' σ') (g : Good M B H L A h env σ) : Stay H (Zf B L A) H' (Zf B L' A') := by
  obtain ⟨N1, e1, n1⟩ := g'.lpre
  have e1 : L' = L ++ N1 := e1
  refine ⟨fun a o e z => g'.base a o (anc_of (fun q => z (.inr (.inr q))) e) fun q => z (.inl q), fun a xs e => ?_, fun a o u e => ?_, fun a o e z => ?_⟩
  · refine g'.btup a xs (anc_of (fun q => ?_) e)
    obtain ⟨i, hi⟩ := List.getElem?_of_mem q
    obtain ⟨us, q2⟩ := g.ownThere hi
    rw [q2] at e; cases e
  · refine g'.bfrz a o u (anc_of (fun q => ?_) e)
    obtain ⟨i, hi⟩ := List.getElem?_of_mem q
    obtain ⟨us, q2⟩ := g.ownThere hi
    rw [q2] at e; cases e
  · by_cases q : some a ∈ A
    · exact .inr (.inr q)
    · have e0 := anc_of (B := B) (L := L) q e
      rcases z with z | z | z
      · rw [e1] at z
        rcases List.mem_append.mp z with y | y
        · exact .inl y
        · rw [n1 a y] at e0; cases e0
      · exact .inr (.inl z)
      · obtain ⟨i, hi⟩ := List.getElem?_of_mem z
        rw [(g'.own i a hi).2.2] at e0; cases e0
end
end KF
set_option Elab.async false
set_option linter.all false
set_option maxRecDepth 100000
set_option maxHeartbeats 4000000
/-! KF, part 10: statements, by what they do. -/
namespace KF
open PySem PySem.Spec PyProof.Rows L2
section
variable {X : Cx} {M : MK} {W : WX}
/-! ### blocks -/
def OutS.thn (o : OutS) (k : EvS) : OutS := match o with
  | .nx env h => k env h
  | o => o
def semSeq (f g : EvS) : EvS := fun env h => (f env h).thn g
def semSkip : EvS := fun env h => .nx env h
theorem s_nil : PSs X [] (kS M W semSkip) := PSs.mono pss_nil fun De σ H ⟨B, L, A, h, env, g, p⟩ => p σ H L A g
theorem kS_nx {B : Bs} {A : List (Option Addr)} {H : Hp} {L : List Addr} {h : MH} {env : KF.Env} {σ : L2.St} {f g : EvS} {De : Ends} (gd : Good M B H L A h env σ) (p : PostS M B W De (semSeq f g env h)) : kS M W f { De with nx := kS M W g De } σ H := by
  refine ⟨B, L, A, h, env, gd, ?_⟩
  unfold semSeq at p
  cases e : f env h with
  | nx env' h' => rw [e] at p; exact fun σ' H' L' A' g' => ⟨B, L', A', h', env', g', p⟩
  | rt d h' => rw [e] at p; exact p
  | exc c fs env' h' => rw [e] at p; exact p
  | bad => rw [e] at p; exact p
theorem s_cons {st : Stmt} {rest : List Stmt} {f g : EvS} (h1 : PS X st (kS M W f)) (h2 : PSs X rest (kS M W g)) : PSs X (st :: rest) (kS M W (semSeq f g)) :=
  PSs.mono (pss_cons h1 h2) fun De σ H ⟨B, L, A, h, env, gd, p⟩ => kS_nx gd p
/-- a list of the frame's own is given away: nothing runs -/
def frzE (i : Nat) (env : KF.Env) : Option KF.Env := match env[i]? with
  | some (.o xs) => some (env.set i (.v (.py (.list xs))))
  | some (.v _) => some env
  | _ => none
def semFrz (i : Nat) : EvS := fun env h => match frzE i env with
  | some env' => .nx env' h
  | none => .bad
theorem s_frz {i : Nat} {sts : List Stmt} {f : EvS} (p : PSs X sts (kS M W f)) : PSs X sts (kS M W (semSeq (semFrz i) f)) := by
  refine PSs.mono p fun De σ H ⟨B, L, A, h, env, g, q⟩ => ?_
  unfold semSeq semFrz frzE at q
  cases e : env[i]? with
  | none => rw [e] at q; exact q.elim
  | some sl =>
    rw [e] at q
    cases sl with
    | u => exact q.elim
    | v d => exact ⟨B, L, A, h, env, g, q⟩
    | o xs => exact ⟨B, L, A.set i none, h, _, g.freeze e, q⟩

/-! ### small statements -/
theorem s_pass {pos : Pos} : PS X (.Pass pos) (kS M W semSkip) := PS.mono ps_pass fun De σ H ⟨B, L, A, h, env, g, p⟩ => p σ H L A g
def semRet (fa : EvF D) : EvS := fun env h => (fa env h).toS env fun d h1 => .rt d h1
theorem s_ret {e : Expr} {fa : EvF D} {pos : Pos} (ha : PE X e (kE M .b W fa)) : PS X (.Return (some e) pos) (kS M W (semRet fa)) := by
  refine PS.mono (ps_ret ha) fun De σ H ⟨B, L, A, h, env, g, p⟩ => ?_
  exact tG_toS g p fun d h1 v H1 L1 e1 x1 g1 r1 p1 => p1 v H1 L1 A env σ g1 (r1.ret g1)
def semExp (fa : EvF D) : EvS := fun env h => (fa env h).toS env fun _ h1 => .nx env h1
theorem s_exp {e : Expr} {fa : EvF D} {pos : Pos} (ha : PE X e (kE M .b W fa)) (hs : swapsWith e none pos.line X.env = pure false) : PS X (.Expr e pos) (kS M W (semExp fa)) := by
  refine PS.mono (ps_expr ha hs) fun De σ H ⟨B, L, A, h, env, g, p⟩ => ?_
  exact tG_toS g p fun d h1 v H1 L1 e1 x1 g1 r1 p1 => p1 σ H1 L1 A g1
def semIfS (ft : EvF Bool) (f g : EvS) : EvS := fun env h => (ft env h).toS env fun b h1 => if b = true then f env h1 else g env h1
theorem s_if {t : Expr} {a b : List Stmt} {ft : EvF Bool} {f g : EvS} {pos : Pos} (ht : PT X t (kT M W ft)) (ha : PSs X a (kS M W f)) (hb : PSs X b (kS M W g)) : PS X (.If t a b pos) (kS M W (semIfS ft f g)) := by
  refine PS.mono (ps_if ht ha hb) fun De σ H ⟨B, L, A, h, env, gd, p⟩ => ?_
  refine tG_toS gd p fun x h1 v H1 L1 e1 x1 g1 r1 p1 => ?_
  cases (show x = v from r1)
  cases x with
  | true => exact ⟨B, L1, A, h1, env, g1, p1⟩
  | false => exact ⟨B, L1, A, h1, env, g1, p1⟩
def semNever : EvS := fun _ _ => .bad
theorem s_never {st : Stmt} : PS X st (kS M W semNever) := PS.mono ps_never fun De σ H ⟨B, L, A, h, env, g, p⟩ => p

/-! ### targets -/
abbrev TgF := D → KF.Env → Option KF.Env
abbrev TgFs := List PyData → KF.Env → Option KF.Env
/-- the slots ts were stored to -/
structure Ups (ts : List Nat) (σ : L2.St) (A : List (Option Addr)) (σ' : L2.St) (A' : List (Option Addr)) : Prop where
  sl : σ'.length = σ.length
  al : A'.length = A.length
  out : ∀ i, i ∉ ts → σ'[i]? = σ[i]? ∧ A'[i]? = A[i]?
  ins : ∀ i, i ∈ ts → i < A.length → A'[i]? = some none
theorem Ups.refl {σ : L2.St} {A : List (Option Addr)} : Ups [] σ A σ A := ⟨rfl, rfl, fun _ _ => ⟨rfl, rfl⟩, fun _ h => by cases h⟩
theorem Ups.trans {t1 t2 : List Nat} {σ σ1 σ2 : L2.St} {A A1 A2 : List (Option Addr)} (a : Ups t1 σ A σ1 A1) (b : Ups t2 σ1 A1 σ2 A2) : Ups (t1 ++ t2) σ A σ2 A2 := by
  refine ⟨b.sl.trans a.sl, b.al.trans a.al, fun i hi => ?_, fun i hi hl => ?_⟩
  · have h1 : i ∉ t1 := fun z => hi (List.mem_append_left _ z)
    have h2 : i ∉ t2 := fun z => hi (List.mem_append_right _ z)
    exact ⟨(b.out i h2).1.trans (a.out i h1).1, (b.out i h2).2.trans (a.out i h1).2⟩
  · by_cases h2 : i ∈ t2
    · exact b.ins i h2 (by rw [a.al]; exact hl)
    · rw [(b.out i h2).2]
      rcases List.mem_append.mp hi with z | z
      · exact a.ins i z hl
      · exact absurd z h2
theorem Ups.zf {B : Bs} {L : List Addr} {ts : List Nat} {σ σ' : L2.St} {A A' : List (Option Addr)} (u : Ups ts σ A σ' A') {b : Addr} (z : Zf B L A' b) : Zf B L A b := by
  rcases z with z | z | z
  · exact .inl z
  · exact .inr (.inl z)
  · obtain ⟨i, hi⟩ := List.getElem?_of_mem z
    by_cases h : i ∈ ts
    · have hl : i < A.length := by rw [← u.al]; exact (List.getElem?_eq_some_iff.mp hi).1
      rw [u.ins i h hl] at hi; cases hi
    · rw [(u.out i h).2] at hi
      exact .inr (.inr (List.mem_of_getElem? hi))
def kG (M : MK) (ts : List Nat) (g : TgF) : TG := fun v σ H Q => ∃ B L A h env d, Good M B H L A h env σ ∧ RelD M.K H L (Zf B L A) d v ∧ ∃ env', g d env = some env' ∧ ∀ σ' A', Ups ts σ A σ' A' → Good M B H L A' h env' σ' → Q σ' H
def kGs (M : MK) (ts : List Nat) (g : TgFs) : TGs := fun vs σ H Q => ∃ B L A h env ds, Good M B H L A h env σ ∧ RelPs M.K H (Zf B L A) ds vs ∧ ∃ env', g ds env = some env' ∧ ∀ σ' A', Ups ts σ A σ' A' → Good M B H L A' h env' σ' → Q σ' H
theorem PG.mono {e : Expr} {t t' : TG} (h : PG X e t) (i : ∀ v σ H Q, t' v σ H Q → t v σ H Q) : PG X e t' := ⟨fun pins s σ H v u Q I r q => h.run pins s σ H v u Q I r (i v σ H Q q)⟩
theorem PGs.mono {es : List Expr} {t t' : TGs} (h : PGs X es t) (i : ∀ v σ H Q, t' v σ H Q → t v σ H Q) : PGs X es t' := ⟨fun pins s σ H v u Q I r q => h.run pins s σ H v u Q I r (i v σ H Q q)⟩
def tgName (i : Nat) : TgF := fun d env => if i < env.length then some (env.set i (.v d)) else none
theorem g_name {i : Nat} {x : Str} {pos : Pos} (hN : X.N.Nodup) (hi : X.N[i]? = some x) (hx : Loc X.env.scope x) (hf : X.fn x = true ∨ X.env.scope.names.lookup x = some .local) : PG X (.Name x pos) (kG M [i] (tgName i)) := by
  refine PG.mono (pg_name hN hi hx hf) fun v σ H Q ⟨B, L, A, h, env, d, g, r, env', e, q⟩ => ?_
  unfold tgName at e
  split at e
  · rename_i hl
    cases e
    refine q _ _ ⟨by simp, by simp, fun j hj => ?_, fun j hj hA => ?_⟩ (g.setV r hl)
    · have hj : i ≠ j := fun z => hj (by simp [z])
      exact ⟨List.getElem?_set_ne hj, List.getElem?_set_ne hj⟩
    · have hj : j = i := by simpa using hj
      subst hj
      exact List.getElem?_set_self hA
  · cases e
def tgNil : TgFs := fun ds env => match ds with
  | [] => some env
  | _ => none
def tgCons (g : TgF) (gs : TgFs) : TgFs := fun ds env => match ds with
  | d :: r => (g (.py d) env).bind (gs r)
  | [] => none
theorem gs_nil : PGs X [] (kGs M [] tgNil) := by
  refine PGs.mono pgs_nil fun vs σ H Q ⟨B, L, A, h, env, ds, g, r, env', e, q⟩ => ?_
  unfold tgNil at e
  split at e
  · cases e; cases r; exact ⟨rfl, q σ A Ups.refl g⟩
  · cases e
theorem gs_cons {t1 t2 : List Nat} {e : Expr} {es : List Expr} {g : TgF} {gs : TgFs} (h1 : PG X e (kG M t1 g)) (h2 : PGs X es (kGs M t2 gs)) (hs : (assignEach (e :: es) X.env).map (·.2) = assign e X.env :: (assignEach es X.env).map (·.2)) : PGs X (e :: es) (kGs M (t1 ++ t2) (tgCons g gs)) := by
  refine PGs.mono (pgs_cons h1 h2 hs) fun vs σ H Q ⟨B, L, A, h, env, ds, gd, r, env', e1, q⟩ => ?_
  cases r with
  | nil => cases e1
  | @cons v vr d dr rd rr =>
    have e1 : (g (.py d) env).bind (gs dr) = some env' := e1
    cases e2 : g (.py d) env with
    | none => rw [e2] at e1; cases e1
    | some env1 =>
      rw [e2] at e1
      exact ⟨v, vr, rfl, B, L, A, h, env, .py d, gd, .py rd, env1, e2, fun σ1 A1 z1 g1 => ⟨B, L, A1, h, env1, dr, g1, rr.weak fun b z => z1.zf z, env', e1, fun σ2 A2 z2 g2 => q σ2 A2 (z1.trans z2) g2⟩⟩
def tgTup (n : Nat) (gs : TgFs) : TgF := fun d env => match d with
  | .py (.tuple ds) => if ds.length = n then gs ds env else none
  | _ => none
theorem g_tup (hK : M.K = X.K) {ts : List Nat} {es : List Expr} {k n : Nat} {gs : TgFs} {pos : Pos} (hc : X.calm = true) (h : PGs X es (kGs M ts gs)) (hn : (assignEach es X.env).length = n) (hst : (assignEach es X.env).findIdx? (·.1) = none) : PG X (.Tuple es k pos) (kG M ts (tgTup n gs)) := by
  refine PG.mono (pg_tup hc h hn hst) fun v σ H Q ⟨B, L, A, h, env, d, g, r, env', e, q⟩ => ?_
  unfold tgTup at e
  split at e
  · split at e
    · rename_i ds hl
      cases r with
      | py r =>
        cases r with
        | tup h1 h2 => exact ⟨_, _, rfl, hK ▸ h1, h2.length ▸ hl, B, L, A, _, env, ds, g, h2, env', e, q⟩
    · cases e
  · cases e
/-! ### assignments -/
def semAsg (fa : EvF D) (g : TgF) : EvS := fun env h => (fa env h).toS env fun d h1 => match g d env with
  | some env' => .nx env' h1
  | none => .bad
theorem asg_core {ts : List Nat} {fa : EvF D} {g : TgF} {De : Ends} {σ : L2.St} {H : Hp} (q : kS M W (semAsg fa g) De σ H) : tAsg (kE M .n W fa) (kG M ts g) De σ H := by
  obtain ⟨B, L, A, h, env, gd, p⟩ := q
  refine tG_toS gd p fun d h1 v H1 L1 e1 x1 g1 r1 p1 => ?_
  cases e : g d env with
  | none => rw [e] at p1; exact p1.elim
  | some env' => rw [e] at p1; exact ⟨B, L1, A, h1, env, d, g1, r1, env', e, fun σ' A' _ g' => p1 σ' H1 L1 A' g'⟩
theorem s_asg {ts : List Nat} {tg e : Expr} {fa : EvF D} {g : TgF} {pos : Pos} (ha : PE X e (kE M .n W fa)) (hg : PG X tg (kG M ts g)) (hs : swapsWithSole [tg] e pos.line X.env = pure false) (hw : swappedStores [tg] e X.env = pure none)
    (h1 : (assignEach [tg] X.env).map (·.2) = [assign tg X.env]) : PS X (.Assign [tg] e pos) (kS M W (semAsg fa g)) := PS.mono (ps_asg ha hg hs hw h1) fun _ _ _ q => asg_core q
theorem s_set {i : Nat} {x : Str} {e : Expr} {fa : EvF D} {p1 pos : Pos} (hN : X.N.Nodup) (hi : X.N[i]? = some x) (hx : Loc X.env.scope x) (hf : X.fn x = true ∨ X.env.scope.names.lookup x = some .local) (ha : PE X e (kE M .n W fa)) (hs : swapsWith e (some (.Name x p1)) pos.line X.env = pure false) :
    PS X (.Assign [.Name x p1] e pos) (kS M W (semAsg fa (tgName i))) := by
  refine PS.mono (ps_set hN hi hx ha hs hf) fun De σ H ⟨B, L, A, h, env, gd, p⟩ => ?_
  refine tG_toS gd p fun d h1 v H1 L1 e1 x1 g1 r1 p1 => ?_
  unfold tgName at p1
  by_cases hl : i < env.length
  · rw [if_pos hl] at p1; exact p1 _ _ _ _ (g1.setV r1 hl)
  · rw [if_neg hl] at p1; exact p1.elim
/-- name = a new list, the frame's own -/
def ownE (i : Nat) (d : D) (env : KF.Env) : Option KF.Env := match d with
  | .py (.list xs) => if i < env.length then some (env.set i (.o xs)) else none
  | _ => none
def semOwn (i : Nat) (fa : EvF D) : EvS := fun env h => (fa env h).toS env fun d h1 => match ownE i d env with
  | some env' => .nx env' h1
  | none => .bad
theorem own_core {i : Nat} {fa : EvF D} {De : Ends} {σ : L2.St} {H : Hp} (q : kS M W (semOwn i fa) De σ H) : tAsg (kF M W fa) (gName i) De σ H := by
  obtain ⟨B, L, A, h, env, gd, p⟩ := q
  refine ⟨B, L, A, h, env, gd, ?_⟩
  unfold semOwn at p
  cases e : fa env h with
  | ok d h1 =>
    rw [e] at p
    intro ps H1 L1 a vs ed x g1 n r
    subst ed
    have p : PostS M B W De (match ownE i (.py (.list ps)) env with
      | some env' => .nx env' h1
      | none => .bad) := p
    unfold ownE at p
    dsimp only at p
    by_cases hl : i < env.length
    · rw [if_pos hl] at p; exact p _ _ _ _ (g1.setNew n r hl)
    · rw [if_neg hl] at p; exact p.elim
  | exc c fs h1 => rw [e] at p; exact fun cls dd H' L' x g' r => p cls dd σ H' L' A g' r
  | bad => rw [e] at p; exact p
theorem s_own {i : Nat} {x : Str} {e : Expr} {fa : EvF D} {p1 pos : Pos} (hN : X.N.Nodup) (hi : X.N[i]? = some x) (hx : Loc X.env.scope x) (hf : X.fn x = true ∨ X.env.scope.names.lookup x = some .local) (ha : PE X e (kF M W fa)) (hs : swapsWith e (some (.Name x p1)) pos.line X.env = pure false) :
    PS X (.Assign [.Name x p1] e pos) (kS M W (semOwn i fa)) := PS.mono (ps_set hN hi hx ha hs hf) fun _ _ _ q => own_core q
/-- a, b = x, y with plain names -/
def semPar (i j : Nat) (fa : EvF (List D)) : EvS := fun env h => (fa env h).toS env fun ds h1 => match ds with
  | [d, e] => if i < env.length ∧ j < env.length then .nx ((env.set i (.v d)).set j (.v e)) h1 else .bad
  | _ => .bad
theorem s_par {i j : Nat} {x y : Str} {a b : Expr} {fa : EvF (List D)} {px py pt pos : Pos} {kt k2 : Nat} {pt2 : Pos} (hc : X.calm = true) (hN : X.N.Nodup) (hi : X.N[i]? = some x) (hj : X.N[j]? = some y) (hij : i ≠ j)
    (hx : X.env.scope.names.lookup x = some .local) (hy : X.env.scope.names.lookup y = some .local) (ha : PA X [a, b] (kA M .n W fa))
    (hw : swappedStores [.Tuple [.Name x px, .Name y py] kt pt] (.Tuple [a, b] k2 pt2) X.env = pure (some [x, y]))
    (hs : swapsWithSole [.Tuple [.Name x px, .Name y py] kt pt] (.Tuple [a, b] k2 pt2) pos.line X.env = pure false) :
    PS X (.Assign [.Tuple [.Name x px, .Name y py] kt pt] (.Tuple [a, b] k2 pt2) pos) (kS M W (semPar i j fa)) := by
  refine PS.mono (ps_par hc hN hi hj hij hx hy ha hw hs) fun De σ H ⟨B, L, A, h, env, gd, p⟩ => ?_
  refine tG_toS gd p fun ds h1 vs H1 L1 e1 x1 g1 r1 p1 => ?_
  cases r1 with
  | nil => exact p1.elim
  | cons ra rt =>
    cases rt with
    | nil => exact p1.elim
    | cons rb rt =>
      cases rt with
      | cons _ _ => exact p1.elim
      | nil =>
        rename_i d v e w
        have p1 : PostS M B W De (if i < env.length ∧ j < env.length then .nx ((env.set i (.v d)).set j (.v e)) h1 else .bad) := p1
        by_cases hl : i < env.length ∧ j < env.length
        · rw [if_pos hl] at p1
          refine ⟨v, w, rfl, p1 _ _ _ _ ((g1.setV ra hl.1).setV (RelD.weak (show RelD M.K H1 L1 (Zf B L1 A) e w from rb) fun b z => zf_none z) (by simpa using hl.2))⟩
        · rw [if_neg hl] at p1; exact p1.elim
/-- name op= e, ints -/
def semAug (i : Nat) (fa : EvF D) (fo : MH → D → D → Option D) : EvS := fun env h => match lookV env i with
  | some x => (fa env h).toS env fun y h1 => match fo h1 x y with
    | some z => .nx (env.set i (.v z)) h1
    | none => .bad
  | none => .bad
theorem s_augI {i : Nat} {x : Str} {e : Expr} {fa : EvF D} {op : Operator} {f : Int → Int → Int} {g : Int → Int → Option Int} {p1 pos : Pos} (hN : X.N.Nodup) (hi : X.N[i]? = some x) (hx : Loc X.env.scope x) (hf : X.fn x = true ∨ X.env.scope.names.lookup x = some .local) (ha : PE X e (kE M .b W fa)) (ho : PIp X op (ipI f))
    (hg : ∀ i j k, g i j = some k → k = f i j) : PS X (.AugAssign (.Name x p1) op e pos) (kS M W (semAug i fa (iop g))) := by
  refine PS.mono (ps_aug hN hi hx ha ho hf) fun De σ H ⟨B, L, A, h, env, gd, p⟩ => ?_
  unfold semAug lookV at p
  cases e0 : env[i]? with
  | none => rw [e0] at p; exact p.elim
  | some sl =>
    rw [e0] at p
    cases gd.slot i sl e0 with
    | u q => exact p.elim
    | o q1 q2 q3 q4 => exact p.elim
    | @v d w q1 q2 q3 =>
      refine ⟨w, q2, ?_⟩
      have p : PostS M B W De ((fa env h).toS env fun y h1 => match iop g h1 d y with
        | some z => .nx (env.set i (.v z)) h1
        | none => .bad) := p
      refine tG_toS gd p fun y h1 v H1 L1 e1 x1 g1 r1 p1 => ?_
      cases e2 : iop g h1 d y with
      | none => rw [e2] at p1; exact p1.elim
      | some z =>
        rw [e2] at p1
        obtain ⟨i', j', k', rfl, rfl, e3, rfl⟩ := iop_some e2
        cases hg i' j' k' e3
        cases q3 with
        | py q3 =>
          cases q3
          exact ⟨i', j', rfl, r1.int, p1 _ _ _ _ (g1.setV (.py (.int _)) (List.getElem?_eq_some_iff.mp e0).1)⟩
end
end KF
set_option Elab.async false
set_option linter.all false
set_option maxRecDepth 100000
set_option maxHeartbeats 4000000
/-! KF, part 11: lists that change; loops. -/
namespace KF
open PySem PySem.Spec PyProof.Rows L2
section
variable {X : Cx} {M : MK} {W : WX}
theorem few1 {e : Expr} {cpos : Pos} {env : PySem.Env} (hs : starEach [e] env = [(false, eval e env)]) : ((backTo cpos (starEach [e] env)).all (fun x => !x.1) && (backToKw cpos (keywordEach [] env)).all (fun x => x.1.isSome)
      && decide ([e].length + ([] : List Keyword).length + (if ([] : List Keyword).isEmpty then 0 else 1) < 30)) = true := by rw [hs]; rfl
/-- x.append(e), x the frame's own -/
def semApp (i : Nat) (fa : EvF D) : EvS := fun env h => match env[i]? with
  | some (.o xs) => (fa env h).toS env fun d h1 => match d with
    | .py y => if fits (xs.length + 1) = true then .nx (env.set i (.o (xs ++ [y]))) h1 else .bad
    | _ => .bad
  | _ => .bad
theorem ownL {B : Bs} {A : List (Option Addr)} {H : Hp} {L : List Addr} {h : MH} {env : KF.Env} {σ : L2.St} (g : Good M B H L A h env σ) {i : Nat} {xs : List PyData} (e : env[i]? = some (.o xs)) : ∃ a vs, A[i]? = some (some a) ∧ σ[i]? = some (some (.ref a)) ∧ H a = some (.lst vs) ∧ RelPs M.K H (Zf B L A) xs vs := by
  cases g.slot i _ e with
  | o q1 q2 q3 q4 => exact ⟨_, _, q1, q2, q3, q4⟩
theorem s_app {i : Nat} {x : Str} {e : Expr} {fa : EvF D} {np apos cpos pos : Pos} (hN : X.N[i]? = some x) (hv : Vis X.env.scope x) (hd : (x == ("__debug__" : Str)) = false) (hcd : (x == ("__classdict__" : Str)) = false)
    (ha : PE X e (kE M .n W fa)) (hs : starEach [e] X.env = [(false, eval e X.env)]) (hline : (apos.endLine == cpos.line) = true) : PS X (.Expr (.Call (.Attribute (.Name x np) "append" apos) [e] [] cpos) pos) (kS M W (semApp i fa)) := by
  have hs' : starEach [e] X.env = (false, eval e X.env) :: starEach [] X.env := hs
  refine PS.mono (ps_expr (pe_bm PySem.F.plainAttrs_list PySem.F.slot_list_append PySem.F.type_list_append mt_append (pe_var hN hv hd hcd) (pa_cons ha pa_nil hs') rfl (few1 hs) hline hs' rfl) rfl) fun De σ H ⟨B, L, A, h, env, g, p⟩ => ?_
  unfold semApp at p
  cases e0 : env[i]? with
  | none => rw [e0] at p; exact p.elim
  | some sl =>
    rw [e0] at p
    cases sl with
    | u => exact p.elim
    | v d => exact p.elim
    | o xs =>
      obtain ⟨a, vs, q1, q2, q3, q4⟩ := ownL g e0
      refine ⟨.ref a, q2, .inl ⟨rfl, vs, .inl (.inl q3)⟩, ?_⟩
      refine tG_toS g p fun d h1 v H1 L1 e1 x1 g1 r1 p1 => ?_
      cases d with
      | loc n => exact p1.elim
      | scr n => exact p1.elim
      | py y =>
        dsimp only at p1
        by_cases hf : fits (xs.length + 1) = true
        · rw [if_pos hf] at p1
          have aL := (g.own i a q1).1
          have q3' := x1.keep a _ q3 aL
          have q4' := q4.stay x1.stay (Z' := Zf B L1 A)
          cases r1 with
          | py r1 =>
            refine ⟨a, vs, v, rfl, rfl, q3', ?_, p1 _ _ _ _ (g1.setOwn q1 q3' q2 (q4'.append (.cons r1 .nil)))⟩
            have := fits.ok hf
            rw [← q4.length]; omega
        · rw [if_neg hf] at p1; exact p1.elim
/-- x.extend(e) -/
def rExtR : V → List V → Hp → VK → Prop := fun x vs H Q => ∃ l b xs zs, x = .ref l ∧ vs = [.ref b] ∧ H l = some (.lst xs) ∧ Rd H b (.lst zs) ∧ xs.length + zs.length ≤ sizeLine ∧ Q .non (upd H l (.lst (xs ++ zs)))
theorem mt_extR : MtM X "list.extend" rExtR := by
  intro pins s σ H x vs v us Q I rx rv h
  obtain ⟨l, b, xs, zs, rfl, rfl, hH, hB, hz, q⟩ := h
  cases rx
  obtain ⟨u, rfl, ru⟩ := rv.one
  cases ru
  obtain ⟨z, its, n, r, hl, e⟩ := I.lstM hH
  obtain ⟨z2, its2, n2, r2, hl2, e2⟩ := lstR I hB
  have hsz : its.toArray.size + its2.toArray.size ≤ sizeLine := by rw [List.size_toArray, List.size_toArray]; omega
  have hlong : ¬ (!its.toArray.isEmpty && Builtin.List.listTooLong (its.toArray.size + its2.toArray.size)) = true := by
    rw [notLongL hsz, Bool.and_false]
    exact Bool.false_ne_true
  refine call_meets PySem.F.slot_list_extend ⟨_, e, rfl⟩ PySem.F.entry_list_extend (PySem.F.args_list_extend_2 _ _)
    (AutoSeq1.list_extend_list_list_0 l its.toArray n b its2.toArray n2 hlong (by rw [List.size_toArray]; omega) (by omega)) ⟨e, e2, ?_⟩
  refine ⟨.non, _, I.lset (its' := its ++ its2) hH e (by simp) (r.append r2) ?_, rfl, q⟩
  rw [List.length_append]
  omega
def semExt (i : Nat) (fa : EvF D) : EvS := fun env h => match env[i]? with
  | some (.o xs) => (fa env h).toS env fun d h1 => match d with
    | .py (.list ys) => if fits (xs.length + ys.length) = true then .nx (env.set i (.o (xs ++ ys))) h1 else .bad
    | _ => .bad
  | _ => .bad
theorem s_ext {i : Nat} {x : Str} {e : Expr} {fa : EvF D} {np apos cpos pos : Pos} (hN : X.N[i]? = some x) (hv : Vis X.env.scope x) (hd : (x == ("__debug__" : Str)) = false) (hcd : (x == ("__classdict__" : Str)) = false)
    (ha : PE X e (kE M .n W fa)) (hs : starEach [e] X.env = [(false, eval e X.env)]) (hline : (apos.endLine == cpos.line) = true) : PS X (.Expr (.Call (.Attribute (.Name x np) "extend" apos) [e] [] cpos) pos) (kS M W (semExt i fa)) := by
  have hs' : starEach [e] X.env = (false, eval e X.env) :: starEach [] X.env := hs
  refine PS.mono (ps_expr (pe_bm PySem.F.plainAttrs_list PySem.F.slot_list_extend PySem.F.type_list_extend mt_extR (pe_var hN hv hd hcd) (pa_cons ha pa_nil hs') rfl (few1 hs) hline hs' rfl) rfl) fun De σ H ⟨B, L, A, h, env, g, p⟩ => ?_
  unfold semExt at p
  cases e0 : env[i]? with
  | none => rw [e0] at p; exact p.elim
  | some sl =>
    rw [e0] at p
    cases sl with
    | u => exact p.elim
    | v d => exact p.elim
    | o xs =>
      obtain ⟨a, vs, q1, q2, q3, q4⟩ := ownL g e0
      refine ⟨.ref a, q2, .inl ⟨rfl, vs, .inl (.inl q3)⟩, ?_⟩
      refine tG_toS g p fun d h1 v H1 L1 e1 x1 g1 r1 p1 => ?_
      split at p1
      · rename_i ys
        by_cases hf : fits (xs.length + ys.length) = true
        · rw [if_pos hf] at p1
          have aL := (g.own i a q1).1
          have q3' := x1.keep a _ q3 aL
          have q4' := q4.stay x1.stay (Z' := Zf B L1 A)
          obtain ⟨b, us, rfl, r2, r3⟩ := RelM.list (m := .n) (Hs := H) r1
          refine ⟨a, b, vs, us, rfl, rfl, q3', r2, ?_, p1 _ _ _ _ (g1.setOwn q1 q3' q2 (q4'.append r3))⟩
          have := fits.ok hf
          rw [← q4.length, ← r3.length]; exact this
        · rw [if_neg hf] at p1; exact p1.elim
      · exact p1.elim
/-- x[k] = e, x the frame's own -/
def putO (i : Nat) (xs : List PyData) (env : KF.Env) (k d : D) : Option KF.Env := match k, d with
  | .py (.int n), .py y => (ixN xs.length n).map fun j => env.set i (.o (xs.set j y))
  | _, _ => none
def semSet (i : Nat) (fk fa : EvF D) : EvS := fun env h => (fa env h).toS env fun d h1 => match env[i]? with
  | some (.o xs) => (fk env h1).toS env fun k h2 => match putO i xs env k d with
    | some env' => .nx env' h2
    | none => .bad
  | _ => .bad
theorem putO_some {i : Nat} {xs : List PyData} {env env' : KF.Env} {k d : D} (e : putO i xs env k d = some env') : ∃ n y j, k = .py (.int n) ∧ d = .py y ∧ ixN xs.length n = some j ∧ env' = env.set i (.o (xs.set j y)) := by
  unfold putO at e
  split at e
  · rename_i n y
    cases q : ixN xs.length n with
    | none => rw [q] at e; cases e
    | some j => rw [q] at e; cases e; exact ⟨n, y, j, rfl, rfl, q, rfl⟩
  · cases e
abbrev AsnSub (o k : Expr) (tp : Pos) (env : PySem.Env) : Prop := ∀ v, assign (.Subscript o k tp) env v = (do
      let ov ← holding [v] (eval o env)
      let iv ← holding [v, ov] (eval k env)
      standAt tp
      holding [v, ov, iv] (setItem ov iv v)
      release [v, ov, iv] [])
theorem s_setO {i : Nat} {x : Str} {k e : Expr} {fk fa : EvF D} {np tp pos : Pos} (hN : X.N[i]? = some x) (hv : Vis X.env.scope x) (hd : (x == ("__debug__" : Str)) = false) (hcd : (x == ("__classdict__" : Str)) = false)
    (ha : PE X e (kE M .n W fa)) (hk : PE X k (kE M .b W fk)) (hs : swapsWithSole [.Subscript (.Name x np) k tp] e pos.line X.env = pure false) (hw : swappedStores [.Subscript (.Name x np) k tp] e X.env = pure none)
    (h1 : (assignEach [.Subscript (.Name x np) k tp] X.env).map (·.2) = [assign (.Subscript (.Name x np) k tp) X.env])
    (hasn : AsnSub (.Name x np) k tp X.env) : PS X (.Assign [.Subscript (.Name x np) k tp] e pos) (kS M W (semSet i fk fa)) := by
  refine PS.mono (ps_asg ha (pg_sub (pe_var hN hv hd hcd) hk set_list hasn) hs hw h1) fun De σ H ⟨B, L, A, h, env, g, p⟩ => ?_
  refine tG_toS g p fun d h1 v H1 L1 e1 x1 g1 r1 p1 => ?_
  cases e0 : env[i]? with
  | none => rw [e0] at p1; exact p1.elim
  | some sl =>
    rw [e0] at p1
    cases sl with
    | u => exact p1.elim
    | v d => exact p1.elim
    | o xs =>
      obtain ⟨a, vs, q1, q2, q3, q4⟩ := ownL g1 e0
      refine ⟨.ref a, q2, ?_⟩
      refine tG_toS g1 p1 fun kd h2 kv H2 L2 e2 x2 g2 r2 p2 => ?_
      cases e3 : putO i xs env kd d with
      | none => rw [e3] at p2; exact p2.elim
      | some env' =>
        rw [e3] at p2
        obtain ⟨n, y, j, rfl, rfl, ej, rfl⟩ := putO_some e3
        have aL := (g1.own i a q1).1
        have q3' := x2.keep a _ q3 aL
        have q4' := q4.stay x2.stay (Z' := Zf B L2 A)
        have r1' : RelM M .n B A H2 H2 L2 (.py y) v := RelM.stay (m := .n) (Hs := H2) r1 x2 fun i a ha => (g1.own i a ha).1
        cases r1' with
        | py r1' => exact ⟨a, vs, n, j, rfl, r2.int, q3', by rw [← q4.length]; exact ej, p2 _ _ _ _ (g2.setOwn q1 q3' q2 (q4'.set r1' j))⟩
/-- r[k] = e, a list at a place -/
def putL (h : MH) (r k d : D) : Option MH := match r, k with
  | .loc n, .py (.int i) => match h[n]? with
    | some (.lst ds) => (ixN ds.length i).map fun j => h.set n (.lst (ds.set j d))
    | _ => none
  | _, _ => none
def semSetL (fr fk fa : EvF D) : EvS := fun env h => (fa env h).toS env fun d h1 => (fr env h1).toS env fun r h2 => (fk env h2).toS env fun k h3 => match putL h3 r k d with
  | some h' => .nx env h'
  | none => .bad
theorem putL_some {h h' : MH} {r k d : D} (e : putL h r k d = some h') : ∃ n i ds j, r = .loc n ∧ k = .py (.int i) ∧ h[n]? = some (.lst ds) ∧ ixN ds.length i = some j ∧ h' = h.set n (.lst (ds.set j d)) := by
  unfold putL at e
  split at e
  · rename_i n i
    cases q : h[n]? with
    | none => rw [q] at e; cases e
    | some o =>
      rw [q] at e
      cases o with
      | lst ds =>
        dsimp only at e
        cases q2 : ixN ds.length i with
        | none => rw [q2] at e; cases e
        | some j => rw [q2] at e; cases e; exact ⟨n, i, ds, j, rfl, rfl, q, q2, rfl⟩
      | dct kvs => cases e
      | lck kvs => cases e
      | ins c fs => cases e
  · cases e
theorem s_setL {r k e : Expr} {fr fk fa : EvF D} {tp pos : Pos} (ha : PE X e (kE M .n W fa)) (hr : PE X r (kE M .n W fr)) (hk : PE X k (kE M .b W fk)) (hs : swapsWithSole [.Subscript r k tp] e pos.line X.env = pure false) (hw : swappedStores [.Subscript r k tp] e X.env = pure none)
    (h1 : (assignEach [.Subscript r k tp] X.env).map (·.2) = [assign (.Subscript r k tp) X.env]) (hasn : AsnSub r k tp X.env) : PS X (.Assign [.Subscript r k tp] e pos) (kS M W (semSetL fr fk fa)) := by
  refine PS.mono (ps_asg ha (pg_sub hr hk set_list hasn) hs hw h1) fun De σ H ⟨B, L, A, h, env, g, p⟩ => ?_
  refine tG_toS g p fun d h1 v H1 L1 e1 x1 g1 r1 p1 => ?_
  refine tG_toS g1 p1 fun rd h2 rv H2 L2 e2 x2 g2 r2 p2 => ?_
  refine tG_toS g2 p2 fun kd h3 kv H3 L3 e3 x3 g3 r3 p3 => ?_
  cases e4 : putL h3 rd kd d with
  | none => rw [e4] at p3; exact p3.elim
  | some h' =>
    rw [e4] at p3
    obtain ⟨n, i, ds, j, rfl, rfl, eh, ej, rfl⟩ := putL_some e4
    have r1' : RelM M .n B A H3 H3 L3 d v := RelM.stay (m := .n) (Hs := H3) r1 (x2.trans x3) fun i a ha => (g1.own i a ha).1
    have r2' : RelM M .n B A H3 H3 L3 (.loc n) rv := RelM.stay (m := .n) (Hs := H3) r2 x3 fun i a ha => (g2.own i a ha).1
    obtain ⟨a, ea, rfl⟩ := r2'.loc
    cases g3.obj n _ a eh ea with
    | @lst _ vs q1 q2 =>
      refine ⟨a, vs, i, j, rfl, r3.int, q1, by rw [← q2.length]; exact ej, p3 _ _ _ _ (g3.setL ea q1 (fun _ z => nomatch z) (fun _ _ z => nomatch z) (.lst upd_same ?_))⟩
      have aL : a ∈ L3 := List.mem_of_getElem? ea
      have za : Zf B L3 A a := .inl aL
      have ne : ∀ b o, H3 b = some o → b ≠ a → (upd H3 a (.lst (vs.set j v))) b = some o := fun b o e q => by rw [upd_ne q]; exact e
      have st : Stay H3 (Zf B L3 A) (upd H3 a (.lst (vs.set j v))) (Zf B L3 A) := ⟨fun b o e z => ne b o e fun q => z (q ▸ za), fun b xs e => ne b _ e (fun q => by subst q; rw [q1] at e; cases e), fun b o u e => ne b _ e (fun q => by subst q; rw [q1] at e; cases e), fun b o _ z => z⟩
      have := (q2.set r1' j).stay (M := []) st
      rw [List.append_nil] at this
      exact this
/-! ### while -/
def whileF (ft : EvF Bool) (fb : EvS) : Nat → EvS
  | 0 => fun _ _ => .bad
  | n + 1 => fun env h => (ft env h).toS env fun b h1 => if b = true then (fb env h1).thn (whileF ft fb n) else .nx env h1
theorem s_while {t : Expr} {body : List Stmt} {ft : EvF Bool} {fb : EvS} {pos : Pos} {n : Nat} (hp : PassesOwn (model X.prog X.w) X.A X.env X.xe) (ht : PT X t (kT M W ft)) (hb : PSs X body (kS M W fb)) : PS X (.While t body [] pos) (kS M W (whileF ft fb n)) := by
  refine PS.mono (ps_while hp ht hb) fun De σ H ⟨B, L, A, h, env, g, p⟩ => ?_
  refine ⟨fun m σ H => ∃ L A h env, Good M B H L A h env σ ∧ PostS M B W De (whileF ft fb m env h), ⟨n, L, A, h, env, g, p⟩, ?_⟩
  rintro m σ H ⟨L, A, h, env, g, p⟩
  cases m with
  | zero => exact p.elim
  | succ m =>
    have p : PostS M B W De ((ft env h).toS env fun b h1 => if b = true then (fb env h1).thn (whileF ft fb m) else .nx env h1) := p
    refine tG_toS g p fun x h1 v H1 L1 e1 x1 g1 r1 p1 => ?_
    cases (show x = v from r1)
    cases x with
    | false => exact p1 _ _ _ _ g1
    | true =>
      refine ⟨fun σ H => ∃ L A h env, Good M B H L A h env σ ∧ PostS M B W De (whileF ft fb m env h), fun σ' H' q => ⟨m, Nat.lt_succ_self m, q⟩, B, L1, A, h1, env, g1, ?_⟩
      have p1 : PostS M B W De ((fb env h1).thn (whileF ft fb m)) := p1
      cases e : fb env h1 with
      | nx env' h' => rw [e] at p1; exact fun σ' H' L' A' g' => ⟨L', A', h', env', g', p1⟩
      | rt d h' => rw [e] at p1; exact p1
      | exc c fs env' h' => rw [e] at p1; exact p1
      | bad => rw [e] at p1; exact p1
/-! ### for -/
def forF (g : TgF) (fb : EvS) : List D → EvS
  | [] => fun env h => .nx env h
  | x :: r => fun env h => match g x env with
    | some env1 => (fb env1 h).thn (forF g fb r)
    | none => .bad
/-- what a loop walks: the items, from what stands in the heap; Src: what must stand -/
def WIt (M : MK) (J : It) (xs : List D) (Src : Hp → (Addr → Prop) → Prop) : Prop :=
  ∀ (B : Bs) (H : Hp) (L : List Addr) (A : List (Option Addr)) (h : MH) (env : KF.Env) (σ : L2.St), Good M B H L A h env σ → Src H (Zf B L A) → ∀ i, (xs.length ≤ i → J.stop i H) ∧ (∀ x, xs[i]? = some x → J.go i H ∧ ∀ v H', J.yld i H v H' → Same H H' ∧ RelD M.K H' L (Zf B L A) x v)
theorem for_core {ts : List Nat} {J : It} {xs : List D} {Src : Hp → (Addr → Prop) → Prop} (wi : WIt M J xs Src) (st : ∀ H Z H' Z', Stay H Z H' Z' → Src H Z → Src H' Z') {g : TgF} {fb : EvS} {De : Ends} {B : Bs} {A : List (Option Addr)} {H : Hp} {L : List Addr} {h : MH} {env : KF.Env} {σ : L2.St}
    (gd : Good M B H L A h env σ) (src : Src H (Zf B L A)) (p : PostS M B W De (forF g fb xs env h)) :
    ∃ Wv : Nat → Nat → L2.St → Hp → Prop, (∃ m, Wv 0 m σ H) ∧ ∀ i m σ H, Wv i m σ H →
      (J.stop i H ∧ De.nx σ H) ∨ (J.go i H ∧ ∃ N : L2.St → Hp → Prop, (∀ σ' H', N σ' H' → ∃ m', m' < m ∧ Wv (i + 1) m' σ' H') ∧ ∀ x H', J.yld i H x H' → kG M ts g x σ H' fun σ2 H2 => kS M W fb { De with nx := N, ct := N, bk := De.nx } σ2 H2) := by
  have p := p.anc gd
  refine ⟨fun i m σ' H' => m = xs.length - i ∧ i ≤ xs.length ∧ ∃ L' A' h' env', Good M (B.anc A H L) H' L' A' h' env' σ' ∧ PostS M (B.anc A H L) W De (forF g fb (xs.drop i) env' h'), ⟨xs.length, by simp, Nat.zero_le _, L, A, h, env, gd.anchor, p⟩, ?_⟩
  rintro i m σ' H' ⟨rfl, hi, L', A', h', env', g', p'⟩
  have src' : Src H' (Zf (B.anc A H L) L' A') := st _ _ _ _ (g'.since gd) src
  obtain ⟨w1, w2⟩ := wi _ H' L' A' h' env' σ' g' src' i
  by_cases hl : i < xs.length
  · obtain ⟨x, hx⟩ : ∃ x, xs[i]? = some x := ⟨_, List.getElem?_eq_getElem hl⟩
    obtain ⟨go, yld⟩ := w2 x hx
    have ed : xs.drop i = x :: xs.drop (i + 1) := by
      rw [List.drop_eq_getElem_cons hl]
      rw [List.getElem?_eq_getElem hl] at hx
      cases hx; rfl
    rw [ed] at p'
    refine .inr ⟨go, fun σ2 H2 => ∃ L2 A2 h2 env2, Good M (B.anc A H L) H2 L2 A2 h2 env2 σ2 ∧ PostS M (B.anc A H L) W De (forF g fb (xs.drop (i + 1)) env2 h2), fun σ2 H2 q => ⟨xs.length - (i + 1), by omega, rfl, hl, q⟩, fun v H2 hy => ?_⟩
    obtain ⟨sm, r⟩ := yld v H2 hy
    have p' : PostS M (B.anc A H L) W De (match g x env' with
      | some env1 => (fb env1 h').thn (forF g fb (xs.drop (i + 1)))
      | none => .bad) := p'
    cases e : g x env' with
    | none => rw [e] at p'; exact p'.elim
    | some env1 =>
      rw [e] at p'
      refine ⟨B.anc A H L, L', A', h', env', x, g'.same sm, r, env1, e, fun σ3 A3 _ g3 => ⟨B.anc A H L, L', A3, h', env1, g3, ?_⟩⟩
      have p' : PostS M (B.anc A H L) W De ((fb env1 h').thn (forF g fb (xs.drop (i + 1)))) := p'
      cases e2 : fb env1 h' with
      | nx env2 h2 => rw [e2] at p'; exact fun σ' H' L' A' g' => ⟨L', A', h2, env2, g', p'⟩
      | rt d h2 => rw [e2] at p'; exact p'
      | exc c fs env2 h2 => rw [e2] at p'; exact p'
      | bad => rw [e2] at p'; exact p'
  · have ei : i = xs.length := by omega
    subst ei
    rw [List.drop_length] at p'
    exact .inl ⟨w1 (Nat.le_refl _), p' σ' H' L' A' g'⟩
/-! what is walked -/
/-- the walk of an iterable: f gives the items -/
def kI (M : MK) (W : WX) (f : EvF (List D)) : TI := fun σ H R => ∃ B L A h env, Good M B H L A h env σ ∧ Post M B A env σ W (fun (_ H' : Hp) (L' : List Addr) (xs : List D) (J : It) => ∃ Src : Hp → (Addr → Prop) → Prop, WIt M J xs Src ∧ (∀ H Z H' Z', Stay H Z H' Z' → Src H Z → Src H' Z') ∧ Src H' (Zf B L' A)) H L R (f env h)
def semFor (f : EvF (List D)) (g : TgF) (fb : EvS) : EvS := fun env h => (f env h).toS env fun xs h1 => forF g fb xs env h1
theorem s_for {ts : List Nat} {tg iter : Expr} {body : List Stmt} {f : EvF (List D)} {g : TgF} {fb : EvS} {pos : Pos} (hp : PassesOwn (model X.prog X.w) X.A X.env X.xe) (hc : X.calm = true) (hi : PI X tg iter (kI M W f)) (hg : PG X tg (kG M ts g)) (hb : PSs X body (kS M W fb))
    (hs : ∀ x, foldedSetIterable iter X.env x = pure x) : PS X (.For tg iter body [] pos) (kS M W (semFor f g fb)) := by
  refine PS.mono (ps_for hp hc hi hg hb hs) fun De σ H ⟨B, L, A, h, env, gd, p⟩ => ?_
  refine ⟨B, L, A, h, env, gd, ?_⟩
  unfold semFor at p
  cases e : f env h with
  | ok xs h1 =>
    rw [e] at p
    intro J H1 L1 x1 g1 r
    obtain ⟨Src, wi, st, src⟩ := r
    exact for_core wi st g1 src p
  | exc c fs h1 => rw [e] at p; exact fun cls dd H' L' x g' r => p cls dd σ H' L' A g' r
  | bad => rw [e] at p; exact p
theorem PI.mono {tg e : Expr} {t t' : TI} (h : PI X tg e t) (i : ∀ σ H Q, t' σ H Q → t σ H Q) : PI X tg e t' := ⟨fun pins s σ H Q I q => h.run pins s σ H Q I (i σ H Q q)⟩
/-- range(n), range(a, b) -/
def rngL (lo : Int) (n : Nat) : List D := (List.range n).map fun k => .py (.int (lo + (k : Nat)))
theorem wit_range {lo : Int} {n : Nat} : WIt M (Itr lo n) (rngL lo n) (fun _ _ => True) := by
  intro B H L A h env σ g _ i
  refine ⟨fun hl => by unfold rngL at hl; rw [List.length_map, List.length_range] at hl; exact hl, fun x hx => ?_⟩
  unfold rngL at hx
  rw [List.getElem?_map] at hx
  by_cases hl : i < n
  · rw [List.getElem?_range hl] at hx
    cases hx
    refine ⟨hl, fun v H' hy => ?_⟩
    obtain ⟨rfl, rfl⟩ := hy
    exact ⟨Same.refl _, .py (.int _)⟩
  · rw [List.getElem?_eq_none (by rw [List.length_range]; omega)] at hx; cases hx
def rOk (j : Int) : Bool := Nat.ble j.natAbs 3999999999999999999
theorem rOk.ok {j : Int} (h : rOk j = true) : -4000000000000000000 ≤ j ∧ j < 4000000000000000000 := by
  have := Nat.le_of_ble_eq_true h
  omega
def rng1 : List D → Option (List D)
  | [.py (.int j)] => if rOk j = true then some (rngL 0 j.toNat) else none
  | _ => none
def rng2 : List D → Option (List D)
  | [.py (.int i), .py (.int j)] => if (rOk i && rOk j) = true then some (rngL i (j - i).toNat) else none
  | _ => none
def semIt (f : EvF (List D)) (fo : List D → Option (List D)) : EvF (List D) := fun env h => (f env h).bind fun ds h1 => lift (fo ds) h1
theorem i_rng1 {tg a : Expr} {f : EvF (List D)} {p pos : Pos} (hg : Gl X "range") (hm : X.mg "range" = none) (ha : PA X [a] (kA M .b W f)) (hs : starEach [a] X.env = [(false, eval a X.env)]) : PI X tg (.Call (.Name "range" p) [a] [] pos) (kI M W (semIt f rng1)) := by
  refine PI.mono (pi_range1 hg hm ha hs) fun σ H Q ⟨B, L, A, h, env, g, p⟩ => ?_
  refine ⟨B, L, A, h, env, g, ?_⟩
  unfold semIt at p
  cases e : f env h with
  | ok ds h1 =>
    rw [e] at p
    intro vs H1 L1 x1 g1 r1
    have p : Post M B A env σ W _ H L Q (lift (rng1 ds) h1) := p
    cases e2 : rng1 ds with
    | none => rw [e2] at p; exact p.elim
    | some xs =>
      rw [e2] at p
      unfold rng1 at e2
      split at e2
      · rename_i j
        split at e2
        · rename_i c
          cases e2
          obtain ⟨c1, c2⟩ := rOk.ok c
          cases r1 with
          | cons r t =>
            cases t
            cases r.int
            exact ⟨j, rfl, by omega, by omega, p _ _ _ x1 g1 ⟨fun _ _ => True, wit_range, fun _ _ _ _ _ _ => trivial, trivial⟩⟩
        · cases e2
      · cases e2
  | exc c fs h1 => rw [e] at p; exact p
  | bad => rw [e] at p; exact p
theorem i_rng2 {tg a b : Expr} {f : EvF (List D)} {p pos : Pos} (hg : Gl X "range") (hm : X.mg "range" = none) (ha : PA X [a, b] (kA M .b W f)) (hs : starEach [a, b] X.env = [(false, eval a X.env), (false, eval b X.env)]) (hs2 : starEach [b] X.env = [(false, eval b X.env)]) : PI X tg (.Call (.Name "range" p) [a, b] [] pos) (kI M W (semIt f rng2)) := by
  refine PI.mono (pi_range2 hg hm ha hs hs2) fun σ H Q ⟨B, L, A, h, env, g, p⟩ => ?_
  refine ⟨B, L, A, h, env, g, ?_⟩
  unfold semIt at p
  cases e : f env h with
  | ok ds h1 =>
    rw [e] at p
    intro vs H1 L1 x1 g1 r1
    have p : Post M B A env σ W _ H L Q (lift (rng2 ds) h1) := p
    cases e2 : rng2 ds with
    | none => rw [e2] at p; exact p.elim
    | some xs =>
      rw [e2] at p
      unfold rng2 at e2
      split at e2
      · rename_i i j
        split at e2
        · rename_i c
          cases e2
          obtain ⟨c1, c2⟩ := Bool.and_eq_true_iff.mp c
          obtain ⟨c3, c4⟩ := rOk.ok c1
          obtain ⟨c5, c6⟩ := rOk.ok c2
          cases r1 with
          | cons r t =>
            cases t with
            | cons r' t =>
              cases t
              cases r.int
              cases r'.int
              exact ⟨i, j, rfl, ⟨by omega, by omega, by omega, by omega⟩, p _ _ _ x1 g1 ⟨fun _ _ => True, wit_range, fun _ _ _ _ _ _ => trivial, trivial⟩⟩
        · cases e2
      · cases e2
  | exc c fs h1 => rw [e] at p; exact p
  | bad => rw [e] at p; exact p
/-- a list, a tuple -/
def SrcL (K : PySem.W.Frag) (a : Addr) (xs : List PyData) : Hp → (Addr → Prop) → Prop := fun H Z => ∃ vs, Rd H a (.lst vs) ∧ ¬ Z a ∧ RelPs K H Z xs vs
theorem srcL_stay {K : PySem.W.Frag} {a : Addr} {xs : List PyData} : ∀ H Z H' Z', Stay H Z H' Z' → SrcL K a xs H Z → SrcL K a xs H' Z' := by
  rintro H Z H' Z' s ⟨vs, h1, h2, h3⟩
  have := RelP.stay s (RelP.lst h1 h2 h3)
  cases this with
  | @lst _ us _ q1 q2 q3 =>
    refine ⟨us, q1, q2, q3⟩
theorem Rd.inj {H : Hp} {a : Addr} {xs ys : List V} (h1 : Rd H a (.lst xs)) (h2 : Rd H a (.lst ys)) : xs = ys := by
  rcases h1 with h1 | ⟨o, h1⟩ <;> rcases h2 with h2 | ⟨o', h2⟩ <;> rw [h1] at h2 <;> cases h2 <;> rfl
theorem wit_list (hK : M.K = X.K) {a : Addr} {xs : List PyData} : WIt M (Itl X.K a) (xs.map .py) (SrcL M.K a xs) := by
  rintro B H L A h env σ g ⟨vs, h1, h2, h3⟩ i
  refine ⟨fun hl => ⟨vs, .inl h1, by rw [← h3.length]; simpa using hl⟩, fun x hx => ?_⟩
  rw [List.getElem?_map] at hx
  cases q : xs[i]? with
  | none => rw [q] at hx; cases hx
  | some d =>
    rw [q] at hx; cases hx
    obtain ⟨v, e1, e2⟩ := h3.get q
    refine ⟨⟨vs, v, .inl h1, e1⟩, fun w H' hy => ?_⟩
    obtain ⟨rfl, hy⟩ := hy
    have := hy vs (.inl h1)
    rw [e1] at this; cases this
    exact ⟨Same.refl _, .py e2⟩
def itL : D → Option (List D)
  | .py (.list xs) => some (xs.map .py)
  | _ => none
def semIt1 (f : EvF D) (fo : D → Option (List D)) : EvF (List D) := fun env h => (f env h).bind fun d h1 => lift (fo d) h1
theorem i_list (hK : M.K = X.K) {tg a : Expr} {f : EvF D} (ha : PE X a (kE M .n W f)) : PI X tg a (kI M W (semIt1 f itL)) := by
  refine PI.mono (pi_list ha) fun σ H Q ⟨B, L, A, h, env, g, p⟩ => ?_
  refine ⟨B, L, A, h, env, g, ?_⟩
  unfold semIt1 at p
  cases e : f env h with
  | ok d h1 =>
    rw [e] at p
    intro v H1 L1 x1 g1 r1
    have p : Post M B A env σ W _ H L Q (lift (itL d) h1) := p
    cases e2 : itL d with
    | none => rw [e2] at p; exact p.elim
    | some xs =>
      rw [e2] at p
      unfold itL at e2
      split at e2
      · cases e2
        cases r1 with
        | py r1 =>
          cases r1 with
          | @lst a vs _ h1 h2 h3 =>
            exact ⟨a, rfl, ⟨vs, .inl h1⟩, p _ _ _ x1 g1 ⟨SrcL M.K a _, wit_list hK, srcL_stay, vs, h1, h2, h3⟩⟩
      · cases e2
  | exc c fs h1 => rw [e] at p; exact p
  | bad => rw [e] at p; exact p
def SrcT (K : PySem.W.Frag) (a : Addr) (xs : List PyData) : Hp → (Addr → Prop) → Prop := fun H Z => ∃ vs, SqT K H a vs ∧ RelPs K H Z xs vs
theorem srcT_stay {K : PySem.W.Frag} {a : Addr} {xs : List PyData} : ∀ H Z H' Z', Stay H Z H' Z' → SrcT K a xs H Z → SrcT K a xs H' Z' := by
  rintro H Z H' Z' s ⟨vs, h1, h3⟩
  have := RelP.stay s (RelP.tup h1 h3)
  cases this with
  | @tup _ us _ q1 q3 => exact ⟨us, q1, q3⟩
theorem wit_tup (hK : M.K = X.K) {a : Addr} {xs : List PyData} : WIt M (Itt X.K a) (xs.map .py) (SrcT M.K a xs) := by
  rintro B H L A h env σ g ⟨vs, h1, h3⟩ i
  refine ⟨fun hl => ⟨vs, hK ▸ h1, by rw [← h3.length]; simpa using hl⟩, fun x hx => ?_⟩
  rw [List.getElem?_map] at hx
  cases q : xs[i]? with
  | none => rw [q] at hx; cases hx
  | some d =>
    rw [q] at hx; cases hx
    obtain ⟨v, e1, e2⟩ := h3.get q
    refine ⟨⟨vs, v, hK ▸ h1, e1⟩, fun w H' hy => ?_⟩
    obtain ⟨rfl, hy⟩ := hy
    have := hy vs (hK ▸ h1)
    rw [e1] at this; cases this
    exact ⟨Same.refl _, .py e2⟩
def itT : D → Option (List D)
  | .py (.tuple xs) => some (xs.map .py)
  | _ => none
theorem i_tup (hK : M.K = X.K) {tg a : Expr} {f : EvF D} (ha : PE X a (kE M .n W f)) : PI X tg a (kI M W (semIt1 f itT)) := by
  refine PI.mono (pi_tup ha) fun σ H Q ⟨B, L, A, h, env, g, p⟩ => ?_
  refine ⟨B, L, A, h, env, g, ?_⟩
  unfold semIt1 at p
  cases e : f env h with
  | ok d h1 =>
    rw [e] at p
    intro v H1 L1 x1 g1 r1
    have p : Post M B A env σ W _ H L Q (lift (itT d) h1) := p
    cases e2 : itT d with
    | none => rw [e2] at p; exact p.elim
    | some xs =>
      rw [e2] at p
      unfold itT at e2
      split at e2
      · cases e2
        cases r1 with
        | py r1 =>
          cases r1 with
          | @tup a vs _ h1 h3 =>
            exact ⟨a, rfl, ⟨vs, hK ▸ h1⟩, p _ _ _ x1 g1 ⟨SrcT M.K a _, wit_tup hK, srcT_stay, vs, h1, h3⟩⟩
      · cases e2
  | exc c fs h1 => rw [e] at p; exact p
  | bad => rw [e] at p; exact p
end
end KF
set_option Elab.async false
set_option linter.all false
set_option maxRecDepth 100000
set_option maxHeartbeats 4000000
/-! KF, part 12: list comprehensions. -/
namespace KF
open PySem PySem.Spec PyProof.Rows L2
section
variable {M : MK} {B : Bs} {A : List (Option Addr)} {H H' H1 : Hp} {L L' L1 : List Addr} {h h' : MH} {env env' : KF.Env} {σ σ' : L2.St} {ad : Addr}
/-- others may change ad too -/
def Bs.plus (B : Bs) (ad : Addr) : Bs := ⟨B.H0, B.L0, fun a => B.S a ∨ a = ad⟩
theorem Good.leave (g : Good M B H L A h env σ) (x : Ext H L H' L') (g' : Good M B H' L' A h' env' σ') : Good M B H' L' A h' env σ :=
  ⟨g'.len, g'.nd, g'.obj, g'.ls, g'.lpre, g'.base, g'.btup, g'.bfrz, g'.dom, g'.sdom, g.alen, g.slen, g'.own, g'.odis, fun i sl e => (g.slot i sl e).stay x fun a vs q1 q2 => x.keep a _ q2 (g.own i a q1).1⟩
theorem plus_stay {o : HO} (n : H ad = none) : Stay H (Zf B L A) (upd H ad o) (Zf (B.plus ad) L A) := by
  have sm : Same H (upd H ad o) := same_upd n
  refine ⟨fun a o e _ => sm a o e, fun a xs e => sm a _ e, fun a o u e => sm a _ e, fun a o e z => ?_⟩
  rcases z with z | (z | z) | z
  · exact .inl z
  · exact .inr (.inl z)
  · subst z; rw [n] at e; cases e
  · exact .inr (.inr z)
theorem SOk.st {B' : Bs} {i : Nat} {sl : Sl} (s : SOk M B H L A σ i sl) (x : Stay H (Zf B L A) H' (Zf B' L A)) (k : ∀ a vs, A[i]? = some (some a) → H a = some (.lst vs) → H' a = some (.lst vs)) : SOk M B' H' L A σ i sl := by
  cases s with
  | u q => exact .u q
  | v q1 q2 q3 =>
    have := q3.stay (M := []) x
    rw [List.append_nil] at this
    exact .v q1 q2 this
  | o q1 q2 q3 q4 => exact .o q1 q2 (k _ _ q1 q3) (q4.stay x)
theorem MOk.st {Z Z' : Addr → Prop} {a : Addr} {o : MO} (m : MOk M H L Z a o) (s : Stay H Z H' Z') (e : H' a = H a) : MOk M H' L Z' a o := by
  have := m.stay (N := []) s e
  rw [List.append_nil] at this
  exact this
theorem Good.plus {o : HO} (g : Good M B H L A h env σ) (n : H ad = none) : Good M (B.plus ad) (upd H ad o) L A h env σ := by
  have sm : Same H (upd H ad o) := same_upd n
  have st : Stay H (Zf B L A) (upd H ad o) (Zf (B.plus ad) L A) := plus_stay n
  refine ⟨g.len, g.nd, fun k o' a e1 e2 => ?_, fun a ha z => ?_, g.lpre, fun a o e hl => sm a o (g.base a o e hl), fun a xs e => sm a _ (g.btup a xs e), fun a o u e => sm a _ (g.bfrz a o u e), fun a o e => ?_, fun a z => ?_, g.alen, g.slen, fun i a e => ⟨(g.own i a e).1, fun z => ?_, (g.own i a e).2.2⟩, g.odis, fun i sl e => (g.slot i sl e).st st fun a vs _ q => sm _ _ q⟩
  · have m := g.obj k o' a e1 e2
    obtain ⟨u, hu⟩ := m.there
    exact m.st st ((sm _ _ hu).trans hu.symm)
  · rcases z with z | z
    · exact g.ls a ha z
    · subst z; obtain ⟨u, e⟩ := g.there ha; rw [n] at e; cases e
  · obtain ⟨o', e'⟩ := g.dom a o e; exact ⟨o', sm _ _ e'⟩
  · rcases z with z | z
    · obtain ⟨o', e'⟩ := g.sdom a z; exact ⟨o', sm _ _ e'⟩
    · subst z; exact ⟨_, upd_same⟩
  · rcases z with z | z
    · exact (g.own i a e).2.1 z
    · subst z; obtain ⟨u, e⟩ := g.ownThere e; rw [n] at e; cases e
theorem setS_stay {us : List V} {o : HO} (s : B.S ad) (e : H ad = some (.lst us)) : Stay H (Zf B L A) (upd H ad o) (Zf B L A) := by
  have ne : ∀ b o', H b = some o' → b ≠ ad → (upd H ad o) b = some o' := fun b o' e q => by rw [upd_ne q]; exact e
  exact ⟨fun b o e z => ne b o e fun q => z (q ▸ .inr (.inl s)), fun b xs e' => ne b _ e' (fun q => by subst q; rw [e] at e'; cases e'), fun b o u e' => ne b _ e' (fun q => by subst q; rw [e] at e'; cases e'), fun b o _ z => z⟩
theorem Good.setS {us : List V} {o : HO} (g : Good M B H L A h env σ) (s : B.S ad) (n0 : B.H0 ad = none) (eD : H ad = some (.lst us)) : Good M B (upd H ad o) L A h env σ := by
  have ne : ∀ b o', H b = some o' → b ≠ ad → (upd H ad o) b = some o' := fun b o' e q => by rw [upd_ne q]; exact e
  have st : Stay H (Zf B L A) (upd H ad o) (Zf B L A) := setS_stay s eD
  have bne : ∀ b o, B.H0 b = some o → b ≠ ad := fun b o e q => by subst q; rw [n0] at e; cases e
  have dm : ∀ b o', H b = some o' → ∃ o'', (upd H ad o) b = some o'' := fun b o' e => by
    by_cases q : b = ad
    · subst q; exact ⟨_, upd_same⟩
    · exact ⟨o', ne b o' e q⟩
  refine ⟨g.len, g.nd, fun k o' a e1 e2 => ?_, g.ls, g.lpre, fun a o e hl => ne _ _ (g.base a o e hl) (bne _ _ e), fun a xs e => ne _ _ (g.btup a xs e) (bne _ _ e), fun a o u e => ne _ _ (g.bfrz a o u e) (bne _ _ e), fun a o e => ?_, fun a z => ?_, g.alen, g.slen, g.own, g.odis, fun i sl e => (g.slot i sl e).st st fun a vs q1 q => ne _ _ q fun z => (g.own i a q1).2.1 (z ▸ s)⟩
  · exact (g.obj k o' a e1 e2).st st (upd_ne fun z => g.ls a (List.mem_of_getElem? e2) (z ▸ s))
  · obtain ⟨o', e'⟩ := g.dom a o e; exact dm _ _ e'
  · obtain ⟨o', e'⟩ := g.sdom a z; exact dm _ _ e'
def del (H : Hp) (ad : Addr) : Hp := fun b => if b = ad then none else H b
theorem del_same : del H ad ad = none := by unfold del; rw [if_pos rfl]
theorem del_ne {b : Addr} (h : b ≠ ad) : del H ad b = H b := by unfold del; rw [if_neg h]
theorem upd_del {o : HO} (e : H ad = some o) : upd (del H ad) ad o = H := by
  funext b
  unfold upd del
  by_cases h : b = ad
  · subst h; rw [if_pos rfl]; exact e.symm
  · rw [if_neg h, if_neg h]
theorem Ext.del (x : Ext H1 L1 H L) (n : H1 ad = Option.none) : Ext H1 L1 (del H ad) L := by
  have ne : ∀ a o, H1 a = some o → a ≠ ad := fun a o e q => by subst q; rw [n] at e; cases e
  exact ⟨fun a o e hl => by rw [del_ne (ne a o e)]; exact x.keep a o e hl, fun a xs e => by rw [del_ne (ne a _ e)]; exact x.tups a xs e, fun a o u e => by rw [del_ne (ne a _ e)]; exact x.frzs a o u e, x.pre, fun a o e => by rw [del_ne (ne a _ e)]; exact x.dom a o e⟩
theorem del_stay {us : List V} (e : H ad = some (.lst us)) : Stay H (Zf (B.plus ad) L A) (del H ad) (Zf B L A) := by
  refine ⟨fun a o e' z => ?_, fun a xs e' => ?_, fun a o u e' => ?_, fun a o e' z => ?_⟩
  · rw [del_ne fun q => z (.inr (.inl (.inr q)))]; exact e'
  · rw [del_ne (fun q => by subst q; rw [e] at e'; cases e')]; exact e'
  · rw [del_ne (fun q => by subst q; rw [e] at e'; cases e')]; exact e'
  · rcases z with z | z | z
    · exact .inl z
    · exact .inr (.inl (.inl z))
    · exact .inr (.inr z)
theorem Good.minus {us : List V} (g : Good M (B.plus ad) H L A h env σ) (n0 : B.H0 ad = none) (nS : ¬ B.S ad) (eD : H ad = some (.lst us)) : Good M B (del H ad) L A h env σ := by
  have st : Stay H (Zf (B.plus ad) L A) (del H ad) (Zf B L A) := del_stay eD
  have bne : ∀ b o, B.H0 b = some o → b ≠ ad := fun b o e q => by subst q; rw [n0] at e; cases e
  refine ⟨g.len, g.nd, fun k o' a e1 e2 => ?_, fun a ha z => g.ls a ha (.inl z), g.lpre, fun a o e hl => by rw [del_ne (bne _ _ e)]; exact g.base a o e hl, fun a xs e => by rw [del_ne (bne _ _ e)]; exact g.btup a xs e, fun a o u e => by rw [del_ne (bne _ _ e)]; exact g.bfrz a o u e, fun a o e => by rw [del_ne (bne _ _ e)]; exact g.dom a o e, fun a z => ?_, g.alen, g.slen, fun i a e => ⟨(g.own i a e).1, fun z => (g.own i a e).2.1 (.inl z), (g.own i a e).2.2⟩, g.odis, fun i sl e => (g.slot i sl e).st st fun a vs q1 q => ?_⟩
  · exact (g.obj k o' a e1 e2).st st (del_ne fun z => g.ls a (List.mem_of_getElem? e2) (.inr z))
  · rw [del_ne (fun q => by subst q; exact nS z)]; exact g.sdom a (.inl z)
  · rw [del_ne fun z => (g.own i a q1).2.1 (.inr z)]; exact q
/-- the block's own slots forgotten -/
def wipeE (env : KF.Env) : List Nat → Option KF.Env
  | [] => some env
  | v :: vs => (wipeE env vs).bind fun e => match e[v]? with
    | some (.o _) => none
    | some _ => some (e.set v .u)
    | none => none
theorem Good.wipe1 (g : Good M B H L A h env σ) {v : Nat} {sl : Sl} (e : env[v]? = some sl) (no : ∀ xs, sl ≠ .o xs) : A[v]? = some none ∧ Good M B H L A h (env.set v .u) (σ.set v none) := by
  have hv : v < env.length := (List.getElem?_eq_some_iff.mp e).1
  have hA : A[v]? = some none := by
    cases g.slot v sl e with
    | u q => exact q
    | v q _ _ => exact q
    | o q _ _ _ => exact absurd rfl (no _)
  refine ⟨hA, g.len, g.nd, g.obj, g.ls, g.lpre, g.base, g.btup, g.bfrz, g.dom, g.sdom, by simp [g.alen], by simp [g.slen], g.own, g.odis, fun j sl' e' => ?_⟩
  by_cases hj : j = v
  · subst hj
    rw [List.getElem?_set_self hv] at e'; cases e'
    exact .u hA
  · rw [List.getElem?_set_ne (Ne.symm hj)] at e'
    exact (g.slot j sl' e').zed rfl (List.getElem?_set_ne (Ne.symm hj)) fun _ z => z
theorem Good.wipe (g : Good M B H L A h env σ) : ∀ {vs : List Nat} {ew : KF.Env}, wipeE env vs = some ew → (∀ i ∈ vs, A[i]? = some none) ∧ Good M B H L A h ew (L2.wipe σ vs)
  | [], ew, e => by cases e; exact ⟨fun _ z => (List.not_mem_nil z).elim, g⟩
  | v :: vs, ew, e => by
    have e : (wipeE env vs).bind (fun e => match e[v]? with
      | some (.o _) => none
      | some _ => some (e.set v .u)
      | none => none) = some ew := e
    cases q : wipeE env vs with
    | none => rw [q] at e; cases e
    | some e1 =>
      rw [q] at e
      obtain ⟨h1, g1⟩ := Good.wipe g q
      have e : (match e1[v]? with
        | some (.o _) => none
        | some _ => some (e1.set v .u)
        | none => none) = some ew := e
      cases q2 : e1[v]? with
      | none => rw [q2] at e; cases e
      | some sl =>
        rw [q2] at e
        cases sl with
        | o xs => cases e
        | u =>
          cases e
          obtain ⟨a, g2⟩ := g1.wipe1 q2 (by intro _ z; cases z)
          exact ⟨fun i hi => by exact (List.mem_cons.mp hi).elim (fun z => z ▸ a) (h1 i), g2⟩
        | v d =>
          cases e
          obtain ⟨a, g2⟩ := g1.wipe1 q2 (by intro _ z; cases z)
          exact ⟨fun i hi => by exact (List.mem_cons.mp hi).elim (fun z => z ▸ a) (h1 i), g2⟩
theorem Ups.same {ts vs : List Nat} {A' : List (Option Addr)} (u : Ups ts σ A σ' A') (sub : ∀ i ∈ ts, i ∈ vs) (hn : ∀ i ∈ vs, A[i]? = some none) : A' = A := by
  apply List.ext_getElem?
  intro i
  by_cases hi : i ∈ ts
  · have := hn i (sub i hi)
    rw [this]
    exact u.ins i hi (List.getElem?_eq_some_iff.mp this).1
  · exact (u.out i hi).2
theorem wipe_in {σ : L2.St} {i : Nat} : ∀ {vs : List Nat}, i ∈ vs → i < σ.length → (L2.wipe σ vs)[i]? = some none
  | v :: vs, h, hl => by
    show ((L2.wipe σ vs).set v none)[i]? = some none
    by_cases e : v = i
    · subst e; rw [List.getElem?_set_self (by rw [wipe_length]; exact hl)]
    · rw [List.getElem?_set_ne e]
      rcases List.mem_cons.mp h with z | z
      · exact absurd z.symm e
      · exact wipe_in z hl
theorem Ups.wiped {ts vs : List Nat} {A' : List (Option Addr)} (u : Ups ts (L2.wipe σ vs) A σ' A') (sub : ∀ i ∈ ts, i ∈ vs) : L2.wipe σ' vs = L2.wipe σ vs := by
  apply List.ext_getElem?
  intro i
  have hl : σ'.length = σ.length := by rw [u.sl, wipe_length]
  by_cases hi : i ∈ vs
  · by_cases hl2 : i < σ.length
    · rw [wipe_in hi hl2, wipe_in hi (by rw [hl]; exact hl2)]
    · rw [List.getElem?_eq_none (by rw [wipe_length]; omega), List.getElem?_eq_none (by rw [wipe_length]; omega)]
  · rw [wipe_out hi, (u.out i fun z => hi (sub i z)).1]
end
/-! ### one clause -/
def Out.nx {α β : Type} (o : Out α) (k : α → MH → Out β) : Out β := match o with
  | .ok a h => k a h
  | _ => .bad
theorem Out.nx_ok {α β : Type} {o : Out α} {k : α → MH → Out β} {b : β} {h : MH} (e : o.nx k = .ok b h) : ∃ a h1, o = .ok a h1 ∧ k a h1 = .ok b h := by
  cases o with
  | ok a h1 => exact ⟨a, h1, rfl, e⟩
  | exc c fs h1 => cases e
  | bad => cases e
def lcF (g : TgF) (ft : EvF Bool) (fe : EvF D) (env : KF.Env) : List D → MH → Out (List PyData)
  | [], h => .ok [] h
  | x :: r, h => match g x env with
    | none => .bad
    | some env1 => (ft env1 h).nx fun b h1 => if b = true then (fe env1 h1).nx fun d h2 => match d with
        | .py y => (lcF g ft fe env r h2).nx fun ys h3 => .ok (y :: ys) h3
        | _ => .bad
      else lcF g ft fe env r h1
def mkL (ds : List PyData) (h : MH) : Out D := if fits ds.length = true then .ok (.py (.list ds)) h else .bad
def semLc (vs : List Nat) (fi : EvF (List D)) (g : TgF) (ft : EvF Bool) (fe : EvF D) : EvF D := fun env h => (fi env h).bind fun xs h1 => match wipeE env vs with
  | none => .bad
  | some ew => (lcF g ft fe ew xs h1).nx mkL
theorem mkL_ok {ds : List PyData} {h h' : MH} {d : D} (e : mkL ds h = .ok d h') : d = .py (.list ds) ∧ h' = h ∧ ds.length ≤ sizeLine := by
  unfold mkL at e
  split at e
  · rename_i c; cases e; exact ⟨rfl, rfl, fits.ok c⟩
  · cases e
abbrev WX0 : WX := fun _ _ _ _ => False
section
variable {M : MK} {B : Bs} {A : List (Option Addr)} {H1 : Hp} {L1 : List Addr} {h1 : MH} {env : KF.Env} {σ : L2.St} {ad : Addr} {W : WX}
theorem src_in {H : Hp} {L : List Addr} (x : Ext H1 L1 H L) (nD : H1 ad = none) : Stay H1 (Zf B L1 A) H (Zf (B.plus ad) L A) := by
  obtain ⟨N, e, n⟩ := x.pre
  refine ⟨fun a o e z => x.keep a o e fun q => z (.inl q), x.tups, x.frzs, fun a o e' z => ?_⟩
  rcases z with z | (z | z) | z
  · rw [e] at z
    rcases List.mem_append.mp z with q | q
    · exact .inl q
    · rw [n a q] at e'; cases e'
  · exact .inr (.inl z)
  · subst z; rw [nD] at e'; cases e'
  · exact .inr (.inr z)
theorem Ext.updD {H : Hp} {L : List Addr} {o : HO} (x : Ext H1 L1 H L) (nD : H1 ad = Option.none) : Ext H1 L1 (upd H ad o) L := by
  have ne : ∀ a o, H1 a = some o → a ≠ ad := fun a o e q => by subst q; rw [nD] at e; cases e
  exact ⟨fun a o e hl => by rw [upd_ne (ne a o e)]; exact x.keep a o e hl, fun a xs e => by rw [upd_ne (ne a _ e)]; exact x.tups a xs e, fun a o u e => by rw [upd_ne (ne a _ e)]; exact x.frzs a o u e, x.pre, fun a o e => by rw [upd_ne (ne a _ e)]; exact x.dom a o e⟩
/-- the block's end -/
theorem lc_fin {H : Hp} {L : List Addr} {h : MH} {ew : KF.Env} {σw : L2.St} {ds : List PyData} {us : List V} {Q : VK} (gd : Good M B H1 L1 A h1 env σ) (nD : H1 ad = none) (q : PostFr M B A env σ W H1 L1 Q (.ok (.py (.list ds)) h))
    (g : Good M (B.plus ad) H L A h ew σw) (x : Ext H1 L1 H L) (eD : H ad = some (.lst us)) (r : RelPs M.K H (Zf (B.plus ad) L A) ds us) : Q (.ref ad) H := by
  have n0 : B.H0 ad = none := gd.free0 nD
  have nS : ¬ B.S ad := fun z => by obtain ⟨o, e⟩ := gd.sdom ad z; rw [nD] at e; cases e
  have g2 : Good M B (del H ad) L A h ew σw := g.minus n0 nS eD
  have g3 := gd.leave (x.del nD) g2
  have := q ds (del H ad) L ad us rfl (x.del nD) g3 del_same (r.stay (del_stay eD))
  rw [upd_del eD] at this
  exact this
theorem lc_go {J : It} {xs : List D} {Src : Hp → (Addr → Prop) → Prop} (wi : WIt M J xs Src) (st : ∀ H Z H' Z', Stay H Z H' Z' → Src H Z → Src H' Z') {ts vs : List Nat} {g : TgF} {ft : EvF Bool} {fe : EvF D} {ew : KF.Env} {ds : List PyData} {h2 : MH} {Q : VK}
    (sub : ∀ i ∈ ts, i ∈ vs) (gd : Good M B H1 L1 A h1 env σ) (src : Src H1 (Zf B L1 A)) (ee : wipeE env vs = some ew) (el : lcF g ft fe ew xs h1 = .ok ds h2) (hz : ds.length ≤ sizeLine) (q : PostFr M B A env σ W H1 L1 Q (.ok (.py (.list ds)) h2)) (nD : H1 ad = none) :
    ∃ Wv : Nat → Nat → Hp → Prop, (∃ m, Wv 0 m (upd H1 ad (.lst []))) ∧ ∀ i m H, Wv i m H →
      (J.stop i H ∧ Q (.ref ad) H) ∨ (J.go i H ∧ ∃ Nx : Hp → Prop, (∀ H', Nx H' → ∃ m', m' < m ∧ Wv (i + 1) m' H') ∧ ∀ x H', J.yld i H x H' → kG M ts g x (L2.wipe σ vs) H' fun σ2 H2 => L2.wipe σ2 vs = L2.wipe σ vs ∧ kT M WX0 ft σ2 H2 fun b H3 =>
        if b = true then kE M .n WX0 fe σ2 H3 fun y H4 => ∃ acc, H4 ad = some (.lst acc) ∧ acc.length < sizeLine ∧ Nx (upd H4 ad (.lst (acc ++ [y]))) else Nx H3) := by
  have n0 : (B.plus ad).H0 ad = none := gd.free0 nD
  have sD : (B.plus ad).S ad := .inr rfl
  have g0 : Good M (B.plus ad) (upd H1 ad (.lst [])) L1 A h1 env σ := gd.plus nD
  obtain ⟨hn, gw⟩ := g0.wipe ee
  refine ⟨fun i m H => m = xs.length - i ∧ i ≤ xs.length ∧ ∃ L h acc us rest, Good M (B.plus ad) H L A h ew (L2.wipe σ vs) ∧ Ext H1 L1 H L ∧ H ad = some (.lst us) ∧ RelPs M.K H (Zf (B.plus ad) L A) acc us ∧ lcF g ft fe ew (xs.drop i) h = .ok rest h2 ∧ acc ++ rest = ds,
    ⟨xs.length, by simp, Nat.zero_le _, L1, h1, [], [], ds, gw, (Ext.refl H1 L1).updD nD, upd_same, .nil, el, rfl⟩, ?_⟩
  rintro i m H ⟨rfl, hi, L, h, acc, us, rest, g', x', eD, r', el', ea⟩
  have src' : Src H (Zf (B.plus ad) L A) := st _ _ _ _ (src_in x' nD) src
  obtain ⟨w1, w2⟩ := wi _ H L A h ew _ g' src' i
  have dL : ad ∉ L := fun z => g'.ls ad z sD
  by_cases hl : i < xs.length
  · obtain ⟨x, hx⟩ : ∃ x, xs[i]? = some x := ⟨_, List.getElem?_eq_getElem hl⟩
    obtain ⟨go, yld⟩ := w2 x hx
    have ed : xs.drop i = x :: xs.drop (i + 1) := by
      rw [List.drop_eq_getElem_cons hl]
      rw [List.getElem?_eq_getElem hl] at hx
      cases hx; rfl
    rw [ed] at el'
    refine .inr ⟨go, fun H' => ∃ L h acc us rest, Good M (B.plus ad) H' L A h ew (L2.wipe σ vs) ∧ Ext H1 L1 H' L ∧ H' ad = some (.lst us) ∧ RelPs M.K H' (Zf (B.plus ad) L A) acc us ∧ lcF g ft fe ew (xs.drop (i + 1)) h = .ok rest h2 ∧ acc ++ rest = ds, fun H' z => ⟨xs.length - (i + 1), by omega, rfl, hl, z⟩, fun v H' hy => ?_⟩
    obtain ⟨sm, r⟩ := yld v H' hy
    unfold lcF at el'
    cases eg : g x ew with
    | none => rw [eg] at el'; cases el'
    | some env1 =>
      rw [eg] at el'
      refine ⟨B.plus ad, L, A, h, ew, x, g'.same sm, r, env1, eg, fun σ2 A2 up g2 => ?_⟩
      cases up.same sub hn
      refine ⟨up.wiped sub, ?_⟩
      obtain ⟨b, h3, et, el2⟩ := Out.nx_ok el'
      refine ⟨B.plus ad, L, A, h, env1, g2, ?_⟩
      rw [et]
      intro b' H3 L3 x3 g3 eb
      cases (show b = b' from eb)
      have xs3 : Ext H L H3 L3 := (Ext.same L sm).trans x3
      have eD3 : H3 ad = some (.lst us) := xs3.keep ad _ eD dL
      have r3 := r'.stay (Z' := Zf (B.plus ad) L3 A) xs3.stay
      cases b with
      | false =>
        simp only [Bool.false_eq_true, if_false] at el2 ⊢
        exact ⟨L3, h3, acc, us, rest, g'.leave xs3 g3, x'.trans xs3, eD3, r3, el2, ea⟩
      | true =>
        simp only [if_true] at el2 ⊢
        obtain ⟨d, h4, ef, el3⟩ := Out.nx_ok el2
        refine ⟨B.plus ad, L3, A, h3, env1, g3, ?_⟩
        rw [ef]
        intro y H4 L4 x4 g4 r4
        cases d with
        | loc n => cases el3
        | scr n => cases el3
        | py d =>
          obtain ⟨ys, h5, el4, e5⟩ := Out.nx_ok el3
          cases e5
          have xs4 : Ext H L H4 L4 := xs3.trans x4
          have dL3 : ad ∉ L3 := fun z => g3.ls ad z sD
          have eD4 : H4 ad = some (.lst us) := x4.keep ad _ eD3 dL3
          have r5 : RelPs M.K H4 (Zf (B.plus ad) L4 A) (acc ++ [d]) (us ++ [y]) := by
            cases r4 with
            | py r4 => exact (r3.stay (Z' := Zf (B.plus ad) L4 A) x4.stay).append (.cons r4 .nil)
          refine ⟨us, eD4, ?_, L4, h4, acc ++ [d], us ++ [y], ys, (g'.leave xs4 g4).setS sD n0 eD4, (x'.trans xs4).updD nD, upd_same, r5.stay (setS_stay sD eD4), el4, by rw [List.append_assoc]; exact ea⟩
          have hlen : acc.length < ds.length := by rw [← ea, List.length_append, List.length_cons]; omega
          rw [← r'.length]; omega
  · have ei : i = xs.length := by omega
    subst ei
    rw [List.drop_length] at el'
    cases el'
    rw [List.append_nil] at ea
    subst ea
    exact .inl ⟨w1 (Nat.le_refl _), lc_fin gd nD q g' x' eD r'⟩
variable {X : Cx}
theorem lc_read {ts vs : List Nat} {fi : EvF (List D)} {g : TgF} {ft : EvF Bool} {fe : EvF D} {Q : VK} {H : Hp} {σ : L2.St} (sub : ∀ i ∈ ts, i ∈ vs) (q : kF M W (semLc vs fi g ft fe) σ H Q) : tLc (kI M W fi) (kG M ts g) (kT M WX0 ft) (kE M .n WX0 fe) vs σ H Q := by
  obtain ⟨B, L, A, h, env, gd, p⟩ := q
  refine ⟨B, L, A, h, env, gd, ?_⟩
  unfold semLc at p
  cases e : fi env h with
  | exc c fs h1 => rw [e] at p; exact p
  | bad => rw [e] at p; exact p
  | ok xs h1 =>
    rw [e] at p
    intro J H1 L1 x1 g1 r ad nD
    obtain ⟨Src, wi, st, src⟩ := r
    have p : PostFr M B A env σ W H L Q (match wipeE env vs with
      | none => .bad
      | some ew => (lcF g ft fe ew xs h1).nx mkL) := p
    cases ee : wipeE env vs with
    | none => rw [ee] at p; exact p.elim
    | some ew =>
      rw [ee] at p
      have p : PostFr M B A env σ W H L Q ((lcF g ft fe ew xs h1).nx mkL) := p
      cases el : lcF g ft fe ew xs h1 with
      | exc c fs h1 => rw [el] at p; exact p.elim
      | bad => rw [el] at p; exact p.elim
      | ok ds h2 =>
        rw [el] at p
        have p : PostFr M B A env σ W H L Q (mkL ds h2) := p
        unfold mkL at p
        by_cases hf : fits ds.length = true
        · rw [if_pos hf] at p
          exact lc_go wi st sub g1 src ee el (fits.ok hf) (PostFr.from x1 p) nD
        · rw [if_neg hf] at p; exact p.elim
theorem PTs.mono {X : Cx} {e : List Expr} {t t' : TT} (h : PTs X e t) (i : ∀ σ H Q, t' σ H Q → t σ H Q) : PTs X e t' := ⟨fun pins s σ H Q I q => h.run pins s σ H Q I (i σ H Q q)⟩
def semYes : EvF Bool := fun _ h => .ok true h
theorem k_yes : PTs X [] (kT M W semYes) := PTs.mono pts_nil fun σ H Q ⟨B, L, A, h, env, g, p⟩ => p.fin g (Same.refl H) rfl
abbrev BlkPE (X : Cx) (scope : Scope) (P : Cx → Prop) : Prop := ∀ (s : Shared) (H : Hp) (C : Addr) (cl : List (Str × Addr)) (fp : List Addr), P (X.blk s H scope (compEnvC scope cl C X.env) fp)
theorem k_lc {elt tg iter : Expr} {ifs : List Expr} {scope : Scope} {own : List (Str × Nat)} {pos : Pos} {ts : List Nat} {fi : EvF (List D)} {g : TgF} {ft : EvF Bool} {fe : EvF D} (hc : X.calm = true) (hN : X.N.Nodup) (hi : PI X tg iter (kI M W fi)) (ok : BlkOk X.N X.env.scope scope own)
    (sub : ∀ i ∈ ts, i ∈ own.map (·.2)) (hg : BlkPE X scope fun Y => PG Y tg (kG M ts g)) (ht : BlkPE X scope fun Y => PTs Y ifs (kT M WX0 ft)) (he : BlkPE X scope fun Y => PE Y elt (kE M .n WX0 fe)) (hs : ∀ x, foldedSetIterable iter X.env x = pure x) :
    PE X (.ListComp elt [⟨tg, iter, ifs, 0⟩] scope pos) (kF M W (semLc (own.map (·.2)) fi g ft fe)) :=
  PE.mono (pe_lc hc hN hi ok hg ht he hs) fun _ _ _ q => lc_read sub q
/-- y = [..] -/
theorem s_ownLc {i : Nat} {y : Str} {py : Pos} {elt tg iter : Expr} {ifs : List Expr} {scope : Scope} {own : List (Str × Nat)} {pos spos : Pos} {ts : List Nat} {fi : EvF (List D)} {g : TgF} {ft : EvF Bool} {fe : EvF D} (hc : X.calm = true) (hN : X.N.Nodup) (hy : X.N[i]? = some y) (hyl : X.env.scope.names.lookup y = some .local)
    (hsw : swapsWith (.ListComp elt [⟨tg, iter, ifs, 0⟩] scope pos) (some (.Name y py)) spos.line X.env = pure true) (hi : PI X tg iter (kI M W fi)) (ok : BlkOk X.N X.env.scope scope own)
    (sub : ∀ i ∈ ts, i ∈ own.map (·.2)) (hg : BlkPE X scope fun Y => PG Y tg (kG M ts g)) (ht : BlkPE X scope fun Y => PTs Y ifs (kT M WX0 ft)) (he : BlkPE X scope fun Y => PE Y elt (kE M .n WX0 fe)) (hs : ∀ x, foldedSetIterable iter X.env x = pure x) :
    PS X (.Assign [.Name y py] (.ListComp elt [⟨tg, iter, ifs, 0⟩] scope pos) spos) (kS M W (semOwn i (semLc (own.map (·.2)) fi g ft fe))) :=
  PS.mono (ps_setLc hc hN hy hyl hsw hi ok hg ht he hs) fun _ _ _ q => lc_read sub (own_core q)
end
end KF
set_option Elab.async false
set_option linter.all false
set_option maxRecDepth 100000
set_option maxHeartbeats 4000000
/-! KF, part 13: values that are new lists or no lists; +, in, slices; places made. -/
namespace KF
open PySem PySem.Spec PyProof.Rows L2
def isL : D → Bool
  | .py (.list _) => true
  | _ => false
section
variable {X : Cx} {M : MK} {m m' : Mode} {W : WX}
def PostX (M : MK) (B : Bs) (A : List (Option Addr)) (env : KF.Env) (σ : L2.St) (W : WX) (H : Hp) (L : List Addr) (Q : VK) (o : Out D) : Prop := match o with
  | .ok d h' => if isL d = true then PostFr M B A env σ W H L Q (.ok d h') else Post M B A env σ W (RelM M .n B A) H L Q (.ok d h')
  | o => PostFr M B A env σ W H L Q o
def kX (M : MK) (W : WX) (f : EvF D) : TE := fun σ H Q => ∃ B L A h env, Good M B H L A h env σ ∧ PostX M B A env σ W H L Q (f env h)
theorem PostX.from {B : Bs} {A : List (Option Addr)} {env : KF.Env} {σ : L2.St} {H H1 : Hp} {L L1 : List Addr} {Q : VK} {o : Out D} (x : Ext H L H1 L1) (p : PostX M B A env σ W H L Q o) : PostX M B A env σ W H1 L1 Q o := by
  cases o with
  | ok d h =>
    unfold PostX at p ⊢
    dsimp only at p ⊢
    by_cases e : isL d = true
    · rw [if_pos e] at p ⊢; exact PostFr.from x p
    · rw [if_neg e] at p ⊢; exact Post.from (R := RelM M .n) sm_M x p
  | exc c fs h => exact PostFr.from (M := M) (B := B) (Q := Q) (o := .exc c fs h) x p
  | bad => exact p
theorem fr_n {B : Bs} {A : List (Option Addr)} {env : KF.Env} {σ : L2.St} {H : Hp} {L : List Addr} {Q : VK} {d : D} {h' : MH} (e : isL d = true) (q : Post M B A env σ W (RelM M .n B A) H L Q (.ok d h')) : PostFr M B A env σ W H L Q (.ok d h') := by
  intro ps H1 L1 a vs ed x g1 ha r
  subst ed
  exact q _ _ L1 (x.trans (Ext.same L1 (same_upd ha))) (g1.same (same_upd ha)) (RelM.ofP (.lst (.inl upd_same) (g1.free ha) (r.stay (Ext.same L1 (same_upd ha)).stay)))
theorem PE.ofX {e : Expr} {f : EvF D} (p : PE X e (kX M W f)) : PE X e (kE M .n W f) := by
  refine PE.mono p fun σ H Q ⟨B, L, A, h, env, g, q⟩ => ⟨B, L, A, h, env, g, ?_⟩
  cases ef : f env h with
  | ok d h' =>
    rw [ef] at q
    unfold PostX
    dsimp only
    by_cases e : isL d = true
    · rw [if_pos e]; exact fr_n e q
    · rw [if_neg e]; exact q
  | exc c fs h' => rw [ef] at q; exact q
  | bad => rw [ef] at q; exact q
theorem PE.xOfF {e : Expr} {f : EvF D} (p : PE X e (kF M W f)) (hl : ∀ env h d h', f env h = .ok d h' → isL d = true) : PE X e (kX M W f) := by
  refine PE.mono p fun σ H Q ⟨B, L, A, h, env, g, q⟩ => ⟨B, L, A, h, env, g, ?_⟩
  cases ef : f env h with
  | ok d h' =>
    rw [ef] at q
    unfold PostX at q
    dsimp only at q
    rw [if_pos (hl _ _ _ _ ef)] at q
    exact q
  | exc c fs h' => rw [ef] at q; exact q
  | bad => rw [ef] at q; exact q
theorem tG_bindX {α β : Type} {B : Bs} {A : List (Option Addr)} {env : KF.Env} {σ : L2.St} {R : RT α β} {H : Hp} {L : List Addr} {h : MH} {f : EvF α} {k : α → MH → Out D} {Q : VK} {T : β → Hp → Prop}
    (g : Good M B H L A h env σ) (p : PostX M B A env σ W H L Q ((f env h).bind k))
    (hk : ∀ a h1 b H1 L1, f env h = .ok a h1 → Ext H L H1 L1 → Good M B H1 L1 A h1 env σ → R B A H H1 L1 a b → PostX M B A env σ W H1 L1 Q (k a h1) → T b H1) : tG M R W f σ H T := by
  refine ⟨B, L, A, h, env, g, ?_⟩
  cases e : f env h with
  | ok a h1 => rw [e] at p; exact fun b H' L' x g' r => hk a h1 b H' L' e x g' r (PostX.from x p)
  | exc c fs h1 => rw [e] at p; exact p
  | bad => rw [e] at p; exact p
theorem PostX.tX {B : Bs} {A : List (Option Addr)} {H : Hp} {L : List Addr} {h : MH} {env : KF.Env} {σ : L2.St} {f : EvF D} {Q : VK} (g : Good M B H L A h env σ) (p : PostX M B A env σ W H L Q (f env h)) : kX M W f σ H Q := ⟨B, L, A, h, env, g, p⟩
theorem k_ifxX {t a b : Expr} {ft : EvF Bool} {fa fb : EvF D} {pos : Pos} (ht : PT X t (kT M W ft)) (ha : PE X a (kX M W fa)) (hb : PE X b (kX M W fb)) : PE X (.IfExp t a b pos) (kX M W (semIf ft fa fb)) := by
  refine PE.mono (pe_ifExp ht ha hb) fun σ H Q ⟨B, L, A, h, env, g, p⟩ => ?_
  refine tG_bindX g p fun x h1 v H1 L1 e1 x1 g1 r1 p1 => ?_
  cases (show x = v from r1)
  cases x with
  | true => exact PostX.tX g1 p1
  | false => exact PostX.tX g1 p1
/-! ### an operation whose value is a new list or no list -/
def Op2X (M : MK) (r : R2) (fo : MH → D → D → Option D) : Prop :=
  ∀ (B : Bs) (A : List (Option Addr)) (H : Hp) (L : List Addr) (h : MH) (env : KF.Env) (σ : L2.St) (d1 d2 d3 : D) (v1 v2 : V) (Q : VK), Good M B H L A h env σ → RelM M .b B A H H L d1 v1 → RelM M .b B A H H L d2 v2 → fo h d1 d2 = some d3 →
    (∀ ps a vs, d3 = .py (.list ps) → H a = none → RelPs M.K H (Zf B L A) ps vs → Q (.ref a) (upd H a (.lst vs))) → (isL d3 = false → ∀ v H', Same H H' → RelM M .n B A H H' L d3 v → Q v H') → r v1 v2 H Q
theorem PostX.fin {B : Bs} {A : List (Option Addr)} {env : KF.Env} {σ : L2.St} {H : Hp} {L : List Addr} {h : MH} {Q : VK} {d3 : D} (p : PostX M B A env σ W H L Q (.ok d3 h)) (g : Good M B H L A h env σ) :
    (∀ ps a vs, d3 = .py (.list ps) → H a = none → RelPs M.K H (Zf B L A) ps vs → Q (.ref a) (upd H a (.lst vs))) ∧ (isL d3 = false → ∀ v H', Same H H' → RelM M .n B A H H' L d3 v → Q v H') := by
  unfold PostX at p
  dsimp only at p
  refine ⟨fun ps a vs e n r => ?_, fun e v H' s r => ?_⟩
  · subst e
    rw [if_pos (by rfl)] at p
    exact PostFr.fin p g n r
  · rw [if_neg (by rw [e]; exact Bool.false_ne_true)] at p
    exact Post.fin p g s r
theorem k_opX {op : Operator} {r : R2} {fo : MH → D → D → Option D} {a b : Expr} {fa fb : EvF D} {pos : Pos} (ho : OpR X (binaryOp op) r) (o2 : Op2X M r fo) (ha : PE X a (kE M .b W fa)) (hb : PE X b (kE M .b W fb)) :
    PE X (.BinOp a op b pos) (kX M W (sem2 fa fb fo)) := by
  refine PE.mono (pe_op ho ha hb) fun σ H Q ⟨B, L, A, h, env, g, p⟩ => ?_
  refine tG_bindX g p fun x h1 v H1 L1 e1 x1 g1 r1 p1 => ?_
  refine tG_bindX g1 p1 fun y h2 u H2 L2 e2 x2 g2 r2 p2 => ?_
  have r1' : RelM M .b B A H2 H2 L2 x v := r1.stay x2 fun i a ha => (g1.own i a ha).1
  cases e : fo h2 x y with
  | none => rw [e] at p2; exact p2.elim
  | some d3 =>
    rw [e] at p2
    obtain ⟨q1, q2⟩ := PostX.fin p2 g2
    exact o2 B A H2 L2 h2 env σ x y d3 v u Q g2 r1' r2 e q1 q2
theorem op_or {f : Value → Value → Sem Value} {r r' : R2} (h : OpR X f r) (h' : OpR X f r') : OpR X f (fun x y H Q => r x y H Q ∨ r' x y H Q) := by
  intro pins s σ H x y v u Q I rx ry q
  rcases q with q | q
  · exact h pins s σ H x y v u Q I rx ry q
  · exact h' pins s σ H x y v u Q I rx ry q
/-! ### + -/
def rAddS : R2 := fun x y H Q => ∃ i j, x = .str i ∧ y = .str j ∧ i.length + j.length ≤ sizeLine ∧ Q (.str (i ++ j)) H
def rAdd (K : PySem.W.Frag) : R2 := fun x y H Q => ((rI0 fun i j => .int (i + j)) x y H Q ∨ rAddS x y H Q) ∨ rCatTA K x y H Q ∨ rCatR x y H Q
theorem op_addU : OpR X (binaryOp .Add) (rAdd X.K) := op_or (op_or op_add op_add_str) (op_or op_catTA op_catR)
def addO : MH → D → D → Option D := fun h x y => match x, y with
  | .py (.int i), .py (.int j) => some (.py (.int (i + j)))
  | .py (.str a), .py (.str b) => if sOk (a ++ b) = true then some (.py (.str (a ++ b))) else none
  | .py (.tuple xs), .py (.tuple ys) => if fits (xs.length + ys.length) = true then some (.py (.tuple (xs ++ ys))) else none
  | x, y => catL h x y
theorem str_len {a b : Str} : (a ++ b).length = a.length + b.length := by
  show (a.cps ++ b.cps).size = _
  rw [Array.size_append]; rfl
theorem o_addU : Op2X M (rAdd M.K) addO := by
  intro B A H L h env σ d1 d2 d3 v1 v2 Q g r1 r2 e k1 k2
  unfold addO at e
  split at e
  · cases e
    exact .inl (.inl ⟨_, _, r1.int, r2.int, k2 rfl _ _ (Same.refl H) (RelM.ofP (.int _))⟩)
  · split at e
    · rename_i a b c
      cases e
      obtain ⟨rfl, o1⟩ := r1.str
      obtain ⟨rfl, o2⟩ := r2.str
      refine .inl (.inr ⟨_, _, rfl, rfl, ?_, k2 rfl _ _ (Same.refl H) (RelM.ofP (.str _ c))⟩)
      rw [← str_len]
      exact sOk.line c
    · cases e
  · rename_i xs ys
    split at e
    · rename_i c
      have e' : catT h (.py (.tuple xs)) (.py (.tuple ys)) = some d3 := by
        unfold catT
        dsimp only
        rw [if_pos c]; exact e
      refine .inr (.inl (o_catT B A H L h env σ _ _ d3 v1 v2 Q g r1 r2 e' (k2 ?_)))
      cases e; rfl
    · cases e
  · exact .inr (.inr (o_catL B A H L h env σ _ _ d3 v1 v2 Q g r1 r2 e k1))
/-! ### in -/
def seqD (h : MH) : D → Option (List PyData)
  | .py (.tuple xs) => some xs
  | d => listOf h d
def inD : MH → D → D → Option Bool := fun h x y => match x, seqD h y with
  | .py d, some ds => if shal 64 d = true then some (ds.any fun z => PyData.eqv z d) else none
  | _, _ => none
def ninD : MH → D → D → Option Bool := fun h x y => (inD h x y).map (!·)
def rInU (K : PySem.W.Frag) (n : Bool) : R2 := fun x y H Q => ∃ d ds, Dp K H x d ∧ (Dp K H y (.list ds) ∨ Dp K H y (.tuple ds)) ∧ d.canLay0 = true ∧ PyData.canLayAll0 ds = true ∧ d.depth ≤ 64 ∧ Q (.bl (xor n (ds.any fun z => PyData.eqv z d))) H
theorem op_inU (hu : X.A.units + 65 < cLine) : OpR X (compareOp .In) (rInU X.K false) := by
  intro pins s σ H x y v u Q I rx ry h
  obtain ⟨d, ds, hd, he, c1, c2, dp, q⟩ := h
  rw [Bool.false_xor] at q
  obtain ⟨as, r1⟩ := Dp.reads I d x v hd rx
  have room : X.A.units + 1 + min (PyData.depthAll ds) d.depth < cLine := by
    have := Nat.min_le_right (PyData.depthAll ds) d.depth
    omega
  rcases he with he | he
  · obtain ⟨bs, r2⟩ := Dp.reads I (.list ds) y u he ry
    exact SeqAt.in_list_reads r2 r1 c2 c1 room ⟨.bl _, H, I, rfl, q⟩
  · obtain ⟨bs, r2⟩ := Dp.reads I (.tuple ds) y u he ry
    exact SeqAt.in_tuple_reads r2 r1 c2 c1 room ⟨.bl _, H, I, rfl, q⟩
theorem op_ninU (hu : X.A.units + 65 < cLine) : OpR X (compareOp .NotIn) (rInU X.K true) := by
  intro pins s σ H x y v u Q I rx ry h
  obtain ⟨d, ds, hd, he, c1, c2, dp, q⟩ := h
  rw [Bool.true_xor] at q
  obtain ⟨as, r1⟩ := Dp.reads I d x v hd rx
  have room : X.A.units + 1 + min (PyData.depthAll ds) d.depth < cLine := by
    have := Nat.min_le_right (PyData.depthAll ds) d.depth
    omega
  rcases he with he | he
  · obtain ⟨bs, r2⟩ := Dp.reads I (.list ds) y u he ry
    exact SeqAt.notIn_list_reads r2 r1 c2 c1 room ⟨.bl _, H, I, rfl, q⟩
  · obtain ⟨bs, r2⟩ := Dp.reads I (.tuple ds) y u he ry
    exact SeqAt.notIn_tuple_reads r2 r1 c2 c1 room ⟨.bl _, H, I, rfl, q⟩
theorem seqD_dp {B : Bs} {A : List (Option Addr)} {H : Hp} {L : List Addr} {h : MH} {env : KF.Env} {σ : L2.St} {d : D} {v : V} {xs : List PyData} (g : Good M B H L A h env σ) (r : RelM M .b B A H H L d v) (e : seqD h d = some xs) :
    (Dp M.K H v (.list xs) ∨ Dp M.K H v (.tuple xs)) ∧ PyData.canLayAll0 xs = true := by
  unfold seqD at e
  split at e
  · cases e
    obtain ⟨a, vs, rfl, h1, h2⟩ := r.tup
    exact ⟨.inr (.tup h1 h2.dp), h2.lay⟩
  · obtain ⟨a, vs, rfl, h1, h2⟩ := listOf_rel g r e
    exact ⟨.inl (.lst (.inl h1) h2.dp), h2.lay⟩
theorem inD_core {B : Bs} {A : List (Option Addr)} {H : Hp} {L : List Addr} {h : MH} {env : KF.Env} {σ : L2.St} {d1 d2 : D} {b n : Bool} {v1 v2 : V} {Q : VK} (g : Good M B H L A h env σ) (r1 : RelM M .b B A H H L d1 v1) (r2 : RelM M .b B A H H L d2 v2) (e : inD h d1 d2 = some b)
    (q : Q (.bl (xor n b)) H) : rInU M.K n v1 v2 H Q := by
  unfold inD at e
  split at e
  · rename_i d ds es
    split at e
    · rename_i c
      cases e
      obtain ⟨h1, h2⟩ := seqD_dp g r2 es
      exact ⟨d, ds, r1.dp, h1, r1.lay, h2, shal_depth d 64 r1.lay c, q⟩
    · cases e
  · cases e
theorem c_in : Cm2 M (rInU M.K false) inD := by
  intro B A H L h env σ d1 d2 b v1 v2 Q g r1 r2 e q
  exact inD_core g r1 r2 e (by rw [Bool.false_xor]; exact q)
theorem c_nin : Cm2 M (rInU M.K true) ninD := by
  intro B A H L h env σ d1 d2 b v1 v2 Q g r1 r2 e q
  unfold ninD at e
  cases e2 : inD h d1 d2 with
  | none => rw [e2] at e; cases e
  | some k => rw [e2] at e; cases e; exact inD_core g r1 r2 e2 (by rw [Bool.true_xor]; exact q)
/-! ### places made -/
theorem Ext.newP {H : Hp} {L : List Addr} {p : Addr} {o : HO} (n : H p = Option.none) : Ext H L (upd H p o) (L ++ [p]) := by
  have sm : Same H (upd H p o) := same_upd n
  refine ⟨fun a o e _ => sm a o e, fun a xs e => sm a _ e, fun a o u e => sm a _ e, ⟨[p], rfl, fun a ha => ?_⟩, fun a o e => ⟨o, sm a o e⟩⟩
  have ha : a = p := by simpa using ha
  rw [ha]; exact n
theorem RelDs.ofPs {K : PySem.W.Frag} {H : Hp} {L : List Addr} {Z : Addr → Prop} : ∀ {ds : List PyData} {vs : List V}, RelPs K H Z ds vs → RelDs K H L Z (ds.map .py) vs
  | _, _, .nil => .nil
  | _, _, .cons r t => .cons (.py r) (RelDs.ofPs t)
def promO (d : D) (h : MH) : Out D := match d with
  | .py (.list ps) => .ok (.loc h.length) (h ++ [.lst (ps.map .py)])
  | _ => .bad
def semProm (f : EvF D) : EvF D := fun env h => (f env h).bind promO
theorem newP_rel {B : Bs} {A : List (Option Addr)} {H : Hp} {L : List Addr} {h : MH} {env : KF.Env} {σ : L2.St} {Q : VK} {ds : List D} {vs : List V} {p : Addr} (g : Good M B H L A h env σ) (n : H p = none) (r : RelDs M.K H L (Zf B L A) ds vs)
    (q : Post M B A env σ W (RelM M .n B A) H L Q (.ok (.loc h.length) (h ++ [.lst ds]))) : Q (.ref p) (upd H p (.lst vs)) := by
  refine q (.ref p) (upd H p (.lst vs)) (L ++ [p]) (Ext.newP n) (g.newL n fun Z hz => .lst upd_same ?_) (RelD.loc ?_)
  · exact r.stay (M := [p]) ⟨fun a o e _ => same_upd n a o e, fun a xs e => same_upd n a _ e, fun a o u e => same_upd n a _ e, fun a o e z => hz a o e z⟩
  · rw [← g.len, List.getElem?_append_right (Nat.le_refl _), Nat.sub_self]; rfl
theorem k_prom {e : Expr} {f : EvF D} (p : PE X e (kF M W f)) : PE X e (kE M .n W (semProm f)) := by
  refine PE.mono p fun σ H Q ⟨B, L, A, h, env, g, q⟩ => ⟨B, L, A, h, env, g, ?_⟩
  unfold semProm at q
  cases ef : f env h with
  | ok d h' =>
    rw [ef] at q
    intro ps H1 L1 a vs ed x g1 ha r
    subst ed
    exact newP_rel g1 ha (RelDs.ofPs r) (Post.from (R := RelM M .n) sm_M x q)
  | exc c fs h' => rw [ef] at q; exact q
  | bad => rw [ef] at q; exact q
def semLstL (f : EvF (List D)) : EvF D := fun env h => (f env h).bind fun ds h1 => if fits ds.length = true then .ok (.loc h1.length) (h1 ++ [.lst ds]) else .bad
theorem k_lstL {es : List Expr} {f : EvF (List D)} {pos : Pos} (ha : PA X es (kA M .n W f)) : PE X (.List es pos) (kE M .n W (semLstL f)) := by
  refine PE.mono (pe_lst ha) fun σ H Q ⟨B, L, A, h, env, g, p⟩ => ?_
  refine tG_bind sm_M g p fun ds h1 vs H1 L1 e1 x1 g1 r1 p1 => ?_
  by_cases hf : fits ds.length = true
  · rw [if_pos hf] at p1
    exact ⟨by rw [← r1.length]; exact fits.ok hf, fun q hq => newP_rel g1 hq r1.ds p1⟩
  · rw [if_neg hf] at p1; exact p1.elim
/-! ### slices -/
def cutSt (z : Str) (lo hi : Option Int) : Str := cutS z lo hi
def cutU : D → Option Int → Option Int → Option D
  | .py (.list xs), lo, hi => some (.py (.list (cut xs lo hi)))
  | .py (.tuple xs), lo, hi => some (.py (.tuple (cut xs lo hi)))
  | .py (.str z), lo, hi => if sOk (cutS z lo hi) = true then some (.py (.str (cutS z lo hi))) else none
  | _, _, _ => none
def rSlL (K : PySem.W.Frag) : V → Option Int → Option Int → Hp → VK → Prop := fun x lo hi H Q => ∃ a xs, x = .ref a ∧ SqL K H a xs ∧ ∀ p, H p = none → Q (.ref p) (upd H p (.lst (cutV xs lo hi)))
def rSlS : V → Option Int → Option Int → Hp → VK → Prop := fun x lo hi H Q => ∃ z, x = .str z ∧ z.length ≤ sizeLine ∧ Q (.str (cutS z lo hi)) H
theorem k_slX (hK : M.K = X.K) {e : Expr} {lo hi : Option Expr} {p2 pos : Pos} {fa : EvF D} {fl fh : EvF (Option Int)} (ha : PE X e (kE M .b W fa)) (hl : PO X lo (kO M W fl)) (hh : PO X hi (kO M W fh)) :
    PE X (.Subscript e (.Slice lo hi none p2) pos) (kX M W (semSl fa fl fh cutU)) := by
  refine PE.mono (pe_slice (SlR.or sl_tupA (SlR.or sl_list sl_str)) ha hl hh) fun σ H Q ⟨B, L, A, h, env, g, p⟩ => ?_
  refine tG_bindX g p fun x h1 v H1 L1 e1 x1 g1 r1 p1 => ?_
  refine tG_bindX g1 p1 fun lo h2 lo' H2 L2 e2 x2 g2 r2 p2 => ?_
  refine tG_bindX g2 p2 fun hi h3 hi' H3 L3 e3 x3 g3 r3 p3 => ?_
  cases (show lo = lo' from r2)
  cases (show hi = hi' from r3)
  have r1' : RelM M .b B A H3 H3 L3 x v := r1.stay (x2.trans x3) fun i a ha => (g1.own i a ha).1
  cases e : cutU x lo hi with
  | none => rw [e] at p3; exact p3.elim
  | some d =>
    rw [e] at p3
    obtain ⟨q1, q2⟩ := PostX.fin p3 g3
    unfold cutU at e
    split at e
    · cases e
      obtain ⟨a, vs, rfl, h1, h2⟩ := r1'.list
      exact .inr (.inl ⟨a, vs, rfl, .inl h1, fun q hq => q1 _ _ _ rfl hq (cut_rel h2 lo hi)⟩)
    · cases e
      obtain ⟨a, vs, rfl, h1, h2⟩ := r1'.tup
      refine .inl ⟨a, vs, rfl, hK ▸ h1, fun hw => ?_, fun hw q hq => q2 rfl _ _ (same_upd hq) (relTup hq (cut_rel h2 lo hi))⟩
      have ec : cutV vs lo hi = vs := by
        unfold cutV
        rw [hw.1, hw.2, List.drop_zero, Nat.sub_zero, List.take_length]
      have := cut_rel h2 lo hi
      rw [ec] at this
      exact q2 rfl _ _ (Same.refl _) (RelM.ofP (.tup h1 this))
    · split at e
      · rename_i c
        cases e
        obtain ⟨rfl, o1⟩ := r1'.str
        exact .inr (.inr ⟨_, rfl, sOk.line o1, q2 rfl _ _ (Same.refl _) (RelM.ofP (.str _ c))⟩)
      · cases e
    · cases e
/-! ### stores -/
def stoE (i : Nat) (d : D) (env : KF.Env) : Option KF.Env := if i < env.length then some (env.set i (match d with
  | .py (.list xs) => .o xs
  | d => .v d)) else none
def semSto (i : Nat) (fa : EvF D) : EvS := fun env h => (fa env h).toS env fun d h1 => match stoE i d env with
  | some env' => .nx env' h1
  | none => .bad
theorem isL_false {d : D} (e : isL d ≠ true) : (match d with
  | .py (.list xs) => Sl.o xs
  | d => .v d) = .v d := by
  unfold isL at e
  split at e
  · exact absurd rfl e
  · rename_i h
    cases d with
    | loc n => rfl
    | scr n => rfl
    | py d => cases d <;> first | rfl | exact absurd rfl (h _)
theorem sto_core {i : Nat} {fa : EvF D} {De : Ends} {σ : L2.St} {H : Hp} (q : kS M W (semSto i fa) De σ H) : tAsg (kX M W fa) (gName i) De σ H := by
  obtain ⟨B, L, A, h, env, gd, p⟩ := q
  refine ⟨B, L, A, h, env, gd, ?_⟩
  unfold semSto at p
  cases e : fa env h with
  | ok d h1 =>
    rw [e] at p
    have p : PostS M B W De (match stoE i d env with
      | some env' => .nx env' h1
      | none => .bad) := p
    unfold stoE at p
    by_cases hl : i < env.length
    · rw [if_pos hl] at p
      unfold PostX
      dsimp only at p ⊢
      by_cases el : isL d = true
      · rw [if_pos el]
        intro ps H1 L1 a vs ed x g1 n r
        subst ed
        exact p _ _ _ _ (g1.setNew n r hl)
      · rw [if_neg el]
        rw [isL_false el] at p
        intro b H1 L1 x g1 r
        exact p _ _ _ _ (g1.setV r hl)
    · rw [if_neg hl] at p; exact p.elim
  | exc c fs h1 => rw [e] at p; exact fun cls dd H' L' x g' r => p cls dd σ H' L' A g' r
  | bad => rw [e] at p; exact p
theorem s_sto {i : Nat} {x : Str} {e : Expr} {fa : EvF D} {p1 pos : Pos} (hN : X.N.Nodup) (hi : X.N[i]? = some x) (hx : Loc X.env.scope x) (hf : X.fn x = true ∨ X.env.scope.names.lookup x = some .local) (ha : PE X e (kX M W fa)) (hs : swapsWith e (some (.Name x p1)) pos.line X.env = pure false) :
    PS X (.Assign [.Name x p1] e pos) (kS M W (semSto i fa)) := PS.mono (ps_set hN hi hx ha hs hf) fun _ _ _ q => sto_core q
/-- x[k] = e: the frame's own list, a list at a place -/
def semPut (i : Nat) (fk fa : EvF D) : EvS := fun env h => (fa env h).toS env fun d h1 => match env[i]? with
  | some (.o xs) => (fk env h1).toS env fun k h2 => match putO i xs env k d with
    | some env' => .nx env' h2
    | none => .bad
  | some (.v r) => (fk env h1).toS env fun k h2 => match putL h2 r k d with
    | some h' => .nx env h'
    | none => .bad
  | _ => .bad
theorem s_put {i : Nat} {x : Str} {k e : Expr} {fk fa : EvF D} {np tp pos : Pos} (hN : X.N[i]? = some x) (hv : Vis X.env.scope x) (hd : (x == ("__debug__" : Str)) = false) (hcd : (x == ("__classdict__" : Str)) = false)
    (ha : PE X e (kE M .n W fa)) (hk : PE X k (kE M .b W fk)) (hs : swapsWithSole [.Subscript (.Name x np) k tp] e pos.line X.env = pure false) (hw : swappedStores [.Subscript (.Name x np) k tp] e X.env = pure none)
    (h1 : (assignEach [.Subscript (.Name x np) k tp] X.env).map (·.2) = [assign (.Subscript (.Name x np) k tp) X.env])
    (hasn : AsnSub (.Name x np) k tp X.env) : PS X (.Assign [.Subscript (.Name x np) k tp] e pos) (kS M W (semPut i fk fa)) := by
  refine PS.mono (ps_asg ha (pg_sub (pe_var hN hv hd hcd) hk set_list hasn) hs hw h1) fun De σ H ⟨B, L, A, h, env, g, p⟩ => ?_
  refine tG_toS g p fun d h1 v H1 L1 e1 x1 g1 r1 p1 => ?_
  cases e0 : env[i]? with
  | none => rw [e0] at p1; exact p1.elim
  | some sl =>
    rw [e0] at p1
    cases sl with
    | u => exact p1.elim
    | v rd =>
      cases g1.slot i _ e0 with
      | @v _ w q1 q2 q3 =>
        refine ⟨w, q2, ?_⟩
        refine tG_toS g1 p1 fun kd h3 kv H3 L3 e3 x3 g3 r3 p3 => ?_
        cases e4 : putL h3 rd kd d with
        | none => rw [e4] at p3; exact p3.elim
        | some h' =>
          rw [e4] at p3
          obtain ⟨n, i', ds, j, rfl, rfl, eh, ej, rfl⟩ := putL_some e4
          have r1' : RelM M .n B A H3 H3 L3 d v := RelM.stay (m := .n) (Hs := H3) r1 x3 fun i a ha => (g1.own i a ha).1
          have r2' : RelM M .n B A H3 H3 L3 (.loc n) w := RelM.stay (m := .n) (Hs := H3) q3 x3 fun i a ha => (g1.own i a ha).1
          obtain ⟨a, ea, rfl⟩ := r2'.loc
          cases g3.obj n _ a eh ea with
          | @lst _ vs q1 q2 =>
            refine ⟨a, vs, i', j, rfl, r3.int, q1, by rw [← q2.length]; exact ej, p3 _ _ _ _ (g3.setL ea q1 (fun _ z => nomatch z) (fun _ _ z => nomatch z) (.lst upd_same ?_))⟩
            have aL : a ∈ L3 := List.mem_of_getElem? ea
            have za : Zf B L3 A a := .inl aL
            have ne : ∀ b o, H3 b = some o → b ≠ a → (upd H3 a (.lst (vs.set j v))) b = some o := fun b o e q => by rw [upd_ne q]; exact e
            have st : Stay H3 (Zf B L3 A) (upd H3 a (.lst (vs.set j v))) (Zf B L3 A) := ⟨fun b o e z => ne b o e fun q => z (q ▸ za), fun b xs e => ne b _ e (fun q => by subst q; rw [q1] at e; cases e), fun b o u e => ne b _ e (fun q => by subst q; rw [q1] at e; cases e), fun b o _ z => z⟩
            have := (q2.set r1' j).stay (M := []) st
            rw [List.append_nil] at this
            exact this
    | o xs =>
      obtain ⟨a, vs, q1, q2, q3, q4⟩ := ownL g1 e0
      refine ⟨.ref a, q2, ?_⟩
      refine tG_toS g1 p1 fun kd h2 kv H2 L2 e2 x2 g2 r2 p2 => ?_
      cases e3 : putO i xs env kd d with
      | none => rw [e3] at p2; exact p2.elim
      | some env' =>
        rw [e3] at p2
        obtain ⟨n, y, j, rfl, rfl, ej, rfl⟩ := putO_some e3
        have aL := (g1.own i a q1).1
        have q3' := x2.keep a _ q3 aL
        have q4' := q4.stay x2.stay (Z' := Zf B L2 A)
        have r1' : RelM M .n B A H2 H2 L2 (.py y) v := RelM.stay (m := .n) (Hs := H2) r1 x2 fun i a ha => (g1.own i a ha).1
        cases r1' with
        | py r1' => exact ⟨a, vs, n, j, rfl, r2.int, q3', by rw [← q4.length]; exact ej, p2 _ _ _ _ (g2.setOwn q1 q3' q2 (q4'.set r1' j))⟩
/-- a, b = x, [..]: the second one the frame's own -/
def semPar2 (i j : Nat) (fa fb : EvF D) : EvS := fun env h => (fa env h).toS env fun d h1 => (fb env h1).toS env fun e h2 => if i < env.length then match stoE j e (env.set i (.v d)) with
  | some env' => .nx env' h2
  | none => .bad
  else .bad
theorem s_par2 {i j : Nat} {x y : Str} {a b : Expr} {fa fb : EvF D} {px py pt pos : Pos} {kt k2 : Nat} {pt2 : Pos} (hc : X.calm = true) (hN : X.N.Nodup) (hi : X.N[i]? = some x) (hj : X.N[j]? = some y) (hij : i ≠ j)
    (hx : X.env.scope.names.lookup x = some .local) (hy : X.env.scope.names.lookup y = some .local) (ha : PE X a (kE M .n W fa)) (hb : PE X b (kX M W fb))
    (hs1 : starEach [a, b] X.env = (false, eval a X.env) :: starEach [b] X.env) (hs2 : starEach [b] X.env = (false, eval b X.env) :: starEach [] X.env)
    (hw : swappedStores [.Tuple [.Name x px, .Name y py] kt pt] (.Tuple [a, b] k2 pt2) X.env = pure (some [x, y]))
    (hs : swapsWithSole [.Tuple [.Name x px, .Name y py] kt pt] (.Tuple [a, b] k2 pt2) pos.line X.env = pure false) :
    PS X (.Assign [.Tuple [.Name x px, .Name y py] kt pt] (.Tuple [a, b] k2 pt2) pos) (kS M W (semPar2 i j fa fb)) := by
  refine PS.mono (ps_par hc hN hi hj hij hx hy (pa_cons ha (pa_cons hb pa_nil hs2) hs1) hw hs) fun De σ H ⟨B, L, A, h, env, gd, p⟩ => ?_
  refine tG_toS gd p fun d h1 v H1 L1 e1 x1 g1 r1 p1 => ?_
  refine ⟨B, L1, A, h1, env, g1, ?_⟩
  cases e : fb env h1 with
  | exc c fs h2 => rw [e] at p1; exact fun cls dd H' L' x g' r => p1 cls dd σ H' L' A g' r
  | bad => rw [e] at p1; exact p1
  | ok d2 h2 =>
    rw [e] at p1
    have p1 : PostS M B W De (if i < env.length then match stoE j d2 (env.set i (.v d)) with
      | some env' => .nx env' h2
      | none => .bad
      else .bad) := p1
    by_cases hl : i < env.length
    · rw [if_pos hl] at p1
      unfold stoE at p1
      by_cases hl2 : j < (env.set i (.v d)).length
      · rw [if_pos hl2] at p1
        unfold PostX
        dsimp only at p1 ⊢
        have stay1 : ∀ {H2 : Hp} {L2' : List Addr}, Ext H1 L1 H2 L2' → RelD M.K H2 L2' (Zf B L2' A) d v := fun x => RelM.stay (m := .n) (Hs := H1) r1 x fun i a ha => (g1.own i a ha).1
        by_cases el : isL d2 = true
        · rw [if_pos el]
          intro ps H2 L2 a vs ed x2 g2 n r
          subst ed
          refine ⟨v, .ref a, rfl, p1 _ _ _ _ ((g2.setV (stay1 x2) hl).setNew n (r.weak fun b z => zf_none z) hl2)⟩
        · rw [if_neg el]
          rw [isL_false el] at p1
          intro w H2 L2 x2 g2 r
          exact ⟨v, w, rfl, p1 _ _ _ _ ((g2.setV (stay1 x2) hl).setV (RelD.weak (show RelD M.K H2 L2 (Zf B L2 A) d2 w from r) fun b z => zf_none z) hl2)⟩
      · rw [if_neg hl2] at p1; exact p1.elim
    · rw [if_neg hl] at p1; exact p1.elim
end
end KF
set_option Elab.async false
set_option linter.all false
set_option maxRecDepth 100000
set_option maxHeartbeats 4000000
/-! KF, part A: sum, min, max, sorted of data; the size of a set of ints. -/
namespace KF
open PySem PySem.Spec PyProof.Rows L2
open PySem.W (dataLt alike alikeAll minD maxD AlikeAll EachIs dataLe)
/-! ### data of one form -/
def isI : PyData → Bool
  | .int _ => true
  | _ => false
mutual
def al2 : PyData → PyData → Bool
  | .int _, .int _ => true
  | .str _, .str _ => true
  | .tuple xs, .tuple ys => (xs.all isI && ys.all isI) || (!xs.all isI && !ys.all isI && al2s xs ys)
  | _, _ => false
def al2s : List PyData → List PyData → Bool
  | [], [] => true
  | x :: xs, y :: ys => al2 x y && al2s xs ys
  | _, _ => false
end
theorem alikeAll_ints : ∀ xs ys : List PyData, xs.all isI = true → ys.all isI = true → alikeAll xs ys = true
  | [], ys, _, _ => by cases ys <;> rw [alikeAll]
  | x :: xs, [], _, _ => by rw [alikeAll]
  | x :: xs, y :: ys, h1, h2 => by
    rw [List.all_cons, Bool.and_eq_true] at h1 h2
    rw [alikeAll, alikeAll_ints xs ys h1.2 h2.2, Bool.and_true]
    cases x <;> first | (cases y <;> first | (rw [alike]; done) | exact absurd h2.1 Bool.false_ne_true) | exact absurd h1.1 Bool.false_ne_true
mutual
theorem al2_alike : ∀ x y z : PyData, al2 x y = true → al2 x z = true → alike y z = true
  | .int a, y, z, h1, h2 => by
    cases y <;> first | (exfalso; simp [al2] at h1; done) | (cases z <;> first | (exfalso; simp [al2] at h2; done) | rw [alike])
  | .str a, y, z, h1, h2 => by
    cases y <;> first | (exfalso; simp [al2] at h1; done) | (cases z <;> first | (exfalso; simp [al2] at h2; done) | rw [alike])
  | .tuple xs, y, z, h1, h2 => by
    cases y with
    | tuple ys =>
      cases z with
      | tuple zs =>
        rw [al2] at h1 h2
        rw [alike]
        by_cases hx : xs.all isI = true
        · rw [hx] at h1 h2
          simp only [Bool.true_and, Bool.not_true, Bool.false_and, Bool.or_false] at h1 h2
          exact alikeAll_ints ys zs h1 h2
        · rw [Bool.not_eq_true] at hx
          rw [hx] at h1 h2
          simp only [Bool.false_and, Bool.not_false, Bool.true_and, Bool.false_or, Bool.and_eq_true] at h1 h2
          exact al2s_alike xs ys zs h1.2 h2.2
      | _ => simp [al2] at h2
    | _ => simp [al2] at h1
  | .none, y, z, h1, h2 => by simp [al2] at h1
  | .bool _, y, z, h1, h2 => by simp [al2] at h1
  | .list _, y, z, h1, h2 => by simp [al2] at h1
  | .dict _, y, z, h1, h2 => by simp [al2] at h1
theorem al2s_alike : ∀ xs ys zs : List PyData, al2s xs ys = true → al2s xs zs = true → alikeAll ys zs = true
  | [], ys, zs, h1, h2 => by
    cases ys with
    | nil => cases zs <;> rw [alikeAll]
    | cons y r => simp [al2s] at h1
  | x :: xs, ys, zs, h1, h2 => by
    cases ys with
    | nil => simp [al2s] at h1
    | cons y r =>
      cases zs with
      | nil => simp [al2s] at h2
      | cons z s =>
        rw [al2s, Bool.and_eq_true] at h1 h2
        rw [alikeAll, al2_alike x y z h1.1 h2.1, al2s_alike xs r s h1.2 h2.2]
        rfl
end
def oneForm (x : PyData) (xs : List PyData) : Bool := al2 x x && xs.all (al2 x)
theorem oneForm_al {x : PyData} {xs : List PyData} (h : oneForm x xs = true) : ∀ y ∈ x :: xs, al2 x y = true := by
  obtain ⟨h1, h2⟩ := Bool.and_eq_true_iff.mp h
  intro y hy
  rcases List.mem_cons.mp hy with e | e
  · rw [e]; exact h1
  · exact List.all_eq_true.mp h2 y e
theorem oneForm_ok {x : PyData} {xs : List PyData} (h : oneForm x xs = true) : AlikeAll (x :: xs) := by
  refine ⟨fun y hy z hz => al2_alike x y z (oneForm_al h y hy) (oneForm_al h z hz), fun y hy e => ?_⟩
  have := oneForm_al h y hy
  rw [e] at this
  cases x <;> simp [al2] at this
def intsOf : List PyData → Option (List Int)
  | [] => some []
  | .int i :: r => (intsOf r).map (i :: ·)
  | _ :: _ => none
theorem intsOf_ok : ∀ {ds : List PyData} {ns : List Int}, intsOf ds = some ns → ds = ns.map .int
  | [], ns, h => by cases h; rfl
  | .int i :: r, ns, h => by
    have h : (intsOf r).map (i :: ·) = some ns := h
    cases q : intsOf r with
    | none => rw [q] at h; cases h
    | some ms => rw [q] at h; cases h; rw [intsOf_ok q]; rfl
  | .none :: r, ns, h => by cases h
  | .bool _ :: r, ns, h => by cases h
  | .str _ :: r, ns, h => by cases h
  | .list _ :: r, ns, h => by cases h
  | .tuple _ :: r, ns, h => by cases h
  | .dict _ :: r, ns, h => by cases h
theorem rel_ints {K : PySem.W.Frag} {H : Hp} {Z : Addr → Prop} : ∀ {ns : List Int} {vs : List V}, RelPs K H Z (ns.map .int) vs → vs = ns.map V.int
  | [], _, h => by cases h; rfl
  | n :: r, _, h => by
    cases h with
    | cons a t => cases a; rw [rel_ints t]; rfl
section
variable {X : Cx} {M : MK} {m m' : Mode} {W : WX}
/-! ### sum -/
def rSumU (K : PySem.W.Frag) : List V → Hp → VK → Prop := fun vs H Q => ∃ (a : Addr) (ns : List Int), vs = [.ref a] ∧ (SqL K H a (ns.map V.int) ∨ SqT K H a (ns.map V.int)) ∧ Q (.int ns.sum) H
theorem preSum_eq (ns : List Int) : ∀ k, k ≤ ns.length → preSum (fun i => ns.getD i 0) k = (ns.take k).sum
  | 0, _ => rfl
  | k + 1, h => by
    have e : ns.take (k + 1) = ns.take k ++ [ns.getD k 0] := by
      rw [List.take_succ]
      have hk : k < ns.length := h
      simp [List.getD, List.getElem?_eq_getElem hk]
    rw [e, List.sum_append]
    show preSum _ k + ns.getD k 0 = _
    rw [preSum_eq ns k (by omega)]
    simp
theorem cr_sumU (hc : X.calm = true) : CallR X (.builtin "sum") (rSumU X.K) := by
  intro pins s σ H vs us Q I r h
  obtain ⟨a, ns, rfl, hs, q⟩ := h
  rcases hs with hs | hs
  · exact cr_sum hc pins s σ H [.ref a] us Q I r ⟨a, ns, rfl, hs, q⟩
  · obtain ⟨its, rv, ht, _⟩ := I.tuple hs
    rw [Vals.ref1 r]
    have hi := rv.ints
    have hlen : its.length = ns.length := by rw [← rv.length, List.length_map]
    refine call_sum_walkAnyS (PySem.W.iter_tupleW (I.ok.hd hc) (show s.heap.IsTuple a its.toArray from ht) fun s₂ e Wk st hfp hw hk => ?_)
    refine ⟨_, _, _, _, _, _, _, fun i => ns.getD i 0, rfl, Wk, st, hfp, fun i v hv => IntsAre.int_at hi i v (by simpa using hv), fun s' t' mv => ?_⟩
    obtain ⟨h', tk, rfl, hk'⟩ := PySem.W.moved_old e rfl mv
    have ep : preSum (fun i => ns.getD i 0) its.toArray.size = ns.sum := by
      rw [List.size_toArray, hlen, preSum_eq ns ns.length (Nat.le_refl _), List.take_length]
    rw [ep]
    exact ⟨.int _, H, I.kept hk', ⟨_, rfl⟩, q⟩
def fSum : MH → List D → Option D := fun h ds => match ds with
  | [d] => (seqD h d).bind fun xs => (intsOf xs).map fun ns => .py (.int ns.sum)
  | _ => none
theorem seqD_rel {B : Bs} {A : List (Option Addr)} {H : Hp} {L : List Addr} {h : MH} {env : KF.Env} {σ : L2.St} {d : D} {v : V} {xs : List PyData} (g : Good M B H L A h env σ) (r : RelM M .b B A H H L d v) (e : seqD h d = some xs) :
    ∃ a vs, v = .ref a ∧ (SqL M.K H a vs ∨ SqT M.K H a vs) ∧ RelPs M.K H (Zf B L A) xs vs := by
  unfold seqD at e
  split at e
  · cases e
    obtain ⟨a, vs, rfl, h1, h2⟩ := r.tup
    exact ⟨a, vs, rfl, .inr h1, h2⟩
  · obtain ⟨a, vs, rfl, h1, h2⟩ := listOf_rel g r e
    exact ⟨a, vs, rfl, .inl (.inl h1), h2⟩
theorem b_sum : Cl M .n (rSumU M.K) fSum := by
  intro B A H L h env σ ds d3 vs Q g rr e k
  unfold fSum at e
  split at e
  · rename_i d
    obtain ⟨v, rfl, r⟩ := relMs1 rr
    cases q : seqD h d with
    | none => rw [q] at e; cases e
    | some xs =>
      rw [q] at e
      have e : (intsOf xs).map (fun ns => D.py (.int ns.sum)) = some d3 := e
      cases q2 : intsOf xs with
      | none => rw [q2] at e; cases e
      | some ns =>
        rw [q2] at e; cases e
        obtain ⟨a, us, rfl, h1, h2⟩ := seqD_rel g r q
        rw [intsOf_ok q2] at h2
        rw [rel_ints h2] at h1
        exact ⟨a, ns, rfl, h1, k _ _ (Same.refl H) (RelM.ofP (.int _))⟩
  · cases e
/-! ### min, max of a list -/
def rMmU (K : PySem.W.Frag) (best : PyData → List PyData → PyData) : List V → Hp → VK → Prop := fun vs H Q => ∃ (a : Addr) (x : PyData) (xs : List PyData) (ws : List V), vs = [.ref a] ∧ SqL K H a ws ∧ DpAll K H ws (x :: xs) ∧ PyData.canLayAll0 (x :: xs) = true ∧ AlikeAll (x :: xs) ∧ PyData.depthAll (x :: xs) ≤ 64 ∧
  ∀ (i : Nat) w, ws[i]? = some w → (x :: xs)[i]? = some (best x xs) → Q w H
theorem mm_core {pins : List (Addr × Obj)} {s : Shared} {σ : L2.St} {H : Hp} {ws : List V} {its : List Value} {xs : List PyData} {as bs : List Addr} {Q : VK} {b : PyData} {i : Nat} {v : Value} {h' : Heap} {tk : Nat} (I : Inv X pins σ H s) (rv : Vals ws its) (hr : ReadsAll s.heap its xs as) (lay : PyData.canLayAll0 xs = true) (lb : b.canLay0 = true)
    (hv : its.toArray[i]? = some v) (rb : Reads h' v b bs) (hk : ∀ b o, s.heap.get? b = some o → h'.get? b = some o) (q : ∀ (i : Nat) w, ws[i]? = some w → xs[i]? = some b → Q w H) : EP X pins σ Q v { s with heap := h', toks := tk } := by
  have hv' : its[i]? = some v := by simpa using hv
  have hm := SeqAt.readsAll_map xs its as lay hr
  obtain ⟨w, hw, rw_⟩ : ∃ w, ws[i]? = some w ∧ RelV w v := by
    have hl : i < ws.length := by rw [rv.length]; exact (List.getElem?_eq_some_iff.mp hv').1
    obtain ⟨u, hu, r⟩ := rv.get (List.getElem?_eq_getElem hl)
    rw [hv'] at hu; cases hu
    exact ⟨_, List.getElem?_eq_getElem hl, r⟩
  have hx : xs[i]? = some (SeqAt.readOf s.heap v) := by rw [← hm, List.getElem?_map, hv']; rfl
  obtain ⟨bs', r1⟩ : ∃ bs', Reads s.heap v (SeqAt.readOf s.heap v) bs' := by
    obtain ⟨d, bs', r1, l1, _⟩ := SeqAt.readsAll_mem xs its as lay hr v (List.mem_of_getElem? hv')
    rw [SeqAt.readOf_eq l1 r1]
    exact ⟨bs', r1⟩
  have l2 : (SeqAt.readOf s.heap v).canLay0 = true := by
    obtain ⟨d, bs', r1, l1, _⟩ := SeqAt.readsAll_mem xs its as lay hr v (List.mem_of_getElem? hv')
    rw [SeqAt.readOf_eq l1 r1]
    exact l1
  have e1 := SeqAt.readOf_eq l2 (PySem.W.reads_keeps hk r1)
  have e2 := SeqAt.readOf_eq lb rb
  rw [e2] at e1
  rw [← e1] at hx
  exact ⟨w, H, I.kept hk, rw_, q i w hw hx⟩
theorem best_mem {f : PyData → PyData → Bool} : ∀ (xs : List PyData) (x : PyData), xs.foldl (fun a y => if f y a then y else a) x ∈ x :: xs
  | [], x => List.mem_cons_self
  | y :: r, x => by
    rw [List.foldl_cons]
    rcases List.mem_cons.mp (best_mem (f := f) r (if f y x then y else x)) with e | e
    · rw [e]
      cases f y x with
      | true => exact List.mem_cons_of_mem _ List.mem_cons_self
      | false => exact List.mem_cons_self
    · exact List.mem_cons_of_mem _ (List.mem_cons_of_mem _ e)
theorem lay_mem : ∀ {xs : List PyData} {d : PyData}, PyData.canLayAll0 xs = true → d ∈ xs → d.canLay0 = true
  | x :: r, d, h, hm => by
    have h : x.canLay0 = true ∧ PyData.canLayAll0 r = true := by simpa [PyData.canLayAll0] using h
    rcases List.mem_cons.mp hm with e | e
    · rw [e]; exact h.1
    · exact lay_mem h.2 e
theorem minD_mem (x : PyData) (xs : List PyData) : minD x xs ∈ x :: xs := best_mem (f := fun y a => dataLt y a) xs x
theorem maxD_mem (x : PyData) (xs : List PyData) : maxD x xs ∈ x :: xs := best_mem (f := fun y a => dataLt a y) xs x
theorem cr_minU (hc : X.calm = true) (hu : X.A.units + 66 < cLine) : CallR X (.builtin "min") (rMmU X.K minD) := by
  intro pins s σ H vs us Q I r h
  obtain ⟨a, x, xs, ws, rfl, hs, hd, lay, ha, dp, q⟩ := h
  obtain ⟨its, rv, hl, _⟩ := I.list hs
  obtain ⟨as, hr⟩ := Dp.readsAll I (x :: xs) ws its hd rv
  rw [Vals.ref1 r]
  exact PySem.W.min_list_data (I.ok.hd hc) hl.isList (show ReadsAll s.heap its.toArray.toList (x :: xs) as from hr) ha (by omega) fun i v h' tk bs hv rb hk => mm_core I rv hr lay (lay_mem lay (minD_mem x xs)) hv rb hk q
theorem cr_maxU (hc : X.calm = true) (hu : X.A.units + 66 < cLine) : CallR X (.builtin "max") (rMmU X.K maxD) := by
  intro pins s σ H vs us Q I r h
  obtain ⟨a, x, xs, ws, rfl, hs, hd, lay, ha, dp, q⟩ := h
  obtain ⟨its, rv, hl, _⟩ := I.list hs
  obtain ⟨as, hr⟩ := Dp.readsAll I (x :: xs) ws its hd rv
  rw [Vals.ref1 r]
  exact PySem.W.max_list_data (I.ok.hd hc) hl.isList (show ReadsAll s.heap its.toArray.toList (x :: xs) as from hr) ha (by omega) fun i v h' tk bs hv rb hk => mm_core I rv hr lay (lay_mem lay (maxD_mem x xs)) hv rb hk q
def fMm (best : PyData → List PyData → PyData) : MH → List D → Option D := fun h ds => match ds with
  | [d] => (listOf h d).bind fun xs => match xs with
    | x :: r => if (oneForm x r && (x :: r).all (shal 60)) = true then some (.py (best x r)) else none
    | [] => none
  | _ => none
theorem shal_all {n : Nat} : ∀ {xs : List PyData}, PyData.canLayAll0 xs = true → xs.all (shal n) = true → PyData.depthAll xs ≤ n := fun {xs} c h => shal_depthAll xs n c h
theorem b_mm {best : PyData → List PyData → PyData} (hb : ∀ x xs, best x xs ∈ x :: xs) : Cl M .n (rMmU M.K best) (fMm best) := by
  intro B A H L h env σ ds d3 vs Q g rr e k
  unfold fMm at e
  split at e
  · rename_i d
    obtain ⟨v, rfl, r⟩ := relMs1 rr
    cases q : listOf h d with
    | none => rw [q] at e; cases e
    | some xs =>
      rw [q] at e
      cases xs with
      | nil => cases e
      | cons x xs =>
        have e : (if (oneForm x xs && (x :: xs).all (shal 60)) = true then some (D.py (best x xs)) else none) = some d3 := e
        split at e
        · rename_i c
          obtain ⟨c1, c2⟩ := Bool.and_eq_true_iff.mp c
          cases e
          obtain ⟨a, us, rfl, h1, h2⟩ := listOf_rel g r q
          have dep := shal_all h2.lay c2
          refine ⟨a, x, xs, us, rfl, .inl h1, h2.dp, h2.lay, oneForm_ok c1, by omega, fun i w hw hx => ?_⟩
          obtain ⟨d, e1, e2⟩ := h2.getV hw
          rw [hx] at e1
          cases e1
          exact k _ _ (Same.refl H) (RelM.ofP e2)
        · cases e
  · cases e
/-! ### sorted -/
def insD (x : PyData) : List PyData → List PyData
  | [] => [x]
  | y :: r => if dataLt y x then y :: insD x r else x :: y :: r
def sortD (xs : List PyData) : List PyData := xs.foldr insD []
theorem le_iff {a b : PyData} : dataLe false (fun x : PyData => x) a b = !dataLt b a := rfl
theorem tot : PySem.W.TotalLe (dataLe false (fun x : PyData => x)) := PySem.W.sortLe_total _ _ _
theorem insD_mem {x z : PyData} : ∀ {l : List PyData}, z ∈ insD x l → z = x ∨ z ∈ l
  | [], h => by
    have h : z ∈ [x] := h
    exact .inl (by simpa using h)
  | y :: r, h => by
    unfold insD at h
    split at h
    · rcases List.mem_cons.mp h with e | e
      · exact .inr (e ▸ List.mem_cons_self)
      · rcases insD_mem e with e | e
        · exact .inl e
        · exact .inr (List.mem_cons_of_mem _ e)
    · rcases List.mem_cons.mp h with e | e
      · exact .inl e
      · exact .inr e
theorem insD_pw {x : PyData} : ∀ {l : List PyData}, l.Pairwise (fun a b => dataLe false (fun x : PyData => x) a b = true) → (insD x l).Pairwise (fun a b => dataLe false (fun x : PyData => x) a b = true)
  | [], _ => by
    unfold insD
    exact List.pairwise_cons.mpr ⟨fun _ h => (by cases h), List.Pairwise.nil⟩
  | y :: r, h => by
    obtain ⟨h1, h2⟩ := List.pairwise_cons.mp h
    unfold insD
    split
    · rename_i c
      refine List.pairwise_cons.mpr ⟨fun z hz => ?_, insD_pw h2⟩
      rcases insD_mem hz with e | e
      · rw [e]
        rcases tot.total y x with t | t
        · exact t
        · rw [le_iff, c] at t; cases t
      · exact h1 z e
    · rename_i c
      have xy : dataLe false (fun x : PyData => x) x y = true := by rw [le_iff]; simpa using c
      refine List.pairwise_cons.mpr ⟨fun z hz => ?_, h⟩
      rcases List.mem_cons.mp hz with e | e
      · rw [e]; exact xy
      · exact tot.trans x y z xy (h1 z e)
theorem insD_flt {x c : PyData} : ∀ {l : List PyData}, (insD x l).filter (PySem.W.sameRank (dataLe false (fun x : PyData => x)) c) = (x :: l).filter (PySem.W.sameRank (dataLe false (fun x : PyData => x)) c)
  | [] => rfl
  | y :: r => by
    unfold insD
    split
    · rename_i hyx
      have ih := insD_flt (x := x) (c := c) (l := r)
      simp only [List.filter_cons, ih]
      cases hx : PySem.W.sameRank (dataLe false (fun x : PyData => x)) c x with
      | false => simp
      | true =>
        cases hy : PySem.W.sameRank (dataLe false (fun x : PyData => x)) c y with
        | false => simp
        | true =>
          exfalso
          unfold PySem.W.sameRank at hx hy
          obtain ⟨x1, x2⟩ := Bool.and_eq_true_iff.mp hx
          obtain ⟨y1, y2⟩ := Bool.and_eq_true_iff.mp hy
          have : dataLe false (fun x : PyData => x) x y = true := tot.trans x c y x2 y1
          rw [le_iff, hyx] at this
          cases this
    · rfl
theorem sortD_eq (xs : List PyData) : sortD xs = xs.mergeSort (dataLe false (fun x : PyData => x)) := by
  refine PySem.W.sort_unique tot ?_ fun c => ?_
  · induction xs with
    | nil => exact .nil
    | cons x r ih => exact insD_pw ih
  · induction xs with
    | nil => rfl
    | cons x r ih =>
      show (insD x (sortD r)).filter _ = _
      rw [insD_flt, List.filter_cons, List.filter_cons, ih]
def neT : PyData → Bool
  | .tuple [] => false
  | _ => true
def formB : List PyData → Bool
  | [] => true
  | x :: r => oneForm x r && (x :: r).all neT
theorem formB_ok {ds : List PyData} (h : formB ds = true) : PySem.W.AllAlike ds ∧ PySem.W.Sortable ds := by
  cases ds with
  | nil => exact ⟨fun d hd => (by cases hd), .inl fun d hd => (by cases hd)⟩
  | cons x r =>
    obtain ⟨h1, h2⟩ := Bool.and_eq_true_iff.mp (show (oneForm x r && (x :: r).all neT) = true from h)
    refine ⟨(oneForm_ok h1).1, ?_⟩
    have al := oneForm_al h1
    cases x with
    | tuple xs =>
      refine .inl fun d hd => ?_
      have e := al d hd
      have n := List.all_eq_true.mp h2 d hd
      cases d with
      | tuple ys =>
        cases ys with
        | nil => cases n
        | cons y s => exact ⟨y, s, rfl⟩
      | _ => simp [al2] at e
    | int i =>
      refine .inr fun d hd => ?_
      have e := al d hd
      cases d <;> first | (simp [al2] at e; done) | exact ⟨(by intro z; cases z), (by intro _ z; cases z)⟩
    | str i =>
      refine .inr fun d hd => ?_
      have e := al d hd
      cases d <;> first | (simp [al2] at e; done) | exact ⟨(by intro z; cases z), (by intro _ z; cases z)⟩
    | _ => have e := al _ List.mem_cons_self; simp [al2] at e
def rSortU (K : PySem.W.Frag) : List V → Hp → VK → Prop := fun vs H Q => ∃ (Z : Addr → Prop) (a : Addr) (ds : List PyData) (ws : List V), vs = [.ref a] ∧ SqL K H a ws ∧ RelPs K H Z ds ws ∧ formB ds = true ∧ PyData.depthAll ds ≤ 64 ∧ ds.length ≤ sizeLine ∧
  ∀ p us, H p = none → RelPs K H Z (sortD ds) us → Q (.ref p) (upd H p (.lst us))
theorem depth_mem : ∀ {xs : List PyData} {d : PyData}, d ∈ xs → d.depth ≤ PyData.depthAll xs
  | x :: r, d, h => by
    simp only [PyData.depthAll]
    rcases List.mem_cons.mp h with e | e
    · rw [e]; exact Nat.le_max_left _ _
    · exact Nat.le_trans (depth_mem e) (Nat.le_max_right _ _)
theorem each_rel {K : PySem.W.Frag} {H : Hp} {Z : Addr → Prop} : ∀ {ds : List PyData} {ws : List V} {us : List Value}, RelPs K H Z ds ws → Vals ws us → EachIs (fun v d => ∃ w, RelV w v ∧ RelP K H Z d w) us ds
  | _, _, _, .nil, .nil => .nil
  | _, _, _, .cons r t, .cons v vs => .cons ⟨_, v, r⟩ (each_rel t vs)
theorem each_back {K : PySem.W.Frag} {H : Hp} {Z : Addr → Prop} : ∀ {us : List Value} {ds : List PyData}, EachIs (fun v d => ∃ w, RelV w v ∧ RelP K H Z d w) us ds → ∃ ws, Vals ws us ∧ RelPs K H Z ds ws
  | _, _, .nil => ⟨[], .nil, .nil⟩
  | _, _, .cons ⟨w, h1, h2⟩ t => by
    obtain ⟨ws, h3, h4⟩ := each_back t
    exact ⟨w :: ws, .cons h1 h3, .cons h2 h4⟩
theorem cr_sortedU (hu : X.A.units + 70 < cLine) : CallR X (.builtin "sorted") (rSortU X.K) := by
  intro pins s σ H vs us Q I r h
  obtain ⟨Z, a, ds, ws, rfl, hs, rel, hf, dp, hL, q⟩ := h
  obtain ⟨its, rv, hl, _⟩ := I.list hs
  rw [Vals.ref1 r]
  obtain ⟨f1, f2⟩ := formB_ok hf
  have er : EachIs (fun v b => ∃ as, Reads s.heap v b as) its ds := (each_rel rel rv).mono fun v d ⟨w, h1, h2⟩ => Dp.reads I d w v h2.dp h1
  have em : ds.map (fun x => x) = ds := List.map_id _
  refine PySem.W.sorted_data (enc := fun x => x) hl.isList (each_rel rel rv) er (by rw [em]; exact f1) (by rw [em]; exact f2) hL (fun b hb => by have := depth_mem hb; omega) fun out ho eo => ?_
  rw [← sortD_eq] at eo
  obtain ⟨us', h1, h2⟩ := each_back eo
  obtain ⟨ep, he'⟩ := PyProof.Rows.sortedAll_at s.heap its (List.toArray out)
  have hlen : us'.length ≤ sizeLine := by rw [h1.length, ho]; exact hL
  exact ⟨.ref _, upd H (s.heap.objs.size + 1) (.lst us'), I.laid (t' := s.toks) (fun _ _ => PyProof.Rows.sortedAll_old) (Nat.le_succ _) ⟨hlen, out, ep, h1, he'⟩, rfl, q _ us' (I.hok.fresh (Nat.le_succ _)) h2⟩
def fSort : MH → List D → Option D := fun h ds => match ds with
  | [d] => (listOf h d).bind fun xs => if (formB xs && xs.all (shal 60) && fits xs.length) = true then some (.py (.list (sortD xs))) else none
  | _ => none
theorem b_sort : ClF M (rSortU M.K) fSort := by
  intro B A H L h env σ ds d3 vs Q g rr e k
  unfold fSort at e
  split at e
  · rename_i d
    obtain ⟨v, rfl, r⟩ := relMs1 rr
    cases q : listOf h d with
    | none => rw [q] at e; cases e
    | some xs =>
      rw [q] at e
      have e : (if (formB xs && xs.all (shal 60) && fits xs.length) = true then some (D.py (.list (sortD xs))) else none) = some d3 := e
      split at e
      · rename_i c
        simp only [Bool.and_eq_true] at c
        cases e
        obtain ⟨a, us, rfl, h1, h2⟩ := listOf_rel g r q
        have dep := shal_all h2.lay c.1.2
        exact ⟨Zf B L A, a, xs, us, rfl, .inl h1, h2, c.1.1, by omega, fits.ok c.2, fun p us' hp hr => k _ _ _ rfl hp hr⟩
      · cases e
  · cases e
/-! ### len(set(ints)) -/
def ddI (ns : List Int) : List Int := firstMet (fun i => ns.getD i 0) ns.length
def tLenSetU (K : PySem.W.Frag) (ta : TE) : TE := fun σ H Q => ta σ H fun x H1 => ∃ (l : Addr) (ns : List Int), x = V.ref l ∧ SqL K H1 l (ns.map V.int) ∧ ns.length < 60 ∧ Q (.int (ddI ns).length) H1
theorem pe_lenSetU {a : Expr} {ta : TE} {p p2 q pos : Pos} (hc : X.calm = true) (hg : Gl X "len") (hm : X.mg "len" = none) (hg2 : Gl X "set") (hm2 : X.mg "set" = none) (ha : PE X a ta)
    (na : starEach [a] X.env = (false, eval a X.env) :: starEach [] X.env) : PE X (.Call (.Name "len" p) [.Call (.Name "set" p2) [a] [] q] [] pos) (tLenSetU X.K ta) := by
  refine ⟨fun pins s σ H Q I h => Call_ (ld_blt I hg hm PySem.boot_len ?_)⟩
  refine PyProof.Rows.callWith_builtin1 (PyProof.Rows.args_cons (Call_ (ld_blt I hg2 hm2 PyProof.Rows.boot_set ?_)) rfl) rfl rfl
  refine PyProof.Rows.callWith_type1 (PyProof.Rows.args_cons (thn (ha.run pins s σ H _ I h) fun v s1 ⟨x, H1, I1, r1, q1⟩ => PyProof.Rows.args_nil ?_) na) na rfl
  obtain ⟨l, ns, ex, hq, h1, q1⟩ := q1
  subst ex
  cases r1
  obtain ⟨its, r, pl, _⟩ := I1.list hq
  have hl : its.toArray.size = ns.length := by rw [List.size_toArray, ← r.length, List.length_map]
  refine call_set_list (I1.ok.hd hc) pl.isList (ns := ns) (by simpa using r.ints) (by unfold scanBound; omega) fun h' tk hS hk => PyProof.Rows.args_nil ?_
  rw [hl] at hS
  have I2 : Inv X pins σ H1 { s1 with heap := h', toks := tk } := I1.kept fun b o e => hk b o (Heap.lt_size e) e
  obtain ⟨o, es, ep, t, ho, hex, hd, _, _, _, hf, hn⟩ := hS
  have hle := firstMet_length_le (fun i => ns.getD i 0) ns.length
  exact call_len_set ho hex hd hf (by rw [hn] <;> omega) ⟨.int (ddI ns).length, H1, I2.tok _, ⟨_, by rw [hn]; rfl⟩, q1⟩
def lsO : MH → D → Option D := fun h d => (listOf h d).bind fun xs => (intsOf xs).bind fun ns => if Nat.blt ns.length 60 = true then some (.py (.int (ddI ns).length)) else none
theorem k_lenSet (hK : M.K = X.K) {a : Expr} {fa : EvF D} {p p2 q pos : Pos} (hc : X.calm = true) (hg : Gl X "len") (hm : X.mg "len" = none) (hg2 : Gl X "set") (hm2 : X.mg "set" = none) (ha : PE X a (kE M .b W fa))
    (na : starEach [a] X.env = (false, eval a X.env) :: starEach [] X.env) : PE X (.Call (.Name "len" p) [.Call (.Name "set" p2) [a] [] q] [] pos) (kE M .n W (sem1 fa lsO)) := by
  refine PE.mono (pe_lenSetU hc hg hm hg2 hm2 ha na) fun σ H Q ⟨B, L, A, h, env, g, p⟩ => ?_
  refine tG_bind sm_M g p fun x h1 v H1 L1 e1 x1 g1 r1 p1 => ?_
  cases e : lsO h1 x with
  | none => rw [e] at p1; exact p1.elim
  | some d =>
    rw [e] at p1
    unfold lsO at e
    cases q1 : listOf h1 x with
    | none => rw [q1] at e; cases e
    | some xs =>
      rw [q1] at e
      have e : (intsOf xs).bind (fun ns => if Nat.blt ns.length 60 = true then some (D.py (.int (ddI ns).length)) else none) = some d := e
      cases q2 : intsOf xs with
      | none => rw [q2] at e; cases e
      | some ns =>
        rw [q2] at e
        have e : (if Nat.blt ns.length 60 = true then some (D.py (.int (ddI ns).length)) else none) = some d := e
        split at e
        · rename_i c
          cases e
          obtain ⟨a, us, rfl, h2, h3⟩ := listOf_rel g1 r1 q1
          rw [intsOf_ok q2] at h3
          rw [rel_ints h3] at h2
          have c := Nat.le_of_ble_eq_true c
          exact ⟨a, ns, rfl, hK ▸ .inl h2, by omega, p1.fin g1 (Same.refl _) (RelM.ofP (.int _))⟩
        · cases e
end
end KF
set_option Elab.async false
set_option linter.all false
set_option maxRecDepth 100000
set_option maxHeartbeats 4000000
/-! KF, part B: enumerate of a tuple; pairs that are walked. -/
namespace KF
open PySem PySem.Spec PyProof.Rows L2
theorem meets_enum1 {v : Value} {o : Obj} {Hh : Heap → Prop} (B : Begins v o Hh) :
    Meets (Builtin.«enumerate.__new__» ⟨[.type "enumerate", v], []⟩) (fun _ R s => Hh s.heap ∧ R (.ok (.ret (.ref (s.heap.push o).objs.size)))
      { s with heap := (s.heap.push o).push { cls := .type "enumerate", data := .fields #[.none, .bool false, .ref s.heap.objs.size, rawInt 0, .none, .none] } }) :=
  .of_wp fun prog w A R s0 hh => by
    obtain ⟨hp, g, d, tk, os⟩ := s0
    obtain ⟨h1, hr⟩ := hh
    have q0 := sub_enumerate
    have q1 : ∀ {A' : Around} {E' : Value → Shared → Prop} {Q' : Value → Shared → Prop}, Q' (.ref hp.objs.size) ⟨hp.push o, g, d, tk, os⟩ → wpAny (model prog w) A' (pyIter v) Q' E' ⟨hp, g, d, tk, os⟩ := fun q => B.iter prog w _ _ ⟨hp, g, d, tk, os⟩ _ h1 q
    wp_walk using q1
    refine wpAny_stack_any fun _ => wpAny_pure ?_
    split
    · rename_i c _ _ _ _ _
      cases (c == Value.type "enumerate") <;> (wp_walk using q1; exact ⟨_, rfl, hr⟩)
    · wp_walk using q1; exact ⟨_, rfl, hr⟩
theorem call_enum1 {prog : Program} {w : World} {A : Around} {E : Value → Shared → Prop} {s : Shared} {v : Value} {o : Obj} {Hh : Heap → Prop} {Q : Value → Shared → Prop} (B : Begins v o Hh) (h1 : Hh s.heap)
    (h : ∀ h', IsEnum h' (s.heap.objs.size + 1) s.heap.objs.size 0 .none → h'.get? s.heap.objs.size = some o → h'.objs.size = s.heap.objs.size + 2 → (∀ b o, s.heap.get? b = some o → h'.get? b = some o) → Q (.ref (s.heap.objs.size + 1)) { s with heap := h' }) :
    wpAny (model prog w) A (call (.type "enumerate") [v]) Q E s := by
  refine callType_new F.called_enumerate (by decide) (F.typeCall_enumerate_1 _) (F.newCall_enumerate_1 _) (fun ob => F.args_object_init_2 ob _) F.entry_enumerate_new (meets_enum1 B) ⟨h1, ?_⟩
  have hz : (s.heap.push o).objs.size = s.heap.objs.size + 1 := Heap.size_push ..
  show _ ∧ _
  rw [hz]
  have he : IsEnum ((s.heap.push o).push { cls := .type "enumerate", data := .fields #[.none, .bool false, .ref s.heap.objs.size, rawInt 0, .none, .none] }) (s.heap.objs.size + 1) s.heap.objs.size 0 .none := by
    have q := Heap.get?_push_size (s.heap.push o) (o := { cls := .type "enumerate", data := .fields #[.none, .bool false, .ref s.heap.objs.size, rawInt 0, .none, .none] }) rfl
    rw [hz] at q; exact q
  exact ⟨⟨_, he, rfl⟩, h _ he (Heap.get?_push_of_some _ (Heap.get?_push_size _ B.free)) (by rw [Heap.size_push, hz]) fun b o x => Heap.get?_push_of_some _ (Heap.get?_push_of_some _ x)⟩
theorem enumT_end {prog : Program} {w : World} {A : Around} {E : Value → Shared → Prop} {s : Shared} {e it a : Addr} {i : Nat} {c : Int} {items : Array Value} {old : Value} {Q : Option Value → Shared → Prop} (hh : A.handled = none) (he : IsEnum s.heap e it c old) (hit : s.heap.IsTupleIter it a i) (ht : s.heap.IsTuple a items) (hx : items[i]? = none)
    (hQ : ∀ h', Heap.ExtBut it s.heap h' → Q none { s with heap := h' }) : wpAny (model prog w) A (pyNext (.ref e)) Q E s := by
  have hT : s.TypeIs (.ref e) "enumerate" := ⟨_, he, rfl⟩
  unfold pyNext
  refine wpAny_bind (wpAny_attempt (wpAny_callSpecial?_slot (name := Str.ofString "__next__") hT F.slot_enumerate_next (wpAny_call_entry F.slot_enumerate_next hT F.entry_enumerate_next ?_ (F.args_enumerate_next_1 _))))
  show wpAny _ _ (field (.ref e) 2 >>= _) _ _ _
  refine wpAny_bind (wpAny_field he rfl (x := .ref it) rfl (wpAny_bind (wpAny_nextOf_tuple_end hh hit ht hx fun h' x he' hx' => ?_)))
  obtain ⟨o, ho, hc⟩ := hx'
  exact wpAny_bind (wpAny_isInstance (T := "StopIteration") (b := true) ⟨o, ho, hc⟩ isSubtype_stop (wpAny_pure (hQ _ he')))
/-- the tuple at a, each item in a new pair -/
def IteT (K : PySem.W.Frag) (a : Addr) : It :=
  ⟨fun i H => ∃ (xs : List V) (x : V), SqT K H a xs ∧ xs[i]? = some x, fun i H v H' => ∃ T x, v = .ref T ∧ H T = none ∧ H' = upd H T (.tup [.int (i : Nat), x]) ∧ ∀ xs, SqT K H a xs → xs[i]? = some x, fun i H => ∃ xs : List V, SqT K H a xs ∧ xs.length ≤ i⟩
theorem turn_enumT {P : Program} {w : World} {K : PySem.W.Frag} {elts : List Expr} {kk : Nat} {tpos : Pos} (a e it : Addr) :
    Turn P w K (.Tuple elts kk tpos) (IteT K a) [e, it] e (fun i h => (∃ old, IsEnum h e it ((i : Nat) : Int) old) ∧ h.IsTupleIter it a i ∧ e ≠ it ∧ e ≠ a ∧ a ≠ it) where
  mem := by simp
  obj := fun i h st b hb => by
    obtain ⟨⟨old, he⟩, ⟨o, ho, hc, hd⟩, _⟩ := st
    rcases (show b = e ∨ b = it by simpa using hb) with z | z
    · rw [z]; exact ⟨_, he, fun v q => nomatch q⟩
    · rw [z]; exact ⟨o, ho, fun v q => by rw [hd] at q; cases q⟩
  keep := fun i h h' st k => let ⟨⟨old, he⟩, hi, hne⟩ := st; ⟨⟨old, k e (by simp) _ he⟩, hi.at fun o q => k it (by simp) o q, hne⟩
  item := by
    intro X hP hw hK hc i pins s σ H E I hf st hg
    subst hP hw hK
    obtain ⟨⟨old, he⟩, hit, hne, hea, hai⟩ := st
    obtain ⟨xs, x, hq, hx⟩ := hg
    obtain ⟨its, rv, p, hz⟩ := I.tuple hq
    obtain ⟨u, hu, ru⟩ := rv.get hx
    have hel : e < s.heap.objs.size := Heap.lt_size he
    have hil : it < s.heap.objs.size := by obtain ⟨_, q, _⟩ := hit; exact Heap.lt_size q
    have hi : i < its.length := (List.getElem?_eq_some_iff.mp hu).1
    refine wpAny_pyNext_enum_itemD (Draws.tuple (A := X.A.in1) (show X.A.in1.handled = none from I.ok.hd hc) it a hai its.toArray) he ⟨hit, p⟩ (show i < its.toArray.size by simpa using hi) hne (by simp [hne, hea]) fun y h' tk hy ho hst hT hsz hk => ?_
    obtain rfl : y = u := by rw [List.getElem?_toArray, hu] at hy; exact (Option.some.inj hy).symm
    refine ⟨_, rfl, wpAny_letOwnedTupleGo_enum (s := { s with heap := h', toks := tk + 1 }) ho fun h'' he' sb => ?_⟩
    have hT2 : h''.get? s.heap.objs.size = some { cls := .type "tuple", data := .seq #[.int i tk, y] } := (sb.2 _ (Nat.ne_of_gt hel)).trans hT
    have new : ObjOk X.prog X.w (upd H s.heap.objs.size (.tup [.int (i : Nat), x])) h'' s.heap.objs.size (.tup [.int (i : Nat), x]) := ⟨by show 2 ≤ sizeLine; decide, [.int i tk, y], .cons ⟨_, rfl⟩ (.cons ru .nil), ⟨_, hT2, rfl, _, rfl⟩⟩
    have I1 : Inv X pins σ (upd H s.heap.objs.size (.tup [.int (i : Nat), x])) { s with heap := h'', toks := tk + 1 } := I.turnedNew (ch := [e, it]) (fun b ob hb q => (sb.2 b (fun z => hb (by simp [z]))).trans (hk b ob (fun z => hb (by simp [z])) (fun z => hb (by simp [z])) q)) hf (Nat.le_refl _) new
    refine ⟨.ref s.heap.objs.size, _, I1, rfl, ⟨_, x, rfl, I.hok.fresh (Nat.le_refl _), rfl, fun ys hy => by rw [I.tuple_inj hy hq]; exact hx⟩, ⟨⟨y, by rw [show ((i + 1 : Nat) : Int) = (i : Int) + 1 by omega]; exact he'⟩, hst.1.at fun o q => (sb.2 it (Ne.symm hne)).trans q, hne, hea, hai⟩, fun b hb => ?_⟩
    have hb' : b < s.heap.objs.size := by rcases (show b = e ∨ b = it by simpa using hb) with z | z <;> rw [z] <;> assumption
    rw [upd_ne (Nat.ne_of_lt hb')]
    exact (hf b hb).1
  done := by
    intro X hP hw hK hc i pins s σ H E I hf st hg
    subst hP hw hK
    obtain ⟨⟨old, he⟩, hit, hne, hea, hai⟩ := st
    obtain ⟨xs, hq, hx⟩ := hg
    obtain ⟨its, rv, p, hz⟩ := I.tuple hq
    obtain ⟨f0, f1, f2, f3, f4, f5⟩ := hf it (by simp)
    have hl := rv.length
    exact enumT_end (I.ok.hd hc) he hit p (by simp; omega) fun h' eb => ⟨rfl, I.turned (t' := s.toks) (fun b o hb q => eb b o hb q) f0 f1 f3 f4 f5⟩
  self := fun A i s Q E st h => let ⟨⟨_, he⟩, _⟩ := st; wpAny_pyIter_enum he h
def iEnumT (K : PySem.W.Frag) (ta : TA) : TI := fun σ H R => ta σ H fun vs H1 => ∃ a, vs = [.ref a] ∧ (∃ xs, SqT K H1 a xs) ∧ R (IteT K a) H1
theorem pi_enumT {X : Cx} {e : Expr} {ta : TA} {p pos tpos : Pos} {elts : List Expr} {kk : Nat} (hg : Gl X "enumerate") (hm : X.mg "enumerate" = none) (ha : PA X [e] ta) (hs : starEach [e] X.env = [(false, eval e X.env)]) :
    PI X (.Tuple elts kk tpos) (.Call (.Name "enumerate" p) [e] [] pos) (iEnumT X.K ta) := by
  refine ⟨fun pins s σ H R I h => Call_ (ld_blt I hg hm boot_enumerate (PyProof.Rows.callWith_type1 (thn (ha.run pos pins s σ H _ I h) fun us s1 ⟨vs, H1, I1, r1, q1⟩ => ?_) hs rfl))⟩
  obtain ⟨a, rfl, ⟨xs, hq⟩, q⟩ := q1
  cases r1 with
  | cons r rr =>
    cases rr
    cases r
    obtain ⟨its, rv, p', hz⟩ := I1.tuple hq
    have hal : a < s1.heap.objs.size := p'.lt
    refine call_enum1 (begins_tuple a its.toArray) p' fun h' he hit hsz hk => wpAny_pyIter_enum he ?_
    have I2 : Inv X pins σ H1 { s1 with heap := h' } := I1.kept (t' := s1.toks) hk
    refine ⟨s1.heap.objs.size + 1, [s1.heap.objs.size + 1, s1.heap.objs.size], _, _, H1, rfl, I2, turn_enumT a (s1.heap.objs.size + 1) s1.heap.objs.size, ⟨⟨.none, he⟩, ⟨_, hit, rfl, rfl⟩, Nat.succ_ne_self _, Nat.ne_of_gt (Nat.lt_succ_of_lt hal), Nat.ne_of_lt hal⟩, fun b hb => ?_, q⟩
    have hle : s1.heap.objs.size ≤ b := by
      rcases (show b = s1.heap.objs.size + 1 ∨ b = s1.heap.objs.size by simpa using hb) with z | z <;> rw [z]
      · exact Nat.le_succ _
      · exact Nat.le_refl _
    exact I1.fpOk hle (I1.hok.fresh hle)
section
variable {X : Cx} {M : MK} {W : WX}
theorem PI.or {tg e : Expr} {t t' : TI} (h : PI X tg e t) (h' : PI X tg e t') : PI X tg e (fun σ H R => t σ H R ∨ t' σ H R) := ⟨fun pins s σ H R I q => by
  rcases q with q | q
  · exact h.run pins s σ H R I q
  · exact h'.run pins s σ H R I q⟩
def enumD (xs : List PyData) : List D := xs.zipIdx.map fun p => .py (.tuple [.int p.2, p.1])
theorem enumD_get {xs : List PyData} {i : Nat} {x : D} (h : (enumD xs)[i]? = some x) : ∃ d, xs[i]? = some d ∧ x = .py (.tuple [.int i, d]) := by
  unfold enumD at h
  rw [List.getElem?_map, List.getElem?_zipIdx] at h
  cases q : xs[i]? with
  | none => rw [q] at h; cases h
  | some d => rw [q] at h; cases h; exact ⟨d, rfl, by simp⟩
theorem enumD_len (xs : List PyData) : (enumD xs).length = xs.length := by simp [enumD]
theorem pair_rel {B : Bs} {H : Hp} {L : List Addr} {A : List (Option Addr)} {T : Addr} {i : Nat} {d : PyData} {v : V} (hT : H T = none) (r : RelP M.K H (Zf B L A) d v) : RelD M.K (upd H T (.tup [.int (i : Nat), v])) L (Zf B L A) (.py (.tuple [.int i, d])) (.ref T) :=
  .py (.tup (.inl (.inl upd_same)) (.cons (.int _) (.cons (r.stay (Ext.same L (same_upd hT)).stay) .nil)))
theorem wit_enumL (hK : M.K = X.K) {a : Addr} {xs : List PyData} : WIt M (Ite X.K a) (enumD xs) (SrcL M.K a xs) := by
  rintro B H L A h env σ g ⟨vs, h1, h2, h3⟩ i
  refine ⟨fun hl => ⟨vs, .inl h1, by rw [← h3.length]; rw [enumD_len] at hl; exact hl⟩, fun x hx => ?_⟩
  obtain ⟨d, q, rfl⟩ := enumD_get hx
  obtain ⟨v, e1, e2⟩ := h3.get q
  refine ⟨⟨vs, v, .inl h1, e1⟩, fun w H' ⟨T, y, ew, hT, eH, hy⟩ => ?_⟩
  have := hy vs (.inl h1)
  rw [e1] at this; cases this
  subst ew eH
  exact ⟨same_upd hT, pair_rel hT e2⟩
theorem wit_enumT (hK : M.K = X.K) {a : Addr} {xs : List PyData} : WIt M (IteT X.K a) (enumD xs) (SrcT M.K a xs) := by
  rintro B H L A h env σ g ⟨vs, h1, h3⟩ i
  refine ⟨fun hl => ⟨vs, hK ▸ h1, by rw [← h3.length]; rw [enumD_len] at hl; exact hl⟩, fun x hx => ?_⟩
  obtain ⟨d, q, rfl⟩ := enumD_get hx
  obtain ⟨v, e1, e2⟩ := h3.get q
  refine ⟨⟨vs, v, hK ▸ h1, e1⟩, fun w H' ⟨T, y, ew, hT, eH, hy⟩ => ?_⟩
  have := hy vs (hK ▸ h1)
  rw [e1] at this; cases this
  subst ew eH
  exact ⟨same_upd hT, pair_rel hT e2⟩
def enumO : List D → Option (List D)
  | [.py (.list xs)] => some (enumD xs)
  | [.py (.tuple xs)] => some (enumD xs)
  | _ => none
theorem i_enum (hK : M.K = X.K) {e : Expr} {elts : List Expr} {kk : Nat} {f : EvF (List D)} {p pos tpos : Pos} (hg : Gl X "enumerate") (hm : X.mg "enumerate" = none) (ha : PA X [e] (kA M .n W f)) (hs : starEach [e] X.env = [(false, eval e X.env)]) :
    PI X (.Tuple elts kk tpos) (.Call (.Name "enumerate" p) [e] [] pos) (kI M W (semIt f enumO)) := by
  refine PI.mono (PI.or (pi_enum hg hm ha hs) (pi_enumT hg hm ha hs)) fun σ H Q ⟨B, L, A, h, env, g, p⟩ => ?_
  unfold semIt at p
  cases ef : f env h with
  | bad => rw [ef] at p; exact p.elim
  | exc c fs h1 => rw [ef] at p; exact .inl ⟨B, L, A, h, env, g, by rw [ef]; exact p⟩
  | ok ds h1 =>
    rw [ef] at p
    have p : Post M B A env σ W _ H L Q (lift (enumO ds) h1) := p
    cases e2 : enumO ds with
    | none => rw [e2] at p; exact p.elim
    | some xs =>
      rw [e2] at p
      unfold enumO at e2
      split at e2
      · cases e2
        refine .inl ⟨B, L, A, h, env, g, ?_⟩
        rw [ef]
        intro vs H1 L1 x1 g1 r1
        cases r1 with
        | cons r t =>
          cases t
          cases r with
          | py r =>
            cases r with
            | @lst a us _ q1 q2 q3 => exact ⟨a, us, rfl, .inl q1, p _ _ _ x1 g1 ⟨SrcL M.K a _, wit_enumL hK, srcL_stay, us, q1, q2, q3⟩⟩
      · cases e2
        refine .inr ⟨B, L, A, h, env, g, ?_⟩
        rw [ef]
        intro vs H1 L1 x1 g1 r1
        cases r1 with
        | cons r t =>
          cases t
          cases r with
          | py r =>
            cases r with
            | @tup a us _ q1 q3 => exact ⟨a, rfl, ⟨us, hK ▸ q1⟩, p _ _ _ x1 g1 ⟨SrcT M.K a _, wit_enumT hK, srcT_stay, us, q1, q3⟩⟩
      · cases e2
end
end KF
set_option Elab.async false
set_option linter.all false
set_option maxRecDepth 100000
set_option maxHeartbeats 4000000
/-! KF, part C: dicts at places. -/
namespace KF
open PySem PySem.Spec PyProof.Rows L2
section
variable {X : Cx} {pins : List (Addr × Obj)} {σ : L2.St} {H : Hp} {s : Shared} {Z : Addr → Prop}
mutual
theorem RelP.nest (I : Inv X pins σ H s) : ∀ {d : PyData} {v : V} {u : Value} {k : NestedKey}, RelP X.K H Z d v → RelV v u → nk d = some k → NestedIs s.heap k u
  | _, _, u, k, .non, r, e => by
    simp only [nk, Option.some.injEq] at e; subst e
    cases (show u = Value.none from r); exact .none
  | _, _, u, k, .bl b, r, e => by simp [nk] at e
  | _, _, u, k, .int i, r, e => by
    simp only [nk, Option.some.injEq] at e; subst e
    obtain ⟨t, rfl⟩ := r; exact .int i t
  | _, _, u, k, .str x _, r, e => by
    simp only [nk, Option.some.injEq] at e; subst e
    obtain ⟨t, rfl⟩ := r; exact .text x t
  | _, _, u, k, .lst _ _ _, r, e => by simp [nk] at e
  | .tuple ds, _, u, k, .tup h q, r, e => by
    have e : (nks ds).map NestedKey.tup = some k := by simpa only [nk] using e
    cases e2 : nks ds with
    | none => rw [e2] at e; cases e
    | some ks =>
      rw [e2] at e; cases e
      obtain ⟨its, rv, ⟨o, ho, hc, n, hd⟩, _⟩ := I.tuple h
      obtain rfl := (show u = Value.ref _ from r)
      exact .tup ho hc hd (RelPs.nest I q rv e2)
theorem RelPs.nest (I : Inv X pins σ H s) : ∀ {ds : List PyData} {vs : List V} {us : List Value} {ks : List NestedKey}, RelPs X.K H Z ds vs → Vals vs us → nks ds = some ks → NestedAll s.heap ks us
  | _, _, _, _, .nil, .nil, e => by
    simp only [nks, Option.some.injEq] at e; subst e; exact .nil
  | d :: ds, _, _, ks, .cons r t, .cons q qs, e => by
    have e : ((nk d).bind fun k => (nks ds).bind fun ks => some (k :: ks)) = some ks := by simpa only [nks] using e
    cases e1 : nk d with
    | none => rw [e1] at e; cases e
    | some k =>
      rw [e1] at e
      have e : ((nks ds).bind fun ks => some (k :: ks)) = some ks := e
      cases e2 : nks ds with
      | none => rw [e2] at e; cases e
      | some ks' =>
        rw [e2] at e; cases e
        exact .cons (RelP.nest I r q e1) (RelPs.nest I t qs e2)
end
theorem DRelN.dict (I : Inv X pins σ H s) {a : Addr} {xs : List (NestedKey × Addr × Value)} {ep : Nat} {kvs : KVs} (e : Rd H a (nestO X.prog X.w a xs ep)) (r : DRelN X.K H Z kvs xs) : (a == sysModules) = false ∧ xs.length ≤ sizeLine ∧ s.heap.DictOfH (nestedKind X.prog X.w) a xs := by
  obtain ⟨z1, z2, z3, o, es, q1, q2, q3, q4⟩ := nest_of I.hok e
  refine ⟨z1, z2, o, es, ep, q1, q2, q3, q4, ?_, z3⟩
  clear q4 z3 z2 e
  induction r with
  | nil => exact fun x hx => nomatch hx
  | cons p _ ih =>
    intro x hx
    rcases List.mem_cons.mp hx with z | z
    · subst z; exact ⟨RelP.nest I p.2.2.1 rfl p.1, p.2.1⟩
    · exact ih x z
theorem dK_nil (I : Inv X pins σ H s) {a : Addr} (e : Rd H a (.dK [])) : (a == sysModules) = false ∧ s.heap.DictOfH (nestedKind X.prog X.w) a [] := by
  obtain ⟨_, hd, vs, rel, o, es, ep, q1, q2, q3, q4⟩ := dk_rd I.hok e
  have hv : vs = [] := List.length_eq_zero_iff.mp (rel.length.symm)
  subst hv
  refine ⟨hd, o, es, ep, q1, q2, q3, ?_, fun x hx => (by cases hx), List.nodup_nil⟩
  obtain ⟨_, q, _⟩ := q4
  generalize es.toList = l at q ⊢
  cases q
  rfl
end
/-! ### what a look-up gives -/
section
variable {K : PySem.W.Frag} {H : Hp} {Z : Addr → Prop}
theorem DRelN.val {kvs : KVs} {xs : List (NestedKey × Addr × Value)} (r : DRelN K H Z kvs xs) {kd : PyData} {k : NestedKey} (hk : nk kd = some k) :
    (getK kvs kd = none ∧ atKey xs k = none) ∨ ∃ d p v, getK kvs kd = some d ∧ atKey xs k = some p ∧ RelV v p.2 ∧ RelP K H Z d v := by
  induction r with
  | nil => exact .inl ⟨rfl, rfl⟩
  | @cons kv x _ _ p _ ih =>
    have e := keq_nk p.1 hk
    unfold getK atKey at ih ⊢
    rw [List.find?_cons, List.find?_cons, e]
    by_cases c : x.1 = k
    · rw [decide_eq_true c]
      obtain ⟨v, q1, q2⟩ := p.2.2.2
      exact .inr ⟨_, _, v, rfl, rfl, q1, q2⟩
    · rw [decide_eq_false c]; exact ih
theorem DRelK.val {kvs : KVs} {ks : List (Key × V)} (r : DRelK K H Z kvs ks) {kd : PyData} {k : Key} (hk : keyOf kd = some k) :
    (getK kvs kd = none ∧ valV ks k = none) ∨ ∃ d v, getK kvs kd = some d ∧ valV ks k = some v ∧ RelP K H Z d v := by
  induction r with
  | nil => exact .inl ⟨rfl, rfl⟩
  | @cons kv x _ _ p _ ih =>
    have e := keq_keys p.1 hk
    unfold getK valV at ih ⊢
    rw [List.find?_cons, List.find?_cons, e]
    by_cases c : x.1 = k
    · rw [decide_eq_true c]
      exact .inr ⟨_, _, rfl, rfl, p.2⟩
    · rw [decide_eq_false c]; exact ih
theorem paired_map {α β γ δ : Type} {F : α → β → Prop} {G : γ → δ → Prop} {f : α → γ} {g : β → δ} : ∀ {l : List α} {m : List β}, Paired F l m → (∀ a b, F a b → G (f a) (g b)) → Paired G (l.map f) (m.map g)
  | _, _, .nil, _ => .nil
  | _, _, .cons r t, h => .cons (h _ _ r) (paired_map t h)
theorem paired_app {α β : Type} {F : α → β → Prop} : ∀ {l l' : List α} {m m' : List β}, Paired F l m → Paired F l' m' → Paired F (l ++ l') (m ++ m')
  | _, _, _, _, .nil, q => q
  | _, _, _, _, .cons r t, q => .cons r (paired_app t q)
theorem DRelN.put {kvs : KVs} {xs : List (NestedKey × Addr × Value)} (r : DRelN K H Z kvs xs) {kd vd : PyData} {k : NestedKey} {b : Addr} {v : V} {u : Value} (hk : nk kd = some k) (hd : k.depth ≤ 8) (rk : RelP K H Z kd (.ref b)) (rv : RelP K H Z vd v) (ru : RelV v u) : DRelN K H Z (putKD kvs kd vd) (storedH xs k b u) := by
  unfold putKD
  rcases r.val hk with ⟨e1, e2⟩ | ⟨d, p, w, e1, e2, _, _⟩
  · rw [e1, storedH_new e2]
    exact paired_app r (.cons ⟨hk, hd, rk, v, ru, rv⟩ .nil)
  · rw [e1, storedH_old e2]
    refine paired_map r fun kv x q => ?_
    have e := keq_nk q.1 hk
    unfold putAt
    rw [e]
    by_cases c : x.1 = k
    · rw [decide_eq_true c, if_pos rfl, if_pos c]; exact ⟨q.1, q.2.1, q.2.2.1, v, ru, rv⟩
    · rw [decide_eq_false c, if_neg (by decide), if_neg c]; exact q
theorem DRelK.put {kvs : KVs} {ks : List (Key × V)} (r : DRelK K H Z kvs ks) {kd vd : PyData} {k : Key} {v : V} (hk : keyOf kd = some k) (rv : RelP K H Z vd v) : DRelK K H Z (putKD kvs kd vd) (putK ks k v) := by
  unfold putKD putK
  rw [valV_any]
  rcases r.val hk with ⟨e1, e2⟩ | ⟨d, w, e1, e2, _⟩
  · rw [e1, e2]
    exact paired_app r (.cons ⟨hk, rv⟩ .nil)
  · rw [e1, e2]
    refine paired_map r fun kv x q => ?_
    have e := keq_keys q.1 hk
    rw [e]
    by_cases c : x.1 = k
    · rw [decide_eq_true c, if_pos rfl, if_pos c]; exact ⟨q.1, rv⟩
    · rw [decide_eq_false c, if_neg (by decide), if_neg c]; exact q
/-! ### the two kinds -/
theorem kOk_tup {kvs : KVs} {ds : List PyData} (h : kOk kvs (.tuple ds) = true) : (∃ ks, nks ds = some ks ∧ NestedKey.depth (.tup ks) ≤ 8) ∧ ∀ kv ∈ kvs, isT kv.1 = true := by
  unfold kOk at h
  obtain ⟨h1, h2⟩ := Bool.and_eq_true_iff.mp h
  refine ⟨?_, fun kv hx => List.all_eq_true.mp h2 kv hx⟩
  cases e : nks ds with
  | none => rw [e] at h1; cases h1
  | some ks => rw [e] at h1; exact ⟨ks, rfl, Nat.le_of_ble_eq_true h1⟩
theorem DRelK.tup {kvs : KVs} {ks : List (Key × V)} (r : DRelK K H Z kvs ks) (h : ∀ kv ∈ kvs, isT kv.1 = true) : kvs = [] ∧ ks = [] := by
  cases r with
  | nil => exact ⟨rfl, rfl⟩
  | cons p t =>
    have := h _ List.mem_cons_self
    rcases keyOf_V p.1 with ⟨i, e, _⟩ | ⟨i, e, _⟩ <;> rw [e] at this <;> cases this
theorem DRelN.notTup {kvs : KVs} {xs : List (NestedKey × Addr × Value)} (r : DRelN K H Z kvs xs) (ne : xs ≠ []) (h : ∀ kv ∈ kvs, (!isT kv.1) = true) : False := by
  cases r with
  | nil => exact ne rfl
  | @cons kv x _ _ p t =>
    have := h _ List.mem_cons_self
    obtain ⟨q1, _, q3, _⟩ := p
    generalize kv.1 = d at q1 q3 this
    cases q3 with
    | lst => simp [nk] at q1
    | tup => cases this
end
section
variable {X : Cx} {M : MK}
/-- M is of X -/
structure Of (M : MK) (X : Cx) : Prop where
  K : M.K = X.K
  prog : M.prog = X.prog
  w : M.w = X.w
/-- a look-up, by the kind of the key -/
inductive Lk (X : Cx) (H : Hp) (Z : Addr → Prop) (a : Addr) (kvs : KVs) (kd : PyData) (y : V) : Prop
  | k {ks : List (Key × V)} {k : Key} : Rd H a (.dK ks) → DRelK X.K H Z kvs ks → keyOf kd = some k → y = kV k → Lk X H Z a kvs kd y
  | n {xs : List (NestedKey × Addr × Value)} {k : NestedKey} {b : Addr} : (Rd H a (.dK []) ∧ kvs = [] ∧ xs = [] ∨ ∃ ep, Rd H a (nestO X.prog X.w a xs ep)) → DRelN X.K H Z kvs xs → nk kd = some k → k.depth ≤ 8 → y = .ref b → Lk X H Z a kvs kd y
theorem lk_of (o : Of M X) {H : Hp} {Z : Addr → Prop} {a : Addr} {kvs : KVs} {kd : PyData} {y : V} (m : RdOk M H Z a kvs) (r : RelP M.K H Z kd y) (ok : kOk kvs kd = true) : Lk X H Z a kvs kd y := by
  rw [o.K] at r
  cases r with
  | non => cases ok
  | bl b => cases ok
  | lst _ _ _ => cases ok
  | int i =>
    have ok := List.all_eq_true.mp (show (kvs.all fun kv => !isT kv.1) = true from ok)
    rcases m with ⟨ks, e, q⟩ | ⟨xs, ep, e, ne, q⟩
    · rw [o.K] at q; exact .k e q rfl rfl
    · exact (q.notTup ne ok).elim
  | str x hx =>
    have ok := List.all_eq_true.mp (show (kvs.all fun kv => !isT kv.1) = true from ok)
    rcases m with ⟨ks, e, q⟩ | ⟨xs, ep, e, ne, q⟩
    · rw [o.K] at q; exact .k e q rfl rfl
    · exact (q.notTup ne ok).elim
  | @tup b us ds h q' =>
    obtain ⟨⟨ks, e1, e2⟩, e3⟩ := kOk_tup ok
    have en : nk (.tuple ds) = some (.tup ks) := by simp [nk, e1]
    rcases m with ⟨ks', e, q⟩ | ⟨xs, ep, e, ne, q⟩
    · obtain ⟨rfl, rfl⟩ := q.tup e3
      exact .n (.inl ⟨e, rfl, rfl⟩) .nil en e2 rfl
    · rw [o.K] at q
      rw [o.prog, o.w] at e
      exact .n (.inr ⟨_, e⟩) q en e2 rfl
end
end KF
set_option Elab.async false
set_option linter.all false
set_option maxRecDepth 100000
set_option maxHeartbeats 4000000
/-! KF, part D: what is done with dicts. -/
namespace KF
open PySem PySem.Spec PyProof.Rows L2
section
variable {X : Cx} {M : MK} {pins : List (Addr × Obj)} {σ : L2.St} {H : Hp} {s : Shared} {Z : Addr → Prop} {a : Addr} {kvs : KVs} {kd : PyData} {y : V} {u : Value} {A : Around} {E : Value → Shared → Prop}
theorem room8 (hu : A.units + 20 < cLine) : (nestedKind X.prog X.w).room A.in1 := by
  show A.units + 1 + 8 < cLine
  omega
theorem Lk.at {xs : List (NestedKey × Addr × Value)} (I : Inv X pins σ H s) (h : Rd H a (.dK []) ∧ kvs = [] ∧ xs = [] ∨ ∃ ep, Rd H a (nestO X.prog X.w a xs ep)) (r : DRelN X.K H Z kvs xs) : (a == sysModules) = false ∧ xs.length ≤ sizeLine ∧ s.heap.DictOfH (nestedKind X.prog X.w) a xs := by
  rcases h with ⟨e, _, rfl⟩ | ⟨ep, e⟩
  · obtain ⟨h1, h2⟩ := dK_nil I e
    exact ⟨h1, by simp, h2⟩
  · exact r.dict I e
theorem Lk.typ (I : Inv X pins σ H s) (l : Lk X H Z a kvs kd y) : s.TypeIs (.ref a) "dict" ∧ (∀ b, Value.ref a = .ref b → ∃ ob, s.heap.get? b = some ob ∧ ob.dict = none) ∧ (a == sysModules) = false := by
  cases l with
  | k e r hk ey => exact isD_at I (.inl ⟨_, e⟩)
  | n e r hk hd ey =>
    obtain ⟨h1, _, h2⟩ := Lk.at I e r
    refine ⟨h2.typeIs, fun b q => ?_, h1⟩
    cases q
    obtain ⟨ob, _, _, h1, h2, _⟩ := h2
    exact ⟨ob, h1, h2.2.1⟩
theorem Lk.getItem (hu : A.units + 20 < cLine) (I : Inv X pins σ H s) (l : Lk X H Z a kvs kd y) (rk : RelP X.K H Z kd y) (ry : RelV y u) {d : PyData} (e : getK kvs kd = some d) {Q : Value → Shared → Prop} (h : ∀ v w' s', RelP X.K H Z d v → Inv X pins σ H s' → RelV v w' → Q w' s') :
    wpAny (model X.prog X.w) A (getItem (.ref a) u) Q E s := by
  cases l with
  | k e1 r hk ey =>
    subst ey
    rcases r.val hk with ⟨z, _⟩ | ⟨d', v, z, z2, z3⟩
    · rw [e] at z; cases z
    · rw [e] at z; cases z
      exact d_getItem (by omega) I (.inl ⟨_, _, e1, rfl, z2.symm⟩) ry fun w' s' I' rw' => h v w' s' z3 I' rw'
  | n e1 r hk hd ey =>
    subst ey
    obtain rfl : u = Value.ref _ := ry
    obtain ⟨h1, h2, h3⟩ := Lk.at I e1 r
    rcases r.val hk with ⟨z, _⟩ | ⟨d', p, v, z, z2, z3, z4⟩
    · rw [e] at z; cases z
    · rw [e] at z; cases z
      exact wpAny_getItem_heap (room8 hu) ⟨RelP.nest I rk rfl hk, hd⟩ h3 z2 (h v _ _ z4 (I.tok _) z3)
theorem Lk.inD (hu : A.units + 20 < cLine) (I : Inv X pins σ H s) (l : Lk X H Z a kvs kd y) (rk : RelP X.K H Z kd y) (ry : RelV y u) {Q : Value → Shared → Prop} (h : ∀ s', Inv X pins σ H s' → Q (.bool (getK kvs kd).isSome) s') :
    wpAny (model X.prog X.w) A (compareOp .In u (.ref a)) Q E s := by
  cases l with
  | k e1 r hk ey =>
    subst ey
    refine d_in (by omega) I (.inl ⟨_, _, e1, rfl, rfl⟩) ry fun s' I' => ?_
    rcases r.val hk with ⟨z, z2⟩ | ⟨d', v, z, z2, z3⟩ <;> rw [z2] <;> have := h s' I' <;> rw [z] at this <;> exact this
  | n e1 r hk hd ey =>
    subst ey
    obtain rfl : u = Value.ref _ := ry
    obtain ⟨h1, h2, h3⟩ := Lk.at I e1 r
    refine wpAny_in_heap (room8 hu) ⟨RelP.nest I rk rfl hk, hd⟩ h1 h3 ?_
    rcases r.val hk with ⟨z, z2⟩ | ⟨d', p, v, z, z2, z3, z4⟩ <;> rw [z2] <;> rw [z] at h <;> exact h _ (I.tok _)
theorem Lk.notInD (hu : A.units + 20 < cLine) (I : Inv X pins σ H s) (l : Lk X H Z a kvs kd y) (rk : RelP X.K H Z kd y) (ry : RelV y u) {Q : Value → Shared → Prop} (h : ∀ s', Inv X pins σ H s' → Q (.bool (!(getK kvs kd).isSome)) s') :
    wpAny (model X.prog X.w) A (compareOp .NotIn u (.ref a)) Q E s := by
  cases l with
  | k e1 r hk ey =>
    subst ey
    refine d_notIn (by omega) I (.inl ⟨_, _, e1, rfl, rfl⟩) ry fun s' I' => ?_
    rcases r.val hk with ⟨z, z2⟩ | ⟨d', v, z, z2, z3⟩ <;> rw [z2] <;> have := h s' I' <;> rw [z] at this <;> exact this
  | n e1 r hk hd ey =>
    subst ey
    obtain rfl : u = Value.ref _ := ry
    obtain ⟨h1, h2, h3⟩ := Lk.at I e1 r
    refine wpAny_notIn_heap (room8 hu) ⟨RelP.nest I rk rfl hk, hd⟩ h1 h3 ?_
    rcases r.val hk with ⟨z, z2⟩ | ⟨d', p, v, z, z2, z3, z4⟩ <;> rw [z2] <;> rw [z] at h <;> exact h _ (I.tok _)
/-- d.get(k, x) -/
theorem Lk.get2 (hu : A.units + 20 < cLine) (I : Inv X pins σ H s) (l : Lk X H Z a kvs kd y) (rk : RelP X.K H Z kd y) (ry : RelV y u) {x : V} {r' : Value} {dx : PyData} (rx : RelP X.K H Z dx x) (rr : RelV x r') {Q : Value → Shared → Prop} (h : ∀ v w' s', RelP X.K H Z ((getK kvs kd).getD dx) v → Inv X pins σ H s' → RelV v w' → Q w' s') :
    wpAny (model X.prog X.w) A (call (.builtin "dict.get") [.ref a, u, r']) Q E s := by
  cases l with
  | k e1 r hk ey =>
    subst ey
    refine d_get2 (by omega) I (.inl ⟨_, _, e1, rfl, rfl⟩) ry rr fun w' s' I' rw' => ?_
    rcases r.val hk with ⟨z, z2⟩ | ⟨d', v, z, z2, z3⟩ <;> rw [z2] at rw'
    · rw [z] at h; exact h x w' s' rx I' rw'
    · rw [z] at h; exact h v w' s' z3 I' rw'
  | n e1 r hk hd ey =>
    subst ey
    obtain rfl : u = Value.ref _ := ry
    obtain ⟨h1, h2, h3⟩ := Lk.at I e1 r
    refine call_meetsIn PySem.F.slot_dict_get h3.typeIs PySem.F.entry_dict_get (PySem.F.args_dict_get_3 _ _ _) (meetsH_dict_get_default (nestedKind X.prog X.w) a _ h1 r') ⟨room8 hu, _, _, ⟨RelP.nest I rk rfl hk, hd⟩, h3, ?_⟩
    rcases r.val hk with ⟨z, z2⟩ | ⟨d', p, v, z, z2, z3, z4⟩ <;> rw [z2]
    · rw [z] at h; exact h x _ _ rx (I.tok _) rr
    · rw [z] at h; exact h v _ _ z4 (I.tok _) z3
/-- d[k] = v -/
theorem nest_write {h' : Heap} {t' : Nat} {xs : List (NestedKey × Addr × Value)} (I : Inv X pins σ H s) (mu : Mut (H a)) (hd : (a == sysModules) = false) (hl : xs.length ≤ sizeLine) (hs : Heap.SameBut a s.heap h') (dd : h'.DictOfH (nestedKind X.prog X.w) a xs) :
    ∃ ep, Inv X pins σ (upd H a (nestO X.prog X.w a xs ep)) { s with heap := h', toks := t' } := by
  obtain ⟨o, es, ep, q1, q2, q3, q4, _, q5⟩ := dd
  exact ⟨ep, d_write I mu hs ⟨o, q1⟩ (nest_ok ⟨hd, hl, q5, o, es, q1, q2, q3, q4⟩)⟩
theorem storedH_len {K : Type} [DecidableEq K] (xs : List (K × Addr × Value)) (k : K) (b : Addr) (v : Value) : (storedH xs k b v).length ≤ xs.length + 1 ∧ storedH xs k b v ≠ [] := by
  unfold storedH
  split
  · rename_i c
    refine ⟨by simp, fun z => ?_⟩
    have : xs = [] := List.map_eq_nil_iff.mp z
    subst this
    cases c
  · simp
theorem putK_len {K : Type} [DecidableEq K] (ks : List (K × V)) (k : K) (v : V) : (putK ks k v).length ≤ ks.length + 1 := length_putK ks k v
/-- what is written: the dict's new object, by the new pairs -/
theorem Lk.setItem (hu : A.units + 20 < cLine) (I : Inv X pins σ H s) (l : Lk X H Z a kvs kd y) (hz : Z a) (un : ∀ o u, H a ≠ some (.frz o u)) (rk : RelP X.K H Z kd y) (ry : RelV y u) {v : V} {r' : Value} {dv : PyData} (rv : RelP X.K H Z dv v) (rr : RelV v r') (fit : kvs.length < 16000000)
    {Q : Unit → Shared → Prop} (h : ∀ o s', Inv X pins σ (upd H a o) s' → (∀ M L Z', Of M X → Stay H Z (upd H a o) Z' → MOk M (upd H a o) L Z' a (.dct (putKD kvs kd dv))) → Q () s') :
    wpAny (model X.prog X.w) A (setItem (.ref a) u r') Q E s := by
  cases l with
  | k e1 r hk ey =>
    subst ey
    have hl := Paired.length r
    have e1 : H a = some (.dK _) := e1.elim id fun ⟨o, z⟩ => absurd z (un _ _)
    refine d_setItem (by omega) I (.inl ⟨_, _, e1, rfl, by rw [← hl, sizeLine_eq]; omega, rfl⟩) ry rr fun s' I' => h _ s' I' fun M L Z' o st => ?_
    refine .dK upd_same ?_
    rw [o.K]
    exact (r.put hk rv).stay st
  | @n xs k b e1 r hk hd ey =>
    subst ey
    obtain rfl : u = Value.ref _ := ry
    obtain ⟨h1, h2, h3⟩ := Lk.at I e1 r
    have hl := Paired.length r
    have mu : Mut (H a) := by
      rcases e1 with ⟨e | ⟨o, e⟩, _⟩ | ⟨ep, e | ⟨o, e⟩⟩
      · rw [e]; exact True.intro
      · exact absurd e (un _ _)
      · rw [e]; exact True.intro
      · exact absurd e (un _ _)
    obtain ⟨l1, l2⟩ := storedH_len xs k b r'
    refine wpAny_setItem_heap (hsz := h2) (room8 hu) ⟨RelP.nest I rk rfl hk, hd⟩ h3 fun h' dd hs => ?_
    obtain ⟨ep, I'⟩ := nest_write (t' := s.toks + (nestedKind X.prog X.w).draws k) I mu h1 (by rw [sizeLine_eq]; omega) hs dd
    refine h _ _ I' fun M L Z' o st => ?_
    refine .dN (ep := ep) (by rw [o.prog, o.w]; exact upd_same) l2 ?_
    rw [o.K]
    exact (r.put hk hd rk rv rr).stay st
end
end KF
set_option Elab.async false
set_option linter.all false
set_option maxRecDepth 100000
set_option maxHeartbeats 4000000
/-! KF, part E: dicts, by value. -/
namespace KF
open PySem PySem.Spec PyProof.Rows L2
section
variable {X : Cx} {M : MK} {W : WX} {B : Bs} {A : List (Option Addr)} {Hs H : Hp} {L : List Addr} {h : MH} {env : KF.Env} {σ : L2.St}
theorem RelM.keyP {kd : PyData} {v : V} {kvs : KVs} (r : RelM M .b B A Hs H L (.py kd) v) (ok : kOk kvs kd = true) : RelP M.K H (Zf B L A) kd v := by
  rcases r with r | ⟨i, a, xs, vs, _, _, e, _⟩
  · cases r with
    | py r => exact r
  · cases e; cases ok
/-! {} -/
def semDNew : EvF D := fun _ h => .ok (.loc h.length) (h ++ [.dct []])
theorem k_dnew {pos : Pos} : PE X (.Dict [] [] pos) (kE M .n W semDNew) := by
  refine PE.mono pe_dnewK fun σ H Q ⟨B, L, A, h, env, g, p⟩ n hn => ?_
  exact p (.ref n) _ (L ++ [n]) (Ext.newP hn) (g.newL hn fun Z hz => .dK upd_same .nil) (RelD.loc (by rw [← g.len, List.getElem?_append_right (Nat.le_refl _), Nat.sub_self]; rfl))
/-! d[k] -/
def rDGet (M : MK) : R2 := fun x y H Q => ∃ (a : Addr) (Z : Addr → Prop) (kvs : KVs) (kd d : PyData), x = .ref a ∧ RdOk M H Z a kvs ∧ RelP M.K H Z kd y ∧ kOk kvs kd = true ∧ getK kvs kd = some d ∧ ∀ v, RelP M.K H Z d v → Q v H
theorem ix_dict (o : Of M X) (hu : X.A.units + 20 < cLine) : IxR X (rDGet M) := by
  intro value slice pins s σ H x y v u Q I rx ry q hs
  obtain ⟨a, Z, kvs, kd, d, rfl, m, rk, ok, e, q⟩ := q
  obtain rfl : v = Value.ref a := rx
  have l := lk_of o m rk ok
  rw [o.K] at rk q
  exact tail_any (l.typ I).1 PySem.F.slot_dict_getitem.lookup (Lk.getItem hu I l rk ry e fun v w' s' r I' rv => ⟨v, H, I', rv, q v r⟩) hs
def dctAt (h : MH) : D → Option KVs
  | .loc n => match h[n]? with
    | some (.dct kvs) => some kvs
    | some (.lck kvs) => some kvs
    | _ => none
  | _ => none
def getD' (kvs : KVs) : D → Option PyData
  | .py kd => if kOk kvs kd = true then getK kvs kd else none
  | _ => none
def ixU : MH → D → D → Option D := fun h x y => match dctAt h x with
  | some kvs => (getD' kvs y).map .py
  | none => ixO h x y
theorem dctAt_rel {d : D} {v : V} {m : Mode} {kvs : KVs} (g : Good M B H L A h env σ) (r : RelM M m B A Hs H L d v) (e : dctAt h d = some kvs) : ∃ n a, d = .loc n ∧ (h[n]? = some (.dct kvs) ∨ h[n]? = some (.lck kvs)) ∧ L[n]? = some a ∧ v = .ref a ∧ RdOk M H (Zf B L A) a kvs := by
  unfold dctAt at e
  split at e
  · rename_i n
    split at e
    · rename_i kvs' q
      cases e
      obtain ⟨a, ea, rfl⟩ := r.loc
      exact ⟨n, a, rfl, .inl q, ea, rfl, (g.obj n _ a q ea).rdD⟩
    · rename_i kvs' q
      cases e
      obtain ⟨a, ea, rfl⟩ := r.loc
      exact ⟨n, a, rfl, .inr q, ea, rfl, (g.obj n _ a q ea).rdL⟩
    · cases e
  · cases e
theorem o_ixU : Op2 M .n (fun x y H Q => rIx M.K x y H Q ∨ rDGet M x y H Q) ixU := by
  intro B A H L h env σ d1 d2 d3 v1 v2 Q g r1 r2 e k
  unfold ixU at e
  cases q : dctAt h d1 with
  | none => rw [q] at e; exact .inl (o_ix B A H L h env σ d1 d2 d3 v1 v2 Q g r1 r2 e k)
  | some kvs =>
    rw [q] at e
    obtain ⟨n, a, rfl, _, _, rfl, m⟩ := dctAt_rel g r1 q
    cases d2 with
    | loc n => cases e
    | scr n => cases e
    | py kd =>
      have e : (getD' kvs (.py kd)).map D.py = some d3 := e
      unfold getD' at e
      dsimp only at e
      split at e
      · rename_i ok
        cases eg : getK kvs kd with
        | none => rw [eg] at e; cases e
        | some d =>
          rw [eg] at e; cases e
          exact .inr ⟨a, _, kvs, kd, d, rfl, m, r2.keyP ok, ok, eg, fun v r => k v H (Same.refl H) (RelM.ofP r)⟩
      · cases e
/-! k in d -/
def rDIn (M : MK) (n : Bool) : R2 := fun x y H Q => ∃ (a : Addr) (Z : Addr → Prop) (kvs : KVs) (kd : PyData), y = .ref a ∧ RdOk M H Z a kvs ∧ RelP M.K H Z kd x ∧ kOk kvs kd = true ∧ Q (.bl (xor n (getK kvs kd).isSome)) H
theorem op_inDct (o : Of M X) (hu : X.A.units + 20 < cLine) : OpR X (compareOp .In) (rDIn M false) := by
  intro pins s σ H x y v u Q I rx ry q
  obtain ⟨a, Z, kvs, kd, rfl, m, rk, ok, q⟩ := q
  obtain rfl : u = Value.ref a := ry
  have l := lk_of o m rk ok
  rw [o.K] at rk
  rw [Bool.false_xor] at q
  exact Lk.inD hu I l rk rx fun s' I' => ⟨.bl (getK kvs kd).isSome, H, I', rfl, q⟩
theorem op_ninDct (o : Of M X) (hu : X.A.units + 20 < cLine) : OpR X (compareOp .NotIn) (rDIn M true) := by
  intro pins s σ H x y v u Q I rx ry q
  obtain ⟨a, Z, kvs, kd, rfl, m, rk, ok, q⟩ := q
  obtain rfl : u = Value.ref a := ry
  have l := lk_of o m rk ok
  rw [o.K] at rk
  rw [Bool.true_xor] at q
  exact Lk.notInD hu I l rk rx fun s' I' => ⟨.bl (!(getK kvs kd).isSome), H, I', rfl, q⟩
def inK (kvs : KVs) : D → Option Bool
  | .py kd => if kOk kvs kd = true then some (getK kvs kd).isSome else none
  | _ => none
def inUD : MH → D → D → Option Bool := fun h x y => match dctAt h y with
  | some kvs => inK kvs x
  | none => inD h x y
def ninUD : MH → D → D → Option Bool := fun h x y => match dctAt h y with
  | some kvs => (inK kvs x).map (!·)
  | none => ninD h x y
theorem inK_some {kvs : KVs} {d : D} {b : Bool} (e : inK kvs d = some b) : ∃ kd, d = .py kd ∧ kOk kvs kd = true ∧ b = (getK kvs kd).isSome := by
  cases d with
  | loc n => cases e
  | scr n => cases e
  | py kd =>
    have e : (if kOk kvs kd = true then some (getK kvs kd).isSome else none) = some b := e
    split at e
    · rename_i ok; cases e; exact ⟨kd, rfl, ok, rfl⟩
    · cases e
theorem c_inU : Cm2 M (fun x y H Q => rInU M.K false x y H Q ∨ rDIn M false x y H Q) inUD := by
  intro B A H L h env σ d1 d2 b v1 v2 Q g r1 r2 e k
  unfold inUD at e
  cases q : dctAt h d2 with
  | none => rw [q] at e; exact .inl (c_in B A H L h env σ d1 d2 b v1 v2 Q g r1 r2 e k)
  | some kvs =>
    rw [q] at e
    obtain ⟨n, a, rfl, _, _, rfl, m⟩ := dctAt_rel g r2 q
    obtain ⟨kd, rfl, ok, rfl⟩ := inK_some e
    exact .inr ⟨a, _, kvs, kd, rfl, m, r1.keyP ok, ok, by rw [Bool.false_xor]; exact k⟩
theorem c_ninU : Cm2 M (fun x y H Q => rInU M.K true x y H Q ∨ rDIn M true x y H Q) ninUD := by
  intro B A H L h env σ d1 d2 b v1 v2 Q g r1 r2 e k
  unfold ninUD at e
  cases q : dctAt h d2 with
  | none => rw [q] at e; exact .inl (c_nin B A H L h env σ d1 d2 b v1 v2 Q g r1 r2 e k)
  | some kvs =>
    rw [q] at e
    obtain ⟨n, a, rfl, _, _, rfl, m⟩ := dctAt_rel g r2 q
    have e : (inK kvs d1).map (!·) = some b := e
    cases e2 : inK kvs d1 with
    | none => rw [e2] at e; cases e
    | some b' =>
      rw [e2] at e
      cases e
      obtain ⟨kd, rfl, ok, rfl⟩ := inK_some e2
      exact .inr ⟨a, _, kvs, kd, rfl, m, r1.keyP ok, ok, by rw [Bool.true_xor]; exact k⟩
/-! d.get(k, x) -/
def getX (h : MH) (d k x : D) : Option D := match dctAt h d, k, x with
  | some kvs, .py kd, .py dx => if kOk kvs kd = true then some (.py ((getK kvs kd).getD dx)) else none
  | _, _, _ => none
def semGet (fa fk fx : EvF D) : EvF D := fun env h => (fa env h).bind fun d h1 => match dctAt h1 d with
  | none => .bad
  | some _ => (fk env h1).bind fun k h2 => (fx env h2).bind fun x h3 => lift (getX h3 d k x) h3
def tGet2 (M : MK) (td ty tx : TE) : TE := fun σ H Q => td σ H fun x H1 => ∃ (a : Addr) (Z1 : Addr → Prop) (kv1 : KVs), x = .ref a ∧ RdOk M H1 Z1 a kv1 ∧ ty σ H1 fun y H2 => tx σ H2 fun z H3 => ∃ (Z : Addr → Prop) (kvs : KVs) (kd dx : PyData), RdOk M H3 Z a kvs ∧ RelP M.K H3 Z kd y ∧ kOk kvs kd = true ∧ RelP M.K H3 Z dx z ∧ ∀ v, RelP M.K H3 Z ((getK kvs kd).getD dx) v → Q v H3
theorem mok_typ (o : Of M X) {pins : List (Addr × Obj)} {s : Shared} {Z : Addr → Prop} {a : Addr} {kvs : KVs} (I : Inv X pins σ H s) (m : RdOk M H Z a kvs) : s.TypeIs (.ref a) "dict" ∧ (∀ b, Value.ref a = .ref b → ∃ ob, s.heap.get? b = some ob ∧ ob.dict = none) := by
  rcases m with ⟨ks, e, r⟩ | ⟨xs, ep, e, ne, r⟩
  · exact ⟨(isD_at I (.inl ⟨_, e⟩)).1, (isD_at I (.inl ⟨_, e⟩)).2.1⟩
  · rw [o.prog, o.w] at e
    rw [o.K] at r
    obtain ⟨h1, _, h2⟩ := r.dict I e
    refine ⟨h2.typeIs, fun b q => ?_⟩
    cases q
    obtain ⟨ob, _, _, h1, h2, _⟩ := h2
    exact ⟨ob, h1, h2.2.1⟩
theorem pe_get2 (of : Of M X) (hu : X.A.units + 20 < cLine) {o e f : Expr} {apos cpos : Pos} {td ty tx : TE} (ho : PE X o td) (he : PE X e ty) (hf : PE X f tx) (m : M2 X o "get" apos e f cpos) : PE X (.Call (.Attribute o "get" apos) [e, f] [] cpos) (tGet2 M td ty tx) := by
  refine ⟨fun pins s σ H Q I h => wpAny_Call_method m.base m.few m.line PySem.F.plainAttrs_dict PySem.F.slot_dict_get PySem.F.type_dict_get (thn (ho.run pins s σ H _ I h) fun u s1 ⟨x, H1, I1, rx, a, Z1, kv1, ex, d, q1⟩ => ?_)⟩
  subst ex
  obtain rfl : u = Value.ref a := rx
  obtain ⟨t1, t2⟩ := mok_typ of I1 d
  refine ⟨t1, t2, ?_⟩
  rw [m.trees]
  refine Calls.callWith_builtin rfl (Calls.evalArgs_plain (Calls.spliced_cons (thn (he.run pins s1 σ H1 _ I1 q1) fun iv s2 ⟨y, H2, I2, ry, q2⟩ => Calls.spliced_cons (thn (hf.run pins s2 σ H2 _ I2 q2) fun fv s3 ⟨z, H3, I3, rz, Z, kvs, kd, dx, m3, rk, ok, rx, q3⟩ => Calls.spliced_nil ?_))))
  have l := lk_of of m3 rk ok
  rw [of.K] at rk rx q3
  exact Lk.get2 hu I3 l rk ry rx rz fun v w' s' r I' rv => ⟨v, H3, I', rv, q3 v r⟩
theorem k_get2 (of : Of M X) (hu : X.A.units + 20 < cLine) {o e f : Expr} {apos cpos : Pos} {fa fk fx : EvF D} (ho : PE X o (kE M .n W fa)) (he : PE X e (kE M .b W fk)) (hf : PE X f (kE M .n W fx)) (m : M2 X o "get" apos e f cpos) : PE X (.Call (.Attribute o "get" apos) [e, f] [] cpos) (kE M .n W (semGet fa fk fx)) := by
  refine PE.mono (pe_get2 of hu ho he hf m) fun σ H Q ⟨B, L, A, h, env, g, p⟩ => ?_
  refine tG_bind sm_M g p fun d h1 v H1 L1 e1 x1 g1 r1 p1 => ?_
  cases q1 : dctAt h1 d with
  | none => rw [q1] at p1; exact p1.elim
  | some kv1 =>
    rw [q1] at p1
    obtain ⟨n, a, rfl, hn, ea, rfl, m1⟩ := dctAt_rel g1 r1 q1
    refine ⟨a, _, kv1, rfl, m1, ?_⟩
    refine tG_bind sm_M g1 p1 fun k h2 y H2 L2 e2 x2 g2 r2 p2 => ?_
    refine tG_bind sm_M g2 p2 fun x h3 z H3 L3 e3 x3 g3 r3 p3 => ?_
    unfold getX at p3
    have r1' : RelM M .n B A H3 H3 L3 (.loc n) (.ref a) := RelM.stay (m := .n) (Hs := H3) r1 (x2.trans x3) fun i a ha => (g1.own i a ha).1
    have r2' : RelM M .b B A H3 H3 L3 k y := RelM.stay (m := .b) (Hs := H3) r2 x3 fun i a ha => (g2.own i a ha).1
    cases q3 : dctAt h3 (.loc n) with
    | none => rw [q3] at p3; exact p3.elim
    | some kvs =>
      rw [q3] at p3
      obtain ⟨n', a', en, hn', ea', eq', m3⟩ := dctAt_rel g3 r1' q3
      cases eq'
      cases k with
      | loc n => exact p3.elim
      | scr n => exact p3.elim
      | py kd =>
        cases x with
        | loc n => exact p3.elim
        | scr n => exact p3.elim
        | py dx =>
          dsimp only at p3
          split at p3
          · rename_i ok
            cases r3 with
            | py r3 => exact ⟨_, kvs, kd, dx, m3, r2'.keyP ok, ok, r3, fun v r => p3.fin g3 (Same.refl _) (RelM.ofP r)⟩
          · exact p3.elim
end
end KF
set_option Elab.async false
set_option linter.all false
set_option maxRecDepth 100000
set_option maxHeartbeats 4000000
/-! KF, part F: stores into dicts. -/
namespace KF
open PySem PySem.Spec PyProof.Rows L2
section
variable {X : Cx} {M : MK} {W : WX}
def rSetD (M : MK) : V → V → V → Hp → (Hp → Prop) → Prop := fun o i v H Q => ∃ (a : Addr) (L : List Addr) (Z : Addr → Prop) (kvs : KVs) (kd dv : PyData), o = .ref a ∧ MOk M H L Z a (.dct kvs) ∧ Z a ∧ RelP M.K H Z kd i ∧ kOk kvs kd = true ∧ RelP M.K H Z dv v ∧ kvs.length < 16000000 ∧
  ∀ ob, (∀ L' Z', Stay H Z (upd H a ob) Z' → MOk M (upd H a ob) L' Z' a (.dct (putKD kvs kd dv))) → Q (upd H a ob)
theorem set_dict (of : Of M X) (hu : X.A.units + 20 < cLine) : PSet X (rSetD M) := by
  intro pins s σ H o i v ov iv u Q I ro ri rv h
  obtain ⟨a, L, Z, kvs, kd, dv, rfl, m, za, rk, ok, rd, fit, q⟩ := h
  obtain rfl : ov = Value.ref a := ro
  have un : ∀ o u, H a ≠ some (.frz o u) := by
    cases m with
    | dK e _ => intro o u z; rw [e] at z; cases z
    | dN e _ _ => intro o u z; rw [e] at z; cases z
  have l := lk_of of m.rdD rk ok
  rw [of.K] at rk rd
  exact Lk.setItem hu I l za un rk ri rd rv fit fun ob s' I' hm => ⟨_, I', q ob fun L' Z' st => hm M L' Z' of st⟩
/-- .. to be written -/
def dctW (h : MH) : D → Option KVs
  | .loc n => match h[n]? with
    | some (.dct kvs) => some kvs
    | _ => none
  | _ => none
theorem dctW_rel {B : Bs} {A : List (Option Addr)} {Hs H : Hp} {L : List Addr} {h : MH} {env : KF.Env} {σ : L2.St} {d : D} {v : V} {m : Mode} {kvs : KVs} (g : Good M B H L A h env σ) (r : RelM M m B A Hs H L d v) (e : dctW h d = some kvs) : ∃ n a, d = .loc n ∧ h[n]? = some (.dct kvs) ∧ L[n]? = some a ∧ v = .ref a ∧ MOk M H L (Zf B L A) a (.dct kvs) := by
  unfold dctW at e
  split at e
  · rename_i n
    split at e
    · rename_i kvs' q
      cases e
      obtain ⟨a, ea, rfl⟩ := r.loc
      exact ⟨n, a, rfl, q, ea, rfl, g.obj n _ a q ea⟩
    · cases e
  · cases e
def putD (h : MH) (r k d : D) : Option MH := match dctW h r, r, k, d with
  | some kvs, .loc n, .py kd, .py dv => if (kOk kvs kd && Nat.blt kvs.length 16000000) = true then some (h.set n (.dct (putKD kvs kd dv))) else none
  | _, _, _, _ => none
theorem putD_some {h h' : MH} {r k d : D} (e : putD h r k d = some h') : ∃ kvs n kd dv, dctW h r = some kvs ∧ r = .loc n ∧ k = .py kd ∧ d = .py dv ∧ kOk kvs kd = true ∧ kvs.length < 16000000 ∧ h' = h.set n (.dct (putKD kvs kd dv)) := by
  unfold putD at e
  split at e
  · rename_i kvs n kd dv q
    split at e
    · rename_i c
      cases e
      obtain ⟨c1, c2⟩ := Bool.and_eq_true_iff.mp c
      exact ⟨kvs, n, kd, dv, q, rfl, rfl, rfl, c1, Nat.le_of_ble_eq_true c2, rfl⟩
    · cases e
  · cases e
def putU (h : MH) (r k d : D) : Option MH := match dctAt h r with
  | some _ => putD h r k d
  | none => putL h r k d
def semPutD (i : Nat) (fk fa : EvF D) : EvS := fun env h => (fa env h).toS env fun d h1 => match env[i]? with
  | some (.v r) => (fk env h1).toS env fun k h2 => match putD h2 r k d with
    | some h' => .nx env h'
    | none => .bad
  | _ => .bad
def semPutU (i : Nat) (fk fa : EvF D) : EvS := fun env h => (fa env h).toS env fun d h1 => match env[i]? with
  | some (.o xs) => (fk env h1).toS env fun k h2 => match putO i xs env k d with
    | some env' => .nx env' h2
    | none => .bad
  | some (.v r) => (fk env h1).toS env fun k h2 => match putU h2 r k d with
    | some h' => .nx env h'
    | none => .bad
  | _ => .bad
theorem putU_or (i : Nat) (fk fa : EvF D) (env : KF.Env) (h : MH) : semPutU i fk fa env h = semPut i fk fa env h ∨ semPutU i fk fa env h = semPutD i fk fa env h := by
  unfold semPutU semPut semPutD
  cases fa env h with
  | exc c fs h1 => exact .inl rfl
  | bad => exact .inl rfl
  | ok d h1 =>
    dsimp only [Out.toS]
    cases env[i]? with
    | none => exact .inl rfl
    | some sl =>
      cases sl with
      | u => exact .inl rfl
      | o xs => exact .inl rfl
      | v r =>
        dsimp only
        cases fk env h1 with
        | exc c fs h1 => exact .inl rfl
        | bad => exact .inl rfl
        | ok k h2 =>
          dsimp only [Out.toS]
          unfold putU
          cases dctAt h2 r with
          | none => exact .inl rfl
          | some kvs => exact .inr rfl
theorem Good.putD {B : Bs} {A : List (Option Addr)} {H : Hp} {L : List Addr} {h : MH} {env : KF.Env} {σ : L2.St} {n : Nat} {a : Addr} {kvs kvs' : KVs} {ob : HO} (g : Good M B H L A h env σ) (ea : L[n]? = some a) (m : MOk M H L (Zf B L A) a (.dct kvs)) (hm : ∀ L' Z', Stay H (Zf B L A) (upd H a ob) Z' → MOk M (upd H a ob) L' Z' a (.dct kvs')) : Good M B (upd H a ob) L A (h.set n (.dct kvs')) env σ := by
  have aL : a ∈ L := List.mem_of_getElem? ea
  have za : Zf B L A a := .inl aL
  have key : ∀ u, H a = some u → (∀ xs, u ≠ .tup xs) → (∀ o w, u ≠ .frz o w) → Good M B (upd H a ob) L A (h.set n (.dct kvs')) env σ := fun u eu nt nf => by
    refine g.setL ea eu nt nf (hm L _ ?_)
    have ne : ∀ b o, H b = some o → b ≠ a → (upd H a ob) b = some o := fun b o e q => by rw [upd_ne q]; exact e
    exact ⟨fun b o e z => ne b o e fun q => z (q ▸ za), fun b xs e => ne b _ e (fun q => by subst q; rw [eu] at e; exact nt xs (Option.some.inj e)), fun b o u' e => ne b _ e (fun q => by subst q; rw [eu] at e; exact nf o u' (Option.some.inj e)), fun b o _ z => z⟩
  cases m with
  | dK e r => exact key _ e (fun _ z => nomatch z) (fun _ _ z => nomatch z)
  | dN e ne r => exact key _ e (fun _ z => nomatch z) (fun _ _ z => nomatch z)
theorem s_putD (of : Of M X) (hu : X.A.units + 20 < cLine) {i : Nat} {x : Str} {k e : Expr} {fk fa : EvF D} {np tp pos : Pos} (hN : X.N[i]? = some x) (hv : Vis X.env.scope x) (hd : (x == ("__debug__" : Str)) = false) (hcd : (x == ("__classdict__" : Str)) = false)
    (ha : PE X e (kE M .n W fa)) (hk : PE X k (kE M .b W fk)) (hs : swapsWithSole [.Subscript (.Name x np) k tp] e pos.line X.env = pure false) (hw : swappedStores [.Subscript (.Name x np) k tp] e X.env = pure none)
    (h1 : (assignEach [.Subscript (.Name x np) k tp] X.env).map (·.2) = [assign (.Subscript (.Name x np) k tp) X.env])
    (hasn : AsnSub (.Name x np) k tp X.env) : PS X (.Assign [.Subscript (.Name x np) k tp] e pos) (kS M W (semPutD i fk fa)) := by
  refine PS.mono (ps_asg ha (pg_sub (pe_var hN hv hd hcd) hk (set_dict of hu) hasn) hs hw h1) fun De σ H ⟨B, L, A, h, env, g, p⟩ => ?_
  refine tG_toS g p fun d h1 v H1 L1 e1 x1 g1 r1 p1 => ?_
  cases e0 : env[i]? with
  | none => rw [e0] at p1; exact p1.elim
  | some sl =>
    rw [e0] at p1
    cases sl with
    | u => exact p1.elim
    | o xs => exact p1.elim
    | v rd =>
      cases g1.slot i _ e0 with
      | @v _ w q1 q2 q3 =>
        refine ⟨w, q2, ?_⟩
        refine tG_toS g1 p1 fun kd h3 kv H3 L3 e3 x3 g3 r3 p3 => ?_
        cases e4 : putD h3 rd kd d with
        | none => rw [e4] at p3; exact p3.elim
        | some h' =>
          rw [e4] at p3
          obtain ⟨kvs, n, kd', dv, z1, rfl, rfl, rfl, ok, fit, rfl⟩ := putD_some e4
          have r1' : RelM M .n B A H3 H3 L3 (.py dv) v := RelM.stay (m := .n) (Hs := H3) r1 x3 fun i a ha => (g1.own i a ha).1
          have r2' : RelM M .n B A H3 H3 L3 (.loc n) w := RelM.stay (m := .n) (Hs := H3) q3 x3 fun i a ha => (g1.own i a ha).1
          obtain ⟨n', a, en, hn, ea, rfl, m⟩ := dctW_rel g3 r2' z1
          cases en
          cases r1' with
          | py r1' => exact ⟨a, L3, _, kvs, kd', dv, rfl, m, .inl (List.mem_of_getElem? ea), r3.keyP ok, ok, r1', fit, fun ob hm => p3 _ _ _ _ (g3.putD ea m hm)⟩
theorem PS.or {st : Stmt} {t t' : TS} (h : PS X st t) (h' : PS X st t') : PS X st (fun De σ H => t De σ H ∨ t' De σ H) := ⟨fun pins s σ H De I q => by
  rcases q with q | q
  · exact h.run pins s σ H De I q
  · exact h'.run pins s σ H De I q⟩
theorem s_putU (of : Of M X) (hu : X.A.units + 20 < cLine) {i : Nat} {x : Str} {k e : Expr} {fk fa : EvF D} {np tp pos : Pos} (hN : X.N[i]? = some x) (hv : Vis X.env.scope x) (hd : (x == ("__debug__" : Str)) = false) (hcd : (x == ("__classdict__" : Str)) = false)
    (ha : PE X e (kE M .n W fa)) (hk : PE X k (kE M .b W fk)) (hs : swapsWithSole [.Subscript (.Name x np) k tp] e pos.line X.env = pure false) (hw : swappedStores [.Subscript (.Name x np) k tp] e X.env = pure none)
    (h1 : (assignEach [.Subscript (.Name x np) k tp] X.env).map (·.2) = [assign (.Subscript (.Name x np) k tp) X.env])
    (hasn : AsnSub (.Name x np) k tp X.env) : PS X (.Assign [.Subscript (.Name x np) k tp] e pos) (kS M W (semPutU i fk fa)) := by
  refine PS.mono (PS.or (s_put hN hv hd hcd ha hk hs hw h1 hasn) (s_putD of hu hN hv hd hcd ha hk hs hw h1 hasn)) fun De σ H ⟨B, L, A, h, env, g, p⟩ => ?_
  rcases putU_or i fk fa env h with z | z
  · exact .inl ⟨B, L, A, h, env, g, by rw [← z]; exact p⟩
  · exact .inr ⟨B, L, A, h, env, g, by rw [← z]; exact p⟩
end
end KF
set_option Elab.async false
set_option linter.all false
set_option maxRecDepth 100000
set_option maxHeartbeats 4000000
/-! KF, part G: x, y, z = [], [], c. -/
namespace KF
open PySem PySem.Spec PyProof.Rows L2
section
variable {X : Cx} {M : MK} {W : WX}
def semPar3 (i j l : Nat) (c : Int) : EvS := fun env h => if i < env.length ∧ j < env.length ∧ l < env.length then .nx (((env.set i (.o [])).set j (.o [])).set l (.v (.py (.int c)))) h else .bad
theorem s_par3 {i j l : Nat} {x y z : Str} {c : Int} {px py pz pt pos p1 p2 p3 : Pos} {kt k2 k3 : Nat} {pt2 : Pos} (hc : X.calm = true) (hN : X.N.Nodup) (hi : X.N[i]? = some x) (hj : X.N[j]? = some y) (hl : X.N[l]? = some z) (hij : i ≠ j) (hil : i ≠ l) (hjl : j ≠ l)
    (hx : X.env.scope.names.lookup x = some .local) (hy : X.env.scope.names.lookup y = some .local) (hz : X.env.scope.names.lookup z = some .local)
    (hw : swappedStores [.Tuple [.Name x px, .Name y py, .Name z pz] kt pt] (.Tuple [.List [] p1, .List [] p2, .Constant (.int c) k3 p3] k2 pt2) X.env = pure (some [x, y, z])) :
    PS X (.Assign [.Tuple [.Name x px, .Name y py, .Name z pz] kt pt] (.Tuple [.List [] p1, .List [] p2, .Constant (.int c) k3 p3] k2 pt2) pos) (kS M W (semPar3 i j l c)) := by
  refine PS.mono (ps_par3 hc hN hi hj hl hij hil hjl hx hy hz (pa_cons (pe_lst pa_nil) (pa_cons (pe_lst pa_nil) (pa_cons pe_int pa_nil rfl) rfl) rfl) hw rfl) fun De σ H ⟨B, L, A, h, env, g, p⟩ => ?_
  unfold semPar3 at p
  by_cases q : i < env.length ∧ j < env.length ∧ l < env.length
  · rw [if_pos q] at p
    refine ⟨by simp, fun a1 n1 => ⟨by simp, fun a2 n2 => ⟨_, _, _, rfl, ?_⟩⟩⟩
    exact p _ _ _ _ (((g.setNew (vs := []) n1 .nil q.1).setNew (vs := []) n2 .nil (by rw [List.length_set]; exact q.2.1)).setV (.py (.int c)) (by rw [List.length_set, List.length_set]; exact q.2.2))
  · rw [if_neg q] at p; exact p.elim
theorem s_par3C {i j l : Nat} {x y z : Str} {c : Int} {px py pz pt pos p1 p2 p3 : Pos} {kt k2 k3 : Nat} {pt2 : Pos} (hc : X.calm = true) (hN : X.N.Nodup) (hi : X.N[i]? = some x) (hj : X.N[j]? = some y) (hl : X.N[l]? = some z)
    (hx : Loc X.env.scope x) (hy : Loc X.env.scope y) (hz : Loc X.env.scope z) (fx : X.fn x = true ∨ X.env.scope.names.lookup x = some .local) (fy : X.fn y = true ∨ X.env.scope.names.lookup y = some .local) (fz : X.fn z = true ∨ X.env.scope.names.lookup z = some .local)
    (hw : swappedStores [.Tuple [.Name x px, .Name y py, .Name z pz] kt pt] (.Tuple [.List [] p1, .List [] p2, .Constant (.int c) k3 p3] k2 pt2) X.env = pure none) :
    PS X (.Assign [.Tuple [.Name x px, .Name y py, .Name z pz] kt pt] (.Tuple [.List [] p1, .List [] p2, .Constant (.int c) k3 p3] k2 pt2) pos) (kS M W (semPar3 i j l c)) := by
  refine PS.mono (ps_asg (pe_tup (pa_cons (pe_lst pa_nil) (pa_cons (pe_lst pa_nil) (pa_cons pe_int pa_nil rfl) rfl) rfl)) (pg_tup hc (pgs_cons (pg_name hN hi hx fx) (pgs_cons (pg_name hN hj hy fy) (pgs_cons (pg_name hN hl hz fz) pgs_nil rfl) rfl) rfl) rfl rfl) rfl hw rfl) fun De σ H ⟨B, L, A, h, env, g, p⟩ => ?_
  unfold semPar3 at p
  by_cases q : i < env.length ∧ j < env.length ∧ l < env.length
  · rw [if_pos q] at p
    refine ⟨by simp, fun a1 n1 => ⟨by simp, fun a2 n2 => ?_⟩⟩
    have G := ((g.setNew (vs := []) n1 .nil q.1).setNew (vs := []) n2 .nil (by rw [List.length_set]; exact q.2.1)).setV (d := .py (.int c)) (.py (.int c)) (by rw [List.length_set, List.length_set]; exact q.2.2)
    refine ⟨by show 3 ≤ sizeLine; decide, fun T nT => ⟨T, _, rfl, .inl (.inl upd_same), rfl, _, _, rfl, _, _, rfl, _, _, rfl, rfl, ?_⟩⟩
    exact p _ _ _ _ (G.same (same_upd nT))
  · rw [if_neg q] at p; exact p.elim
/-! x, y = [], [] -/
def semParL (i j : Nat) : EvS := fun env h => if i < env.length ∧ j < env.length then .nx ((env.set i (.o [])).set j (.o [])) h else .bad
theorem s_parL {i j : Nat} {x y : Str} {px py pt pos p1 p2 : Pos} {kt k2 : Nat} {pt2 : Pos} (hc : X.calm = true) (hN : X.N.Nodup) (hi : X.N[i]? = some x) (hj : X.N[j]? = some y) (hij : i ≠ j)
    (hx : X.env.scope.names.lookup x = some .local) (hy : X.env.scope.names.lookup y = some .local)
    (hw : swappedStores [.Tuple [.Name x px, .Name y py] kt pt] (.Tuple [.List [] p1, .List [] p2] k2 pt2) X.env = pure (some [x, y])) :
    PS X (.Assign [.Tuple [.Name x px, .Name y py] kt pt] (.Tuple [.List [] p1, .List [] p2] k2 pt2) pos) (kS M W (semParL i j)) := by
  refine PS.mono (ps_par hc hN hi hj hij hx hy (pa_cons (pe_lst pa_nil) (pa_cons (pe_lst pa_nil) pa_nil rfl) rfl) hw rfl) fun De σ H ⟨B, L, A, h, env, g, p⟩ => ?_
  unfold semParL at p
  by_cases q : i < env.length ∧ j < env.length
  · rw [if_pos q] at p
    refine ⟨by simp, fun a1 n1 => ⟨by simp, fun a2 n2 => ⟨_, _, rfl, ?_⟩⟩⟩
    exact p _ _ _ _ ((g.setNew (vs := []) n1 .nil q.1).setNew (vs := []) n2 .nil (by rw [List.length_set]; exact q.2))
  · rw [if_neg q] at p; exact p.elim
theorem s_parLC {i j : Nat} {x y : Str} {px py pt pos p1 p2 : Pos} {kt k2 : Nat} {pt2 : Pos} (hc : X.calm = true) (hN : X.N.Nodup) (hi : X.N[i]? = some x) (hj : X.N[j]? = some y)
    (hx : Loc X.env.scope x) (hy : Loc X.env.scope y) (fx : X.fn x = true ∨ X.env.scope.names.lookup x = some .local) (fy : X.fn y = true ∨ X.env.scope.names.lookup y = some .local)
    (hw : swappedStores [.Tuple [.Name x px, .Name y py] kt pt] (.Tuple [.List [] p1, .List [] p2] k2 pt2) X.env = pure none) :
    PS X (.Assign [.Tuple [.Name x px, .Name y py] kt pt] (.Tuple [.List [] p1, .List [] p2] k2 pt2) pos) (kS M W (semParL i j)) := by
  refine PS.mono (ps_asg (pe_tup (pa_cons (pe_lst pa_nil) (pa_cons (pe_lst pa_nil) pa_nil rfl) rfl)) (pg_tup hc (pgs_cons (pg_name hN hi hx fx) (pgs_cons (pg_name hN hj hy fy) pgs_nil rfl) rfl) rfl rfl) rfl hw rfl) fun De σ H ⟨B, L, A, h, env, g, p⟩ => ?_
  unfold semParL at p
  by_cases q : i < env.length ∧ j < env.length
  · rw [if_pos q] at p
    refine ⟨by simp, fun a1 n1 => ⟨by simp, fun a2 n2 => ?_⟩⟩
    have G := (g.setNew (vs := []) n1 .nil q.1).setNew (vs := []) n2 .nil (by rw [List.length_set]; exact q.2)
    refine ⟨by show 2 ≤ sizeLine; decide, fun T nT => ⟨T, _, rfl, .inl (.inl upd_same), rfl, _, _, rfl, _, _, rfl, rfl, ?_⟩⟩
    exact p _ _ _ _ (G.same (same_upd nT))
  · rw [if_neg q] at p; exact p.elim
end
end KF
set_option Elab.async false
set_option linter.all false
set_option maxRecDepth 100000
set_option maxHeartbeats 4000000
/-! KF, part H: a dict's keys walked; the dict is locked meanwhile. -/
namespace KF
open PySem PySem.Spec PyProof.Rows L2
/-! ### what stays of sequences -/
structure StayQ (H : Hp) (Z : Addr → Prop) (H' : Hp) : Prop where
  lsts : ∀ a xs, H a = some (.lst xs) → ¬ Z a → H' a = some (.lst xs)
  tups : ∀ a xs, H a = some (.tup xs) → H' a = some (.tup xs)
  frzL : ∀ a o xs, H a = some (.frz o (.lst xs)) → H' a = some (.frz o (.lst xs))
  frzT : ∀ a o xs, H a = some (.frz o (.tup xs)) → H' a = some (.frz o (.tup xs))
mutual
theorem RelP.stayQ {K : PySem.W.Frag} {H H' : Hp} {Z : Addr → Prop} (s : StayQ H Z H') : ∀ {d : PyData} {v : V}, RelP K H Z d v → RelP K H' Z d v
  | _, _, .non => .non
  | _, _, .bl b => .bl b
  | _, _, .int i => .int i
  | _, _, .str x h => .str x h
  | _, _, .lst h z r => by
    rcases h with h | ⟨o, h⟩
    · exact .lst (.inl (s.lsts _ _ h z)) z (RelPs.stayQ s r)
    · exact .lst (.inr ⟨o, s.frzL _ _ _ h⟩) z (RelPs.stayQ s r)
  | _, _, .tup h r => by
    refine .tup ?_ (RelPs.stayQ s r)
    rcases h with (h | ⟨o, h⟩) | h
    · exact .inl (.inl (s.tups _ _ h))
    · exact .inl (.inr ⟨o, s.frzT _ _ _ h⟩)
    · exact .inr h
theorem RelPs.stayQ {K : PySem.W.Frag} {H H' : Hp} {Z : Addr → Prop} (s : StayQ H Z H') : ∀ {ds : List PyData} {vs : List V}, RelPs K H Z ds vs → RelPs K H' Z ds vs
  | _, _, .nil => .nil
  | _, _, .cons r t => .cons (RelP.stayQ s r) (RelPs.stayQ s t)
end
theorem RelD.stayQ {K : PySem.W.Frag} {H H' : Hp} {L : List Addr} {Z : Addr → Prop} (s : StayQ H Z H') {d : D} {v : V} (r : RelD K H L Z d v) : RelD K H' L Z d v := by
  cases r with
  | py r => exact .py (r.stayQ s)
  | loc e => exact .loc e
  | scr e =>
    refine .scr ?_
    rcases e with ⟨o, e⟩ | e
    · exact .inl ⟨o, s.frzL _ _ _ e⟩
    · exact .inr e
theorem RelDs.stayQ {K : PySem.W.Frag} {H H' : Hp} {L : List Addr} {Z : Addr → Prop} (s : StayQ H Z H') : ∀ {ds : List D} {vs : List V}, RelDs K H L Z ds vs → RelDs K H' L Z ds vs
  | _, _, .nil => .nil
  | _, _, .cons r t => .cons (r.stayQ s) (RelDs.stayQ s t)
theorem DRelK.stayQ {K : PySem.W.Frag} {H H' : Hp} {Z : Addr → Prop} (s : StayQ H Z H') {kvs : KVs} {ks : List (Key × V)} (r : DRelK K H Z kvs ks) : DRelK K H' Z kvs ks := Paired.mapP r fun _ _ q => ⟨q.1, q.2.stayQ s⟩
theorem DRelN.stayQ {K : PySem.W.Frag} {H H' : Hp} {Z : Addr → Prop} (s : StayQ H Z H') {kvs : KVs} {ks : List (NestedKey × Addr × Value)} (r : DRelN K H Z kvs ks) : DRelN K H' Z kvs ks := Paired.mapP r fun _ _ ⟨q1, q2, q3, v, q4, q5⟩ => ⟨q1, q2, q3.stayQ s, v, q4, q5.stayQ s⟩
theorem MOk.stayQ {M : MK} {H H' : Hp} {L : List Addr} {Z : Addr → Prop} {a : Addr} {o : MO} (m : MOk M H L Z a o) (s : StayQ H Z H') (e : H' a = H a) : MOk M H' L Z a o := by
  cases m with
  | lst h r => exact .lst (e.trans h) (r.stayQ s)
  | ins h l r => exact .ins (e.trans h) l (r.stayQ s)
  | dK h r => exact .dK (e.trans h) (r.stayQ s)
  | dN h l r => exact .dN (e.trans h) l (r.stayQ s)
  | lK h r => exact .lK (e.trans h) (r.stayQ s)
  | lN h l r => exact .lN (e.trans h) l (r.stayQ s)
/-- a dict's object -/
def isDO : HO → Prop
  | .dK _ => True
  | .ext _ => True
  | _ => False
theorem isDO.mut {u : HO} (h : isDO u) : Mut (some u) := by
  cases u with
  | dK _ => exact True.intro
  | ext _ => exact True.intro
  | _ => exact h.elim
section
variable {M : MK} {B : Bs} {A : List (Option Addr)} {H H' : Hp} {L L' : List Addr} {h h' : MH} {env : KF.Env} {σ : L2.St} {n : Nat} {d : Addr} {u : HO} {od : Obj} {kvs : KVs}
theorem MOk.dobj {Z : Addr → Prop} (m : MOk M H L Z d (.dct kvs)) : ∃ u, H d = some u ∧ isDO u ∧ ∀ H' L' Z', RelPs M.K H Z [] [] → (∀ ks, DRelK M.K H Z kvs ks → DRelK M.K H' Z' kvs ks) → (∀ xs, DRelN M.K H Z kvs xs → DRelN M.K H' Z' kvs xs) → (H' d = some u → MOk M H' L' Z' d (.dct kvs)) ∧ ∀ od, H' d = some (.frz od u) → MOk M H' L' Z' d (.lck kvs) := by
  cases m with
  | dK e r => exact ⟨_, e, True.intro, fun H' L' Z' _ k1 k2 => ⟨fun e => .dK e (k1 _ r), fun od e => .lK e (k1 _ r)⟩⟩
  | dN e ne r => exact ⟨_, e, True.intro, fun H' L' Z' _ k1 k2 => ⟨fun e => .dN e ne (k2 _ r), fun od e => .lN e ne (k2 _ r)⟩⟩
theorem lockQ {Z : Addr → Prop} (e : H d = some u) (du : isDO u) : StayQ H Z (upd H d (.frz od u)) := by
  have ne : ∀ b o, H b = some o → o ≠ u → (upd H d (.frz od u)) b = some o := fun b o eb q => by
    rw [upd_ne (fun z => by subst z; rw [e] at eb; exact q (Option.some.inj eb).symm)]; exact eb
  exact ⟨fun a xs q _ => ne a _ q (by rintro rfl; exact du), fun a xs q => ne a _ q (by rintro rfl; exact du), fun a o xs q => ne a _ q (by rintro rfl; exact du), fun a o xs q => ne a _ q (by rintro rfl; exact du)⟩
theorem unlockQ {Z : Addr → Prop} (e : H d = some (.frz od u)) (du : isDO u) : StayQ H Z (upd H d u) := by
  have ne : ∀ b o, H b = some o → o ≠ .frz od u → (upd H d u) b = some o := fun b o eb q => by
    rw [upd_ne (fun z => by subst z; rw [e] at eb; exact q (Option.some.inj eb).symm)]; exact eb
  exact ⟨fun a xs q _ => ne a _ q (fun z => nomatch z), fun a xs q => ne a _ q (fun z => nomatch z), fun a o xs q => ne a _ q (by intro z; cases z; exact du), fun a o xs q => ne a _ q (by intro z; cases z; exact du)⟩
theorem Good.lock (g : Good M B H L A h env σ) (ea : L[n]? = some d) (eh : h[n]? = some (.dct kvs)) (e : H d = some u) (du : isDO u) : Good M B (upd H d (.frz od u)) L A (h.set n (.lck kvs)) env σ := by
  obtain ⟨u', e', du', k⟩ := (g.obj n _ d eh ea).dobj
  rw [e] at e'
  cases e'
  refine g.setL ea e (by rintro xs rfl; exact du) (by rintro o w rfl; exact du) ((k _ L _ .nil (fun ks r => ?_) fun xs r => ?_).2 od upd_same)
  · exact r.stayQ (lockQ e du)
  · exact r.stayQ (lockQ e du)
theorem Good.unlock (g : Good M B H L A h env σ) (ea : L[n]? = some d) (eh : h[n]? = some (.lck kvs)) (e : H d = some (.frz od u)) (du : isDO u) (nf : ∀ o w, B.H0 d ≠ some (.frz o w)) : Good M B (upd H d u) L A (h.set n (.dct kvs)) env σ := by
  have hn : n < L.length := (List.getElem?_eq_some_iff.mp ea).1
  have hh : n < h.length := by rw [← g.len]; exact hn
  have dL : d ∈ L := List.mem_of_getElem? ea
  have st : StayQ H (Zf B L A) (upd H d u) := unlockQ e du
  have ne : ∀ b o, H b = some o → b ≠ d → (upd H d u) b = some o := fun b o e q => by rw [upd_ne q]; exact e
  have dm : ∀ b o, H b = some o → ∃ o', (upd H d u) b = some o' := fun b o eb => by
    by_cases q : b = d
    · subst q; exact ⟨_, upd_same⟩
    · exact ⟨o, ne b o eb q⟩
  have md : MOk M (upd H d u) L (Zf B L A) d (.dct kvs) := by
    cases g.obj n _ d eh ea with
    | lK e2 r => rw [e] at e2; cases e2; exact .dK upd_same (r.stayQ st)
    | lN e2 l2 r => rw [e] at e2; cases e2; exact .dN upd_same l2 (r.stayQ st)
  obtain ⟨N0, e0, n0⟩ := g.lpre
  refine ⟨by simp [g.len], g.nd, fun k o b e1 e2 => ?_, g.ls, g.lpre, fun b o eb hl => ?_, fun b xs eb => ?_, fun b o w eb => ?_, fun b o eb => ?_, fun b eb => ?_, g.alen, g.slen, g.own, g.odis, fun j sl es => ?_⟩
  · by_cases hk : k = n
    · subst hk
      rw [ea] at e2; cases e2
      rw [List.getElem?_set_self hh] at e1; cases e1
      exact md
    · rw [List.getElem?_set_ne (Ne.symm hk)] at e1
      have hb : b ≠ d := fun z => by
        subst z
        exact hk ((List.getElem?_inj (List.getElem?_eq_some_iff.mp e2).1 g.nd).mp (e2.trans ea.symm))
      exact (g.obj k o b e1 e2).stayQ st (upd_ne hb)
  · have hb : b ≠ d := fun z => by
      subst z
      rw [e0] at dL
      rcases List.mem_append.mp dL with q | q
      · exact hl q
      · rw [n0 _ q] at eb; cases eb
    exact ne _ _ (g.base b o eb hl) hb
  · exact st.tups b xs (g.btup b xs eb)
  · exact ne _ _ (g.bfrz b o w eb) (fun z => by subst z; exact nf o w eb)
  · obtain ⟨o', e'⟩ := g.dom b o eb; exact dm _ _ e'
  · obtain ⟨o', e'⟩ := g.sdom b eb; exact dm _ _ e'
  · cases g.slot j sl es with
    | u q => exact .u q
    | v q1 q2 q3 => exact .v q1 q2 (q3.stayQ st)
    | o q1 q2 q3 q4 => exact .o q1 q2 (ne _ _ q3 fun z => (g.own j _ q1).1 (z ▸ dL)) (q4.stayQ st)
end
/-! ### the walk -/
def Itn (P : Program) (w : World) (d : Addr) (o : Obj) (xs : List (NestedKey × Addr × Value)) (ep : Nat) : It :=
  ⟨fun i H => H d = some (.frz o (nestO P w d xs ep)) ∧ i < xs.length, fun i H x H' => H' = H ∧ ∃ y, xs[i]? = some y ∧ x = .ref y.2.1, fun i H => H d = some (.frz o (nestO P w d xs ep)) ∧ xs.length ≤ i⟩
section
variable {X : Cx} {pins : List (Addr × Obj)} {σ : L2.St} {H : Hp} {s : Shared} {d : Addr} {o : Obj} {xs : List (NestedKey × Addr × Value)} {ep : Nat}
theorem frzN (I : Inv X pins σ H s) (h : H d = some (.frz o (nestO X.prog X.w d xs ep))) :
    (d == sysModules) = false ∧ s.heap.get? d = some o ∧ o.ExactDict ∧ ∃ es, o.data = .dict es ep ∧ es.size = xs.length ∧ ∀ (i : Nat) y, xs[i]? = some y → ∃ en, es[i]? = some en ∧ en.key = .ref y.2.1 := by
  obtain ⟨hd, ⟨z1, z2, z3, o', es, q1, q2, q3, q4⟩, _⟩ := I.hok d _ h
  rw [hd] at q1
  cases q1
  have hs := size_of_entries q4
  refine ⟨z1, hd, q2, es, q3, hs, fun i y hy => ?_⟩
  have e := entry_at q4 i
  rw [hy, Option.map_some] at e
  exact ⟨_, e, rfl⟩
theorem turn_keysN {P : Program} {w : World} {K : PySem.W.Frag} {tg : Expr} {es : Array DictEntry} (it : Addr) (hod : o.data = .dict es ep) : Turn P w K tg (Itn P w d o xs ep) [it] it (fun i h => h.IsKeyIter it d i xs.length ep) where
  mem := by simp
  obj := fun i h st b hb => by
    have e : b = it := by simpa using hb
    subst e
    obtain ⟨oi, e, c, dd⟩ := st
    exact ⟨oi, e, fun v z => by rw [dd] at z; cases z⟩
  keep := fun i h h' st k => st.at fun oi e => k it (by simp) oi e
  item := by
    intro X hP hw hK hc i pins s σ H E I hf st hg
    subst hP hw hK
    obtain ⟨hd, hi⟩ := hg
    obtain ⟨f0, f1, f2, f3, f4, f5⟩ := hf it (by simp)
    obtain ⟨hs, hgd, hx, es', hdt, hsz, ent⟩ := frzN I hd
    obtain ⟨y, hy⟩ : ∃ y, xs[i]? = some y := ⟨xs[i], List.getElem?_eq_getElem hi⟩
    obtain ⟨en, hen, hkey⟩ := ent i y hy
    refine next_key_item st hgd hdt hsz hen fun h' st' sb => ?_
    have I1 : Inv X pins σ H { s with heap := h' } := I.turned (t' := s.toks) (fun b ob hb e => (sb.2 b hb).trans e) f0 f1 f3 f4 f5
    obtain ⟨oi, e, c, dd⟩ := id st'
    exact ⟨en.key, rfl, go_of (s := { s with heap := h' }) e c dd (by decide) ⟨.ref y.2.1, H, I1, hkey, ⟨rfl, y, hy, rfl⟩, st', fun b hb => (hf b hb).1⟩⟩
  done := by
    intro X hP hw hK hc i pins s σ H E I hf st hg
    subst hP hw hK
    obtain ⟨hd, hi⟩ := hg
    obtain ⟨f0, f1, f2, f3, f4, f5⟩ := hf it (by simp)
    obtain ⟨hs, hgd, hx, es', hdt, hsz, ent⟩ := frzN I hd
    exact next_key_end (I.ok.hd hc) st hgd hdt hsz hi fun h' eb => ⟨rfl, I.turned (t' := s.toks) (fun b ob hb e => eb b ob hb e) f0 f1 f3 f4 f5⟩
  self := fun A i s Q E st h => wpAny_pyIter_keyiter st h
end
section
variable {X : Cx} {M : MK} {W : WX}
def iKeysU (P : Program) (w : World) (td : TE) : TI := fun σ H R => td σ H fun x H1 => ∃ d o, x = .ref d ∧ ((∃ kvs, H1 d = some (.frz o (.dK kvs)) ∧ R (Itk d o kvs) H1) ∨ ∃ xs ep, H1 d = some (.frz o (nestO P w d xs ep)) ∧ R (Itn P w d o xs ep) H1)
theorem pi_keysU {tg e : Expr} {td : TE} (he : PE X e td) : PI X tg e (iKeysU X.prog X.w td) := by
  refine ⟨fun pins s σ H R I h => ?_⟩
  refine thn (he.run pins s σ H _ I h) fun u s1 ⟨x, H1, I1, rx, d, o, ex, q⟩ => ?_
  subst ex
  obtain rfl : u = Value.ref d := rx
  rcases q with ⟨kvs, hd, q⟩ | ⟨xs, ep, hd, q⟩
  · obtain ⟨hs, hgd, hx, es, ep, vs, hdt, hsz, kv, hm⟩ := I1.frzK hd
    refine iter_keys hs hgd hx hdt (pi_one (tk := s1.toks) I1 _ (turn_keys _ hdt) ⟨_, Heap.get?_push_size _ rfl, rfl, ?_⟩ q)
    rw [hsz] <;> rfl
  · obtain ⟨hs, hgd, hx, es, hdt, hsz, ent⟩ := frzN I1 hd
    refine iter_keys hs hgd hx hdt (pi_one (tk := s1.toks) I1 _ (turn_keysN _ hdt) ⟨_, Heap.get?_push_size _ rfl, rfl, ?_⟩ q)
    rw [hsz] <;> rfl
/-- the keys of a locked dict -/
def keysL (kvs : KVs) : List D := kvs.map fun kv => .py kv.1
def lckAt (h : MH) : Option D → Option (Nat × KVs)
  | some (.loc n) => match h[n]? with
    | some (.lck kvs) => some (n, kvs)
    | _ => none
  | _ => none
theorem lckAt_some {h : MH} {o : Option D} {n : Nat} {kvs : KVs} (e : lckAt h o = some (n, kvs)) : o = some (.loc n) ∧ h[n]? = some (.lck kvs) := by
  unfold lckAt at e
  split at e
  · split at e
    · rename_i q; cases e; exact ⟨rfl, q⟩
    · cases e
  · cases e
/-- what must stand while the keys are walked -/
def SrcK (M : MK) (d : Addr) (od : Obj) (ks : List (Key × V)) (kvs : KVs) : Hp → (Addr → Prop) → Prop := fun H Z => H d = some (.frz od (.dK ks)) ∧ DRelK M.K H Z kvs ks
def SrcN (M : MK) (d : Addr) (od : Obj) (xs : List (NestedKey × Addr × Value)) (ep : Nat) (kvs : KVs) : Hp → (Addr → Prop) → Prop := fun H Z => H d = some (.frz od (nestO M.prog M.w d xs ep)) ∧ DRelN M.K H Z kvs xs
theorem paired_at {α β : Type} {F : α → β → Prop} : ∀ {l : List α} {m : List β} {i : Nat} {a : α}, Paired F l m → l[i]? = some a → ∃ b, m[i]? = some b ∧ F a b
  | _, _, _, _, .nil, e => by simp at e
  | _, _, 0, _, .cons r _, e => by simp at e; subst e; exact ⟨_, rfl, r⟩
  | _, _, i + 1, a, .cons _ t, e => by
    obtain ⟨b, h1, h2⟩ := paired_at (i := i) (a := a) t (by simpa using e)
    exact ⟨b, by simpa using h1, h2⟩
theorem keyOf_rel {K : PySem.W.Frag} {H : Hp} {Z : Addr → Prop} {d : PyData} {k : Key} (h : keyOf d = some k) (ok : ∀ x, d = .str x → sOk x = true) : RelP K H Z d (kV k) := by
  rcases keyOf_V h with ⟨i, rfl, rfl⟩ | ⟨x, rfl, rfl⟩
  · exact .int i
  · exact .str x (ok x rfl)
def sKs (kvs : KVs) : Bool := kvs.all fun kv => match kv.1 with
  | .str x => sOk x
  | _ => true
theorem wit_keysK {d : Addr} {od : Obj} {ks : List (Key × V)} {kvs : KVs} (hs : sKs kvs = true) : WIt M (Itk d od ks) (keysL kvs) (SrcK M d od ks kvs) := by
  rintro B H L A h env σ g ⟨e, r⟩ i
  have hl := Paired.length r
  refine ⟨fun hi => ⟨e, by unfold keysL at hi; rw [List.length_map] at hi; omega⟩, fun x hx => ?_⟩
  unfold keysL at hx
  rw [List.getElem?_map] at hx
  cases q : kvs[i]? with
  | none => rw [q] at hx; cases hx
  | some kv =>
    rw [q] at hx; cases hx
    obtain ⟨p, e1, e2, e3⟩ := paired_at r q
    have hi : i < ks.length := (List.getElem?_eq_some_iff.mp e1).1
    refine ⟨⟨e, hi⟩, fun v H' hy => ?_⟩
    obtain ⟨rfl, k, w, e4, rfl⟩ := hy
    rw [e1] at e4; cases e4
    refine ⟨Same.refl _, .py (keyOf_rel e2 fun x ex => ?_)⟩
    have := List.all_eq_true.mp hs kv (List.mem_of_getElem? q)
    rw [ex] at this
    exact this
theorem wit_keysN {d : Addr} {od : Obj} {xs : List (NestedKey × Addr × Value)} {ep : Nat} {kvs : KVs} : WIt M (Itn M.prog M.w d od xs ep) (keysL kvs) (SrcN M d od xs ep kvs) := by
  rintro B H L A h env σ g ⟨e, r⟩ i
  have hl := Paired.length r
  refine ⟨fun hi => ⟨e, by unfold keysL at hi; rw [List.length_map] at hi; omega⟩, fun x hx => ?_⟩
  unfold keysL at hx
  rw [List.getElem?_map] at hx
  cases q : kvs[i]? with
  | none => rw [q] at hx; cases hx
  | some kv =>
    rw [q] at hx; cases hx
    obtain ⟨p, e1, e2, e3, e4, e5⟩ := paired_at r q
    have hi : i < xs.length := (List.getElem?_eq_some_iff.mp e1).1
    refine ⟨⟨e, hi⟩, fun v H' hy => ?_⟩
    obtain ⟨rfl, y, e6, rfl⟩ := hy
    rw [e1] at e6; cases e6
    exact ⟨Same.refl _, .py e4⟩
theorem srcK_stay {d : Addr} {od : Obj} {ks : List (Key × V)} {kvs : KVs} : ∀ H Z H' Z', Stay H Z H' Z' → SrcK M d od ks kvs H Z → SrcK M d od ks kvs H' Z' := fun _ _ _ _ s q => ⟨s.frzs _ _ _ q.1, q.2.stay s⟩
theorem srcN_stay {d : Addr} {od : Obj} {xs : List (NestedKey × Addr × Value)} {ep : Nat} {kvs : KVs} : ∀ H Z H' Z', Stay H Z H' Z' → SrcN M d od xs ep kvs H Z → SrcN M d od xs ep kvs H' Z' := fun _ _ _ _ s q => ⟨s.frzs _ _ _ q.1, q.2.stay s⟩
/-- texts as keys are looked at -/
def semKeysS (i : Nat) : EvF (List D) := fun env h => match lckAt h (look env i) with
  | some (_, kvs) => if sKs kvs = true then .ok (keysL kvs) h else .bad
  | none => .bad
theorem i_keys (of : Of M X) {i : Nat} {x : Str} {tg : Expr} {pos : Pos} (hN : X.N[i]? = some x) (hv : Vis X.env.scope x) (hd : (x == ("__debug__" : Str)) = false) (hcd : (x == ("__classdict__" : Str)) = false) : PI X tg (.Name x pos) (kI M W (semKeysS i)) := by
  refine PI.mono (pi_keysU (pe_var hN hv hd hcd)) fun σ H Q ⟨B, L, A, h, env, g, p⟩ => ?_
  unfold semKeysS at p
  cases e : lckAt h (look env i) with
  | none => rw [e] at p; exact p.elim
  | some nk =>
    obtain ⟨n, kvs⟩ := nk
    rw [e] at p
    dsimp only at p
    by_cases hs : sKs kvs = true
    · rw [if_pos hs] at p
      obtain ⟨e1, e2⟩ := lckAt_some e
      unfold look at e1
      cases es : env[i]? with
      | none => rw [es] at e1; cases e1
      | some sl =>
        rw [es] at e1
        cases g.slot i sl es with
        | u q => cases e1
        | o q1 q2 q3 q4 => cases e1
        | v q1 q2 q3 =>
          cases e1
          cases q3 with
          | @loc _ a ea =>
            refine ⟨_, q2, a, ?_⟩
            cases g.obj n _ a e2 ea with
            | @lK _ ks od h1 h2 => exact ⟨od, rfl, .inl ⟨ks, h1, p _ _ _ (Ext.refl H L) g ⟨SrcK M a od ks kvs, wit_keysK hs, srcK_stay, h1, h2⟩⟩⟩
            | @lN _ xs ep od h1 h2 h3 =>
              have w := wit_keysN (M := M) (d := a) (od := od) (xs := xs) (ep := ep) (kvs := kvs)
              rw [of.prog, of.w] at w
              have h1' := h1
              rw [of.prog, of.w] at h1'
              exact ⟨od, rfl, .inr ⟨xs, ep, h1', p _ _ _ (Ext.refl H L) g ⟨SrcN M a od xs ep kvs, w, srcN_stay, h1, h3⟩⟩⟩
    · rw [if_neg hs] at p; exact p.elim
/-! ### the lock -/
def dctO (h : MH) : Option D → Option (Nat × KVs)
  | some (.loc n) => match h[n]? with
    | some (.dct kvs) => some (n, kvs)
    | _ => none
  | _ => none
theorem dctO_some {h : MH} {o : Option D} {n : Nat} {kvs : KVs} (e : dctO h o = some (n, kvs)) : o = some (.loc n) ∧ h[n]? = some (.dct kvs) := by
  unfold dctO at e
  split at e
  · split at e
    · rename_i q; cases e; exact ⟨rfl, q⟩
    · cases e
  · cases e
/-- still locked? then it is given free -/
def freeD (n : Nat) (h : MH) : Option MH := match h[n]? with
  | some (.lck kvs) => some (h.set n (.dct kvs))
  | _ => none
def unlkS (n : Nat) : OutS → OutS
  | .nx env h => match freeD n h with
    | some h' => .nx env h'
    | none => .bad
  | .rt d h => match freeD n h with
    | some h' => .rt d h'
    | none => .bad
  | _ => .bad
def unlkE (n : Nat) : Out D → Out D
  | .ok d h => match freeD n h with
    | some h' => .ok d h'
    | none => .bad
  | _ => .bad
theorem freeD_some {n : Nat} {h h' : MH} (e : freeD n h = some h') : ∃ kvs', h[n]? = some (.lck kvs') ∧ h' = h.set n (.dct kvs') := by
  unfold freeD at e
  split at e
  · rename_i kvs' q
    cases e; exact ⟨kvs', q, rfl⟩
  · cases e
def semLockS (i : Nat) (f : EvS) : EvS := fun env h => match dctO h (look env i) with
  | some (n, kvs) => unlkS n (f env (h.set n (.lck kvs)))
  | none => .bad
def semLockE (i : Nat) (f : EvF D) : EvF D := fun env h => match dctO h (look env i) with
  | some (n, kvs) => unlkE n (f env (h.set n (.lck kvs)))
  | none => .bad
theorem dctO_at {B : Bs} {A : List (Option Addr)} {H : Hp} {L : List Addr} {h : MH} {env : KF.Env} {σ : L2.St} {i n : Nat} {kvs : KVs} (g : Good M B H L A h env σ) (e : dctO h (look env i) = some (n, kvs)) : ∃ a u, L[n]? = some a ∧ h[n]? = some (.dct kvs) ∧ H a = some u ∧ isDO u := by
  obtain ⟨e1, e2⟩ := dctO_some e
  have hn : n < L.length := by rw [g.len]; exact (List.getElem?_eq_some_iff.mp e2).1
  have ea : L[n]? = some L[n] := List.getElem?_eq_getElem hn
  obtain ⟨u, eu, du, _⟩ := (g.obj n _ _ e2 ea).dobj
  exact ⟨_, u, ea, e2, eu, du⟩
theorem lock_nof {B : Bs} {A : List (Option Addr)} {H : Hp} {L : List Addr} {h : MH} {env : KF.Env} {σ : L2.St} {a : Addr} {u : HO} (g : Good M B H L A h env σ) (e : H a = some u) (du : isDO u) : ∀ o w, B.H0 a ≠ some (.frz o w) := fun o w z => by
  have := g.bfrz a o w z
  rw [e] at this
  cases this
  exact du
theorem s_lock {st : Stmt} {f : EvS} {i : Nat} (p : PS X st (kS M W f)) : PS X st (kS M W (semLockS i f)) := by
  refine PS.mono (ps_lock p) fun De σ H ⟨B, L, A, h, env, g, p⟩ => ?_
  unfold semLockS at p
  cases e : dctO h (look env i) with
  | none => rw [e] at p; exact p.elim
  | some nk =>
    obtain ⟨n, kvs⟩ := nk
    rw [e] at p
    dsimp only at p
    obtain ⟨a, u, ea, eh, eu, du⟩ := dctO_at g e
    have nf := lock_nof g eu du
    refine ⟨a, u, eu, du.mut, fun od => ?_⟩
    have g1 : Good M B (upd H a (.frz od u)) L A (h.set n (.lck kvs)) env σ := g.lock ea eh eu du
    refine ⟨B.anc A (upd H a (.frz od u)) L, L, A, h.set n (.lck kvs), env, g1.anchor, ?_⟩
    have aL : a ∈ L := List.mem_of_getElem? ea
    have aA : some a ∉ A := fun z => by
      obtain ⟨j, hj⟩ := List.getElem?_of_mem z
      exact (g.own j a hj).1 aL
    have key : ∀ {H' L' A' h' env' σ'}, Good M (B.anc A (upd H a (.frz od u)) L) H' L' A' h' env' σ' → H' a = some (.frz od u) ∧ L'[n]? = some a := fun g' => by
      refine ⟨g'.bfrz a od u (anc_of aA upd_same), ?_⟩
      obtain ⟨N, eN, _⟩ := g'.lpre
      rw [eN]
      exact pre_get ea
    cases eo : f env (h.set n (.lck kvs)) with
    | bad => rw [eo] at p; exact p.elim
    | exc c fs env' h' => rw [eo] at p; exact p.elim
    | nx env' h' =>
      rw [eo] at p
      have p : PostS M B W De (match freeD n h' with
        | some h' => .nx env' h'
        | none => .bad) := p
      intro σ' H' L' A' g'
      obtain ⟨k1, k2⟩ := key g'
      refine ⟨k1, ?_⟩
      cases ef : freeD n h' with
      | none => rw [ef] at p; exact p.elim
      | some h2 =>
        rw [ef] at p
        obtain ⟨kvs', eq, rfl⟩ := freeD_some ef
        exact p _ _ _ _ ((g1.unanchor g').unlock k2 eq k1 du nf)
    | rt v h' =>
      rw [eo] at p
      have p : PostS M B W De (match freeD n h' with
        | some h' => .rt v h'
        | none => .bad) := p
      intro v' H' L' A' env' σ' g' r
      obtain ⟨k1, k2⟩ := key g'
      refine ⟨k1, ?_⟩
      cases ef : freeD n h' with
      | none => rw [ef] at p; exact p.elim
      | some h2 =>
        rw [ef] at p
        obtain ⟨kvs', eq, rfl⟩ := freeD_some ef
        exact p _ _ _ _ _ _ ((g1.unanchor g').unlock k2 eq k1 du nf) (RelD.stayQ (unlockQ k1 du) r)
theorem Ext.unlock {H H1 : Hp} {L L1 : List Addr} {a : Addr} {od : Obj} {u : HO} (x : Ext (upd H a (.frz od u)) L H1 L1) (e : H a = some u) (du : isDO u) (aL : a ∈ L) : Ext H L (upd H1 a u) L1 := by
  have ne : ∀ b o, H b = some o → b ≠ a → (upd H a (.frz od u)) b = some o := fun b o eb q => by rw [upd_ne q]; exact eb
  refine ⟨fun b o eb hl => ?_, fun b xs eb => ?_, fun b o w eb => ?_, ?_, fun b o eb => ?_⟩
  · have q : b ≠ a := fun z => hl (z ▸ aL)
    rw [upd_ne q]
    exact x.keep b o (ne b o eb q) hl
  · have q : b ≠ a := fun z => by subst z; rw [e] at eb; cases eb; exact du
    rw [upd_ne q]
    exact x.tups b xs (ne b _ eb q)
  · have q : b ≠ a := fun z => by subst z; rw [e] at eb; cases eb; exact du
    rw [upd_ne q]
    exact x.frzs b o w (ne b _ eb q)
  · obtain ⟨N, eN, nN⟩ := x.pre
    refine ⟨N, eN, fun b hb => ?_⟩
    have := nN b hb
    by_cases q : b = a
    · subst q; rw [upd_same] at this; cases this
    · rw [upd_ne q] at this; exact this
  · by_cases q : b = a
    · subst q; exact ⟨_, upd_same⟩
    · rw [upd_ne q]
      exact x.dom b o (ne b o eb q)
theorem upd_comm {H : Hp} {a b : Addr} {o o' : HO} (ne : a ≠ b) : upd (upd H a o) b o' = upd (upd H b o') a o := by
  funext c
  by_cases h1 : c = a
  · subst h1; rw [upd_ne ne, upd_same, upd_same]
  · by_cases h2 : c = b
    · subst h2; rw [upd_same, upd_ne h1, upd_same]
    · rw [upd_ne h2, upd_ne h1, upd_ne h1, upd_ne h2]
theorem k_lockF {e : Expr} {f : EvF D} {i : Nat} (p : PE X e (kF M W f)) : PE X e (kF M W (semLockE i f)) := by
  refine PE.mono (pe_lock p) fun σ H Q ⟨B, L, A, h, env, g, p⟩ => ?_
  unfold semLockE at p
  cases e : dctO h (look env i) with
  | none => rw [e] at p; exact p.elim
  | some nk =>
    obtain ⟨n, kvs⟩ := nk
    rw [e] at p
    dsimp only at p
    obtain ⟨a, u, ea, eh, eu, du⟩ := dctO_at g e
    have nf := lock_nof g eu du
    have aL : a ∈ L := List.mem_of_getElem? ea
    refine ⟨a, u, eu, du.mut, fun od => ?_⟩
    have g1 : Good M B (upd H a (.frz od u)) L A (h.set n (.lck kvs)) env σ := g.lock ea eh eu du
    refine ⟨B, L, A, h.set n (.lck kvs), env, g1, ?_⟩
    cases eo : f env (h.set n (.lck kvs)) with
    | bad => rw [eo] at p; exact p.elim
    | exc c fs h' => rw [eo] at p; exact p.elim
    | ok d h' =>
      rw [eo] at p
      have p : PostFr M B A env σ W H L Q (match freeD n h' with
        | some h' => .ok d h'
        | none => .bad) := p
      intro ps H1 L1 b vs ed x1 g' nb r
      subst ed
      cases ef : freeD n h' with
      | none => rw [ef] at p; exact p.elim
      | some h2 =>
        rw [ef] at p
        obtain ⟨kvs', eq, rfl⟩ := freeD_some ef
        have k1 : H1 a = some (.frz od u) := x1.frzs a od u upd_same
        have k2 : L1[n]? = some a := by
          obtain ⟨N, eN, _⟩ := x1.pre
          rw [eN]; exact pre_get ea
        have ab : a ≠ b := fun z => by subst z; rw [k1] at nb; cases nb
        refine ⟨by rw [upd_ne ab]; exact k1, ?_⟩
        rw [upd_comm (Ne.symm ab)]
        exact p ps (upd H1 a u) L1 b vs rfl (x1.unlock eu du aL) (g'.unlock k2 eq k1 du nf) (by rw [upd_ne (Ne.symm ab)]; exact nb) (r.stayQ (unlockQ k1 du))
end
end KF
set_option Elab.async false
set_option linter.all false
set_option maxRecDepth 100000
set_option maxHeartbeats 4000000
/-! KF, part I: comprehensions of two clauses. -/
namespace KF
open PySem PySem.Spec PyProof.Rows L2
section
variable {M : MK} {B : Bs} {A : List (Option Addr)} {H1 : Hp} {L1 : List Addr} {ad : Addr}
/-- where a comprehension stands: the list at ad holds acc -/
structure At2 (M : MK) (B : Bs) (A : List (Option Addr)) (H1 : Hp) (L1 : List Addr) (ad : Addr) (H : Hp) (L : List Addr) (h : MH) (acc : List PyData) : Prop where
  ext : Ext H1 L1 H L
  lst : ∃ us, H ad = some (.lst us) ∧ RelPs M.K H (Zf (B.plus ad) L A) acc us
/-- all frames that stood stand -/
def Kept (M : MK) (B : Bs) (A : List (Option Addr)) (ad : Addr) (H0 : Hp) (L0 : List Addr) (H : Hp) (L : List Addr) (h : MH) : Prop := ∀ env σ h', Good M (B.plus ad) H0 L0 A h' env σ → Good M (B.plus ad) H L A h env σ
theorem inner_loop (n0 : B.H0 ad = none) (nD : H1 ad = none) {J : It} {xs : List D} {Src : Hp → (Addr → Prop) → Prop} (wi : WIt M J xs Src) (st : ∀ H Z H' Z', Stay H Z H' Z' → Src H Z → Src H' Z') {ts vs : List Nat} {g : TgF} {ft : EvF Bool} {fe : EvF D} {ew : KF.Env} {ds acc : List PyData} {h0 h2 : MH} {H0 : Hp} {L0 : List Addr} {σ : L2.St}
    (sub : ∀ i ∈ ts, i ∈ vs) (hn : ∀ i ∈ vs, A[i]? = some none) (gd : Good M (B.plus ad) H0 L0 A h0 ew (L2.wipe σ vs)) (at0 : At2 M B A H1 L1 ad H0 L0 h0 acc) (src : Src H0 (Zf (B.plus ad) L0 A)) (el : lcF g ft fe ew xs h0 = .ok ds h2) (hz : acc.length + ds.length ≤ sizeLine)
    {Fin : Hp → Prop} (fin : ∀ H L, At2 M B A H1 L1 ad H L h2 (acc ++ ds) → Kept M B A ad H0 L0 H L h2 → Fin H) :
    ∃ Wv : Nat → Nat → Hp → Prop, (∃ m, Wv 0 m H0) ∧ ∀ i m H, Wv i m H →
      (J.stop i H ∧ Fin H) ∨ (J.go i H ∧ ∃ Nx : Hp → Prop, (∀ H', Nx H' → ∃ m', m' < m ∧ Wv (i + 1) m' H') ∧ ∀ x H', J.yld i H x H' → kG M ts g x (L2.wipe σ vs) H' fun σ2 H2 => L2.wipe σ2 vs = L2.wipe σ vs ∧ kT M WX0 ft σ2 H2 fun b H3 =>
        if b = true then kE M .n WX0 fe σ2 H3 fun y H4 => ∃ acc, H4 ad = some (.lst acc) ∧ acc.length < sizeLine ∧ Nx (upd H4 ad (.lst (acc ++ [y]))) else Nx H3) := by
  have sD : (B.plus ad).S ad := .inr rfl
  refine ⟨fun i m H => m = xs.length - i ∧ i ≤ xs.length ∧ ∃ L h mid rest, Kept M B A ad H0 L0 H L h ∧ At2 M B A H1 L1 ad H L h (acc ++ mid) ∧ Src H (Zf (B.plus ad) L A) ∧ lcF g ft fe ew (xs.drop i) h = .ok rest h2 ∧ mid ++ rest = ds,
    ⟨xs.length, by simp, Nat.zero_le _, L0, h0, [], ds, fun env σ h' q => ⟨gd.len, gd.nd, gd.obj, q.ls, q.lpre, q.base, q.btup, q.bfrz, q.dom, q.sdom, q.alen, q.slen, q.own, q.odis, q.slot⟩, by rw [List.append_nil]; exact at0, src, el, rfl⟩, ?_⟩
  rintro i m H ⟨rfl, hi, L, h, mid, rest, kp, a', src', el', ea⟩
  have g' := kp _ _ _ gd
  obtain ⟨us, eD, r'⟩ := a'.lst
  obtain ⟨w1, w2⟩ := wi _ H L A h ew _ g' src' i
  have dL : ad ∉ L := fun z => g'.ls ad z sD
  by_cases hl : i < xs.length
  · obtain ⟨x, hx⟩ : ∃ x, xs[i]? = some x := ⟨_, List.getElem?_eq_getElem hl⟩
    obtain ⟨go, yld⟩ := w2 x hx
    have ed : xs.drop i = x :: xs.drop (i + 1) := by
      rw [List.drop_eq_getElem_cons hl]
      rw [List.getElem?_eq_getElem hl] at hx
      cases hx; rfl
    rw [ed] at el'
    refine .inr ⟨go, fun H' => ∃ L h mid rest, Kept M B A ad H0 L0 H' L h ∧ At2 M B A H1 L1 ad H' L h (acc ++ mid) ∧ Src H' (Zf (B.plus ad) L A) ∧ lcF g ft fe ew (xs.drop (i + 1)) h = .ok rest h2 ∧ mid ++ rest = ds, fun H' z => ⟨xs.length - (i + 1), by omega, rfl, hl, z⟩, fun v H' hy => ?_⟩
    obtain ⟨sm, r⟩ := yld v H' hy
    unfold lcF at el'
    cases eg : g x ew with
    | none => rw [eg] at el'; cases el'
    | some env1 =>
      rw [eg] at el'
      refine ⟨B.plus ad, L, A, h, ew, x, g'.same sm, r, env1, eg, fun σ2 A2 up g2 => ?_⟩
      cases up.same sub hn
      refine ⟨up.wiped sub, ?_⟩
      obtain ⟨b, h3, et, el2⟩ := Out.nx_ok el'
      refine ⟨B.plus ad, L, A, h, env1, g2, ?_⟩
      rw [et]
      intro b' H3 L3 x3 g3 eb
      cases (show b = b' from eb)
      have xs3 : Ext H L H3 L3 := (Ext.same L sm).trans x3
      have eD3 : H3 ad = some (.lst us) := xs3.keep ad _ eD dL
      have r3 := r'.stay (Z' := Zf (B.plus ad) L3 A) xs3.stay
      cases b with
      | false =>
        simp only [Bool.false_eq_true, if_false] at el2 ⊢
        exact ⟨L3, h3, mid, rest, fun env σ h' q => (kp env σ h' q).leave xs3 g3, ⟨a'.ext.trans xs3, us, eD3, r3⟩, st _ _ _ _ xs3.stay src', el2, ea⟩
      | true =>
        simp only [if_true] at el2 ⊢
        obtain ⟨d, h4, ef, el3⟩ := Out.nx_ok el2
        refine ⟨B.plus ad, L3, A, h3, env1, g3, ?_⟩
        rw [ef]
        intro y H4 L4 x4 g4 r4
        cases d with
        | loc n => cases el3
        | scr n => cases el3
        | py d =>
          obtain ⟨ys, h5, el4, e5⟩ := Out.nx_ok el3
          cases e5
          have xs4 : Ext H L H4 L4 := xs3.trans x4
          have dL3 : ad ∉ L3 := fun z => g3.ls ad z sD
          have eD4 : H4 ad = some (.lst us) := x4.keep ad _ eD3 dL3
          have r5 : RelPs M.K H4 (Zf (B.plus ad) L4 A) (acc ++ (mid ++ [d])) (us ++ [y]) := by
            rw [← List.append_assoc]
            cases r4 with
            | py r4 => exact (r3.stay (Z' := Zf (B.plus ad) L4 A) x4.stay).append (.cons r4 .nil)
          refine ⟨us, eD4, ?_, L4, h4, mid ++ [d], ys, fun env σ h' q => ((kp env σ h' q).leave xs4 g4).setS sD n0 eD4, ⟨(a'.ext.trans xs4).updD nD, us ++ [y], upd_same, r5.stay (setS_stay sD eD4)⟩, st _ _ _ _ (setS_stay sD eD4) (st _ _ _ _ xs4.stay src'), el4, by rw [List.append_assoc]; exact ea⟩
          have hlen : mid.length < ds.length := by rw [← ea, List.length_append, List.length_cons]; omega
          rw [← r'.length, List.length_append]; omega
  · have ei : i = xs.length := by omega
    subst ei
    rw [List.drop_length] at el'
    cases el'
    rw [List.append_nil] at ea
    subst ea
    exact .inl ⟨w1 (Nat.le_refl _), fin H L a' kp⟩
end
def lc2F (g : TgF) (fi1 : EvF (List D)) (g1 : TgF) (vs1 : List Nat) (ft : EvF Bool) (fe : EvF D) (env : KF.Env) : List D → MH → Out (List PyData)
  | [], h => .ok [] h
  | x :: r, h => match g x env with
    | none => .bad
    | some env1 => (fi1 env1 h).nx fun ys h1 => match wipeE env1 vs1 with
      | none => .bad
      | some ew1 => (lcF g1 ft fe ew1 ys h1).nx fun zs h2 => (lc2F g fi1 g1 vs1 ft fe env r h2).nx fun ws h3 => .ok (zs ++ ws) h3
def semLc2 (vs vs1 : List Nat) (fi : EvF (List D)) (g : TgF) (fi1 : EvF (List D)) (g1 : TgF) (ft : EvF Bool) (fe : EvF D) : EvF D := fun env h => (fi env h).bind fun xs h1 => match wipeE env vs with
  | none => .bad
  | some ew => (lc2F g fi1 g1 vs1 ft fe ew xs h1).nx mkL
section
variable {M : MK} {B : Bs} {A : List (Option Addr)} {H1 : Hp} {L1 : List Addr} {h1 : MH} {env : KF.Env} {σ : L2.St} {ad : Addr} {W : WX}
theorem lc2_go {J : It} {xs : List D} {Src : Hp → (Addr → Prop) → Prop} (wi : WIt M J xs Src) (st : ∀ H Z H' Z', Stay H Z H' Z' → Src H Z → Src H' Z') {ts ts1 vs vs1 : List Nat} {g g1 : TgF} {fi1 : EvF (List D)} {ft : EvF Bool} {fe : EvF D} {ew : KF.Env} {ds : List PyData} {h2 : MH} {Q : VK}
    (sub : ∀ i ∈ ts, i ∈ vs) (sub1 : ∀ i ∈ ts1, i ∈ vs1) (gd : Good M B H1 L1 A h1 env σ) (src : Src H1 (Zf B L1 A)) (ee : wipeE env vs = some ew) (el : lc2F g fi1 g1 vs1 ft fe ew xs h1 = .ok ds h2) (hz : ds.length ≤ sizeLine) (q : PostFr M B A env σ W H1 L1 Q (.ok (.py (.list ds)) h2)) (nD : H1 ad = none) :
    ∃ Wv : Nat → Nat → Hp → Prop, (∃ m, Wv 0 m (upd H1 ad (.lst []))) ∧ ∀ i m H, Wv i m H →
      (J.stop i H ∧ Q (.ref ad) H) ∨ (J.go i H ∧ ∃ Nx : Hp → Prop, (∀ H', Nx H' → ∃ m', m' < m ∧ Wv (i + 1) m' H') ∧ ∀ x H', J.yld i H x H' → kG M ts g x (L2.wipe σ vs) H' fun σ2 H2 => L2.wipe σ2 vs = L2.wipe σ vs ∧ kT M WX0 semYes σ2 H2 fun b H3 =>
        if b = true then kI M WX0 fi1 σ2 H3 fun J1 H4 => ∃ W1 : Nat → Nat → Hp → Prop, (∃ m, W1 0 m H4) ∧ ∀ j k H, W1 j k H →
          (J1.stop j H ∧ Nx H) ∨ (J1.go j H ∧ ∃ Nx1 : Hp → Prop, (∀ H', Nx1 H' → ∃ k', k' < k ∧ W1 (j + 1) k' H') ∧ ∀ x H', J1.yld j H x H' → kG M ts1 g1 x (L2.wipe σ2 vs1) H' fun σ3 H5 => L2.wipe σ3 vs1 = L2.wipe σ2 vs1 ∧ kT M WX0 ft σ3 H5 fun b H6 =>
            if b = true then kE M .n WX0 fe σ3 H6 fun y H7 => ∃ acc, H7 ad = some (.lst acc) ∧ acc.length < sizeLine ∧ Nx1 (upd H7 ad (.lst (acc ++ [y]))) else Nx1 H6)
        else Nx H3) := by
  have n0 : B.H0 ad = none := gd.free0 nD
  have sD : (B.plus ad).S ad := .inr rfl
  have g0 : Good M (B.plus ad) (upd H1 ad (.lst [])) L1 A h1 env σ := gd.plus nD
  obtain ⟨hn, gw⟩ := g0.wipe ee
  refine ⟨fun i m H => m = xs.length - i ∧ i ≤ xs.length ∧ ∃ L h acc rest, Good M (B.plus ad) H L A h ew (L2.wipe σ vs) ∧ At2 M B A H1 L1 ad H L h acc ∧ lc2F g fi1 g1 vs1 ft fe ew (xs.drop i) h = .ok rest h2 ∧ acc ++ rest = ds,
    ⟨xs.length, by simp, Nat.zero_le _, L1, h1, [], ds, gw, ⟨(Ext.refl H1 L1).updD nD, [], upd_same, .nil⟩, el, rfl⟩, ?_⟩
  rintro i m H ⟨rfl, hi, L, h, acc, rest, g', a', el', ea⟩
  obtain ⟨us, eD, r'⟩ := a'.lst
  have src' : Src H (Zf (B.plus ad) L A) := st _ _ _ _ (src_in a'.ext nD) src
  obtain ⟨w1, w2⟩ := wi _ H L A h ew _ g' src' i
  have dL : ad ∉ L := fun z => g'.ls ad z sD
  by_cases hl : i < xs.length
  · obtain ⟨x, hx⟩ : ∃ x, xs[i]? = some x := ⟨_, List.getElem?_eq_getElem hl⟩
    obtain ⟨go, yld⟩ := w2 x hx
    have ed : xs.drop i = x :: xs.drop (i + 1) := by
      rw [List.drop_eq_getElem_cons hl]
      rw [List.getElem?_eq_getElem hl] at hx
      cases hx; rfl
    rw [ed] at el'
    refine .inr ⟨go, fun H' => ∃ L h acc rest, Good M (B.plus ad) H' L A h ew (L2.wipe σ vs) ∧ At2 M B A H1 L1 ad H' L h acc ∧ lc2F g fi1 g1 vs1 ft fe ew (xs.drop (i + 1)) h = .ok rest h2 ∧ acc ++ rest = ds, fun H' z => ⟨xs.length - (i + 1), by omega, rfl, hl, z⟩, fun v H' hy => ?_⟩
    obtain ⟨sm, r⟩ := yld v H' hy
    unfold lc2F at el'
    cases eg : g x ew with
    | none => rw [eg] at el'; cases el'
    | some env1 =>
      rw [eg] at el'
      refine ⟨B.plus ad, L, A, h, ew, x, g'.same sm, r, env1, eg, fun σ2 A2 up g2 => ?_⟩
      cases up.same sub hn
      refine ⟨up.wiped sub, ?_⟩
      refine ⟨B.plus ad, L, A, h, env1, g2, ?_⟩
      intro b' H3 L3 x3 g3 eb
      cases (show true = b' from eb)
      rw [if_pos rfl]
      obtain ⟨ys, h3, ei, el2⟩ := Out.nx_ok el'
      have xs3 : Ext H L H3 L3 := (Ext.same L sm).trans x3
      refine ⟨B.plus ad, L3, A, h, env1, g3, ?_⟩
      rw [ei]
      intro J1 H4 L4 x4 g4 rr
      obtain ⟨Src1, wi1, st1, src1⟩ := rr
      have xs4 : Ext H L H4 L4 := xs3.trans x4
      cases ee1 : wipeE env1 vs1 with
      | none => rw [ee1] at el2; cases el2
      | some ew1 =>
        rw [ee1] at el2
        obtain ⟨zs, h5, el3, el4⟩ := Out.nx_ok el2
        obtain ⟨ws, h6, el5, el6⟩ := Out.nx_ok el4
        cases el6
        obtain ⟨hn1, gw1⟩ := g4.wipe ee1
        have hlen : acc.length + zs.length ≤ sizeLine := by
          have := congrArg List.length ea
          simp only [List.length_append] at this
          omega
        have a4 : At2 M B A H1 L1 ad H4 L4 h3 acc := ⟨a'.ext.trans xs4, us, xs4.keep ad _ eD dL, r'.stay xs4.stay⟩
        refine inner_loop n0 nD wi1 st1 sub1 hn1 gw1 a4 src1 el3 hlen fun H5 L5 a5 kp => ?_
        exact ⟨L5, h5, acc ++ zs, ws, kp _ _ _ (g'.leave xs4 g4), a5, el5, by rw [List.append_assoc]; exact ea⟩
  · have ei : i = xs.length := by omega
    subst ei
    rw [List.drop_length] at el'
    cases el'
    rw [List.append_nil] at ea
    subst ea
    exact .inl ⟨w1 (Nat.le_refl _), lc_fin gd nD q g' a'.ext eD r'⟩
variable {X : Cx}
theorem lc2_read {ts ts1 vs vs1 : List Nat} {fi fi1 : EvF (List D)} {g g1 : TgF} {ft : EvF Bool} {fe : EvF D} {Q : VK} {H : Hp} {σ : L2.St} (sub : ∀ i ∈ ts, i ∈ vs) (sub1 : ∀ i ∈ ts1, i ∈ vs1) (q : kF M W (semLc2 vs vs1 fi g fi1 g1 ft fe) σ H Q) : tLc2 (kI M W fi) (kG M ts g) (kT M WX0 semYes) (kI M WX0 fi1) (kG M ts1 g1) (kT M WX0 ft) (kE M .n WX0 fe) vs vs1 σ H Q := by
  obtain ⟨B, L, A, h, env, gd, p⟩ := q
  refine ⟨B, L, A, h, env, gd, ?_⟩
  unfold semLc2 at p
  cases e : fi env h with
  | exc c fs h1 => rw [e] at p; exact p
  | bad => rw [e] at p; exact p
  | ok xs h1 =>
    rw [e] at p
    intro J H1 L1 x1 g1' r ad nD
    obtain ⟨Src, wi, st, src⟩ := r
    have p : PostFr M B A env σ W H L Q (match wipeE env vs with
      | none => .bad
      | some ew => (lc2F g fi1 g1 vs1 ft fe ew xs h1).nx mkL) := p
    cases ee : wipeE env vs with
    | none => rw [ee] at p; exact p.elim
    | some ew =>
      rw [ee] at p
      have p : PostFr M B A env σ W H L Q ((lc2F g fi1 g1 vs1 ft fe ew xs h1).nx mkL) := p
      cases el : lc2F g fi1 g1 vs1 ft fe ew xs h1 with
      | exc c fs h1 => rw [el] at p; exact p.elim
      | bad => rw [el] at p; exact p.elim
      | ok ds h2 =>
        rw [el] at p
        have p : PostFr M B A env σ W H L Q (mkL ds h2) := p
        unfold mkL at p
        by_cases hf : fits ds.length = true
        · rw [if_pos hf] at p
          exact lc2_go wi st sub sub1 g1' src ee el (fits.ok hf) (PostFr.from x1 p) nD
        · rw [if_neg hf] at p; exact p.elim
theorem k_lc2 {elt tg iter tg1 iter1 : Expr} {ifs1 : List Expr} {scope : Scope} {own : List (Str × Nat)} {vs1 ts ts1 : List Nat} {pos : Pos} {fi fi1 : EvF (List D)} {g g1 : TgF} {ft : EvF Bool} {fe : EvF D} (hc : X.calm = true) (hN : X.N.Nodup) (hi : PI X tg iter (kI M W fi)) (ok : BlkOk X.N X.env.scope scope own) (hv : ∀ i ∈ vs1, i ∈ own.map (·.2))
    (sub : ∀ i ∈ ts, i ∈ own.map (·.2)) (sub1 : ∀ i ∈ ts1, i ∈ vs1) (hg : BlkPE X scope fun Y => PG Y tg (kG M ts g)) (hi1 : BlkPE X scope fun Y => PI Y tg1 iter1 (kI M WX0 fi1)) (hg1 : BlkPE X scope fun Y => PG Y tg1 (kG M ts1 g1)) (ht1 : BlkPE X scope fun Y => PTs Y ifs1 (kT M WX0 ft)) (he : BlkPE X scope fun Y => PE Y elt (kE M .n WX0 fe)) (hs : ∀ x, foldedSetIterable iter X.env x = pure x) (hs1 : ∀ env x, foldedSetIterable iter1 env x = pure x) :
    PE X (.ListComp elt [⟨tg, iter, [], 0⟩, ⟨tg1, iter1, ifs1, 0⟩] scope pos) (kF M W (semLc2 (own.map (·.2)) vs1 fi g fi1 g1 ft fe)) :=
  PE.mono (pe_lc2 hc hN hi ok hv hg (fun _ _ _ _ _ => k_yes) hi1 hg1 ht1 he hs hs1) fun _ _ _ q => lc2_read sub sub1 q
theorem k_setLc2 {i : Nat} {y : Str} {py : Pos} {elt tg iter tg1 iter1 : Expr} {ifs1 : List Expr} {scope : Scope} {own : List (Str × Nat)} {vs1 ts ts1 : List Nat} {pos spos : Pos} {fi fi1 : EvF (List D)} {g g1 : TgF} {ft : EvF Bool} {fe : EvF D} (hc : X.calm = true) (hN : X.N.Nodup) (hy : X.N[i]? = some y) (hyl : X.env.scope.names.lookup y = some .local)
    (hsw : swapsWith (.ListComp elt [⟨tg, iter, [], 0⟩, ⟨tg1, iter1, ifs1, 0⟩] scope pos) (some (.Name y py)) spos.line X.env = pure true) (hi : PI X tg iter (kI M W fi)) (ok : BlkOk X.N X.env.scope scope own) (hv : ∀ i ∈ vs1, i ∈ own.map (·.2))
    (sub : ∀ i ∈ ts, i ∈ own.map (·.2)) (sub1 : ∀ i ∈ ts1, i ∈ vs1) (hg : BlkPE X scope fun Y => PG Y tg (kG M ts g)) (hi1 : BlkPE X scope fun Y => PI Y tg1 iter1 (kI M WX0 fi1)) (hg1 : BlkPE X scope fun Y => PG Y tg1 (kG M ts1 g1)) (ht1 : BlkPE X scope fun Y => PTs Y ifs1 (kT M WX0 ft)) (he : BlkPE X scope fun Y => PE Y elt (kE M .n WX0 fe)) (hs : ∀ x, foldedSetIterable iter X.env x = pure x) (hs1 : ∀ env x, foldedSetIterable iter1 env x = pure x)
    : PS X (.Assign [.Name y py] (.ListComp elt [⟨tg, iter, [], 0⟩, ⟨tg1, iter1, ifs1, 0⟩] scope pos) spos) (tAsg (kF M W (semLc2 (own.map (·.2)) vs1 fi g fi1 g1 ft fe)) (gName i)) :=
  PS.mono (ps_setLc2 hc hN hy hyl hsw hi ok hv hg (fun _ _ _ _ _ => k_yes) hi1 hg1 ht1 he hs hs1) fun _ _ _ q => lc2_read sub sub1 q
end
end KF
set_option Elab.async false
set_option linter.all false
set_option maxRecDepth 100000
set_option maxHeartbeats 4000000
/-! KF, part J: sorted(set(xs)). -/
namespace KF
open PySem PySem.Spec PyProof.Rows L2
/-- a new, empty set -/
def fsO (w : World) : Obj := { cls := .type "set", dict := none, data := .set #[] 0 (.fresh 0 0 (!w.params.followText "set-order")) }
abbrev lsI (l : Addr) : Obj := { cls := .type "list_iterator", data := .fields #[.ref l, .int 0 0] }
section
variable {P : Program} {w : World} {A : Around} {E : Value → Shared → Prop} {s : Shared}
/-- set(xs) of a list, by what its loop does -/
theorem set_of_list {l : Addr} {items : Array Value} {Z : Heap → Prop} {Q : Value → Shared → Prop} (nh : A.handled = none) (il : s.heap.IsList l items)
    (loop : ∀ (B : Around) (J : Addr) (s0 : Shared) (R : Result → Shared → Prop), B.in1.handled = none → B.in1.units = A.units + 3 → J = s.heap.objs.size + 1 → s0 = { s with heap := (s.heap.push (fsO w)).push (lsI l) } →
      (∀ s', Moved [s.heap.objs.size, J] (fun a b => b = a) s0 s' → Z s'.heap → R (.ok (.ret .none)) s') → codeAny (model P w) B (.builtin "set.update.loop" ⟨[.ref s.heap.objs.size, .ref J], []⟩) R s0)
    (k : ∀ (h' : Heap) (tk : Nat), Z h' → (∀ b o, s.heap.get? b = some o → h'.get? b = some o) → Q (.ref s.heap.objs.size) { s with heap := h', toks := tk }) :
    wpAny (model P w) A (call (.type "set") [.ref l]) Q E s := by
  obtain ⟨cc, tl, m0⟩ := F.called_set.mro
  have m1 := F.called_set.made
  have m2 := F.called_set.sub
  refine wpAny_call (codeAny_of_tree (show wpAny _ _ (callAny (.type "set") _) _ _ _ from wpAny_pure ⟨Code.quiet_builtin _ (by decide +kernel), codeAny_builtin F.entry_type_call ?_⟩))
  rw [Around.under_plain (weight_type_call_type "set" [.ref l] []) rfl]
  have m3 := F.called_set.notType
  have m4 := F.called_set.canCreate
  have m5 := F.typeCall_set_1 (.ref l)
  repeat (any_goals first | assumption | wp_step)
  refine codeAny_mono (code_set_led1 (.ref l) (E := E) (Q₁ := fun ob s1 => ob = .ref s.heap.objs.size ∧ s1 = { s with heap := s.heap.push (fsO w) }) ⟨rfl, rfl⟩) fun r s1 hr => ?_
  cases r with
  | error e => exact hr
  | ok fl =>
    cases fl with
    | ret ob =>
      obtain ⟨rfl, rfl⟩ := hr
      have eS : (s.heap.push (fsO w)).get? s.heap.objs.size = some (fsO w) := Heap.get?_push_size _ rfl
      have tS : Shared.TypeIs { s with heap := s.heap.push (fsO w) } (.ref s.heap.objs.size) "set" := ⟨_, eS, rfl⟩
      have m6 := F.called_set.init.lookup
      have m7 := F.called_set.init.bind (.ref s.heap.objs.size)
      repeat (any_goals first | assumption | wp_step)
      refine codeAny_mono (codeAny_call_builtin (R := wants (fun r s2 => r = .none ∧ ∃ h' tk, s2 = { s with heap := h', toks := tk } ∧ Z h' ∧ (∀ b o, s.heap.get? b = some o → h'.get? b = some o)) E) F.called_set.init.plain F.entry_set_init (check_set_init_1 tS ?_)) fun r2 s2 hr2 => ?_
      · obtain ⟨ol, q1, q2, nl, q3⟩ := il
        obtain ⟨oc, od, odt, osl⟩ := ol
        simp only at q2 q3
        subst q2 q3
        have q4 : (s.heap.push (fsO w)).get? l = some { cls := .type "list", dict := od, data := .seq items nl, slots := osl } := Heap.get?_push_of_some _ q1
        have m8 := F.sub_list_set
        have m9 := F.sub_list_frozenset
        have ne : (Value.type "list" == Value.type "dict") = false := by decide
        have q5 : (s.heap.push (fsO w)).IsList l items := ⟨_, q4, rfl, nl, rfl⟩
        unfold Builtin.«set.__init__» noKeywords Builtin.Frozenset.updateFrom
        generalize hPI : pyIter = PI
        wp_walk
        subst hPI
        refine wpAny_pyIter_list q5 (wpAny_bind (wpAny_runValue ?_))
        have sz : (s.heap.push (fsO w)).objs.size = s.heap.objs.size + 1 := Heap.size_push ..
        refine loop _ _ _ _ (by simp [nh]) rfl sz rfl fun s' hm hz => ?_
        rw [sz] at hm
        obtain ⟨h', g2, d', tk', os'⟩ := s'
        have e1 : g2 = s.gens := hm.gens
        have e2 : d' = s.drawn := hm.drawn
        have e3 : os' = s.os := hm.os
        subst e1 e2 e3
        refine wpAny_pure ?_
        show wpAny _ _ (ret Value.none) _ _ _
        refine wpAny_pure ⟨rfl, h', tk', rfl, hz, fun b o e => ?_⟩
        have lt : b < s.heap.objs.size := Heap.lt_size e
        refine hm.heap b o (fun z => ?_) (Heap.get?_push_of_some _ (Heap.get?_push_of_some _ e))
        rcases List.mem_cons.mp z with z | z
        · rw [z] at lt; exact absurd lt (Nat.lt_irrefl _)
        · rw [List.mem_singleton.mp z] at lt; exact absurd lt (Nat.not_lt_of_le (Nat.le_succ _))
      · cases r2 with
        | error e => exact hr2
        | ok fl2 =>
          cases fl2 with
          | ret r =>
            obtain ⟨rfl, h', tk, rfl, hz, hk⟩ := hr2
            repeat (any_goals first | assumption | wp_step)
            exact k h' tk hz hk
          | _ => exact hr2.elim
    | _ => exact hr.elim
end
end KF
set_option Elab.async false
set_option linter.all false
set_option maxRecDepth 100000
set_option maxHeartbeats 4000000
/-! KF, part K: sorted(set(xs)), by value. -/
namespace KF
open PySem PySem.Spec PyProof.Rows L2
open PySem.W (dataLt dataLe alike alikeAll sameRank)
/-! ### ascending lists without repeats -/
section
variable {α : Type}
def insU (lt : α → α → Bool) (x : α) : List α → List α
  | [] => [x]
  | y :: r => if lt x y = true then x :: y :: r else if lt y x = true then y :: insU lt x r else y :: r
def ssU (lt : α → α → Bool) : List α → List α
  | [] => []
  | x :: r => insU lt x (ssU lt r)
structure Lin (lt : α → α → Bool) : Prop where
  irr : ∀ x, lt x x = false
  tr : ∀ {x y z}, lt x y = true → lt y z = true → lt x z = true
  con : ∀ {x y}, lt x y = false → lt y x = false → x = y
variable {lt : α → α → Bool}
theorem Lin.as (o : Lin lt) {x y : α} (h : lt x y = true) : lt y x = false := by
  cases q : lt y x with
  | false => rfl
  | true => have := o.tr h q; rw [o.irr] at this; cases this
theorem insU_mem (o : Lin lt) {x z : α} : ∀ {l : List α}, z ∈ insU lt x l ↔ z = x ∨ z ∈ l
  | [] => by simp [insU]
  | y :: r => by
    unfold insU
    split
    · simp
    · rename_i c1
      split
      · rw [List.mem_cons, insU_mem o, List.mem_cons]
        constructor
        · rintro (h | h | h)
          · exact .inr (.inl h)
          · exact .inl h
          · exact .inr (.inr h)
        · rintro (h | h | h)
          · exact .inr (.inl h)
          · exact .inl h
          · exact .inr (.inr h)
      · rename_i c2
        have e := o.con (by simpa using c1) (by simpa using c2)
        subst e
        simp
theorem insU_pw (o : Lin lt) {x : α} : ∀ {l : List α}, l.Pairwise (fun a b => lt a b = true) → (insU lt x l).Pairwise (fun a b => lt a b = true)
  | [], _ => by simp [insU]
  | y :: r, h => by
    obtain ⟨h1, h2⟩ := List.pairwise_cons.mp h
    unfold insU
    split
    · rename_i c
      refine List.pairwise_cons.mpr ⟨fun z hz => ?_, h⟩
      rcases List.mem_cons.mp hz with e | e
      · rw [e]; exact c
      · exact o.tr c (h1 z e)
    · split
      · rename_i c
        refine List.pairwise_cons.mpr ⟨fun z hz => ?_, insU_pw o h2⟩
        rcases (insU_mem o).mp hz with e | e
        · rw [e]; exact c
        · exact h1 z e
      · exact h
theorem ssU_mem (o : Lin lt) {z : α} : ∀ {l : List α}, z ∈ ssU lt l ↔ z ∈ l
  | [] => by simp [ssU]
  | y :: r => by
    unfold ssU
    rw [insU_mem o, ssU_mem o, List.mem_cons]
theorem ssU_pw (o : Lin lt) : ∀ {l : List α}, (ssU lt l).Pairwise (fun a b => lt a b = true)
  | [] => by simp [ssU]
  | y :: r => insU_pw o (ssU_pw o)
theorem pw_uniq (o : Lin lt) : ∀ {l m : List α}, l.Pairwise (fun a b => lt a b = true) → m.Pairwise (fun a b => lt a b = true) → (∀ z, z ∈ l ↔ z ∈ m) → l = m
  | [], [], _, _, _ => rfl
  | [], y :: r, _, _, h => by have := (h y).mpr List.mem_cons_self; cases this
  | x :: l, [], _, _, h => by have := (h x).mp List.mem_cons_self; cases this
  | x :: l, y :: m, h1, h2, h => by
    obtain ⟨a1, a2⟩ := List.pairwise_cons.mp h1
    obtain ⟨b1, b2⟩ := List.pairwise_cons.mp h2
    have e : x = y := by
      rcases List.mem_cons.mp ((h x).mp List.mem_cons_self) with e | e
      · exact e
      · rcases List.mem_cons.mp ((h y).mpr List.mem_cons_self) with e2 | e2
        · exact e2.symm
        · have := o.as (a1 y e2); rw [b1 x e] at this; cases this
    subst e
    congr 1
    refine pw_uniq o a2 b2 fun z => ⟨fun hz => ?_, fun hz => ?_⟩
    · rcases List.mem_cons.mp ((h z).mp (List.mem_cons_of_mem _ hz)) with e | e
      · have := a1 z hz; rw [e, o.irr] at this; cases this
      · exact e
    · rcases List.mem_cons.mp ((h z).mpr (List.mem_cons_of_mem _ hz)) with e | e
      · have := b1 z hz; rw [e, o.irr] at this; cases this
      · exact e
theorem pw_nodup (o : Lin lt) {l : List α} (h : l.Pairwise (fun a b => lt a b = true)) : l.Nodup := h.imp fun {a b} q e => by rw [e, o.irr] at q; cases q
end
def ltI (x y : Int) : Bool := decide (x < y)
theorem lin_I : Lin ltI := ⟨fun x => by simp [ltI], fun {x y z} h1 h2 => by simp [ltI] at *; omega, fun {x y} h1 h2 => by simp [ltI] at *; omega⟩
def ltIs : List Int → List Int → Bool
  | [], [] => false
  | [], _ :: _ => true
  | _ :: _, [] => false
  | x :: xs, y :: ys => if x < y then true else if y < x then false else ltIs xs ys
theorem ltIs_irr : ∀ x, ltIs x x = false
  | [] => rfl
  | x :: r => by simp [ltIs, ltIs_irr r]
theorem ltIs_tr : ∀ {x y z : List Int}, ltIs x y = true → ltIs y z = true → ltIs x z = true
  | [], [], _, h, _ => by cases h
  | [], _ :: _, [], _, h => by cases h
  | [], _ :: _, _ :: _, _, _ => rfl
  | _ :: _, [], _, h, _ => by cases h
  | _ :: _, _ :: _, [], _, h => by cases h
  | a :: x, b :: y, c :: z, h1, h2 => by
    simp only [ltIs] at *
    by_cases p1 : a < b
    · by_cases p2 : b < c
      · rw [if_pos (by omega)]
      · rw [if_neg p2] at h2
        by_cases p3 : c < b
        · rw [if_pos p3] at h2; cases h2
        · rw [if_pos (by omega)]
    · rw [if_neg p1] at h1
      by_cases p3 : b < a
      · rw [if_pos p3] at h1; cases h1
      · rw [if_neg p3] at h1
        have e : a = b := by omega
        subst e
        by_cases p2 : a < c
        · rw [if_pos p2]
        · rw [if_neg p2] at h2 ⊢
          by_cases p4 : c < a
          · rw [if_pos p4] at h2; cases h2
          · rw [if_neg p4] at h2 ⊢
            exact ltIs_tr h1 h2
theorem ltIs_con : ∀ {x y : List Int}, ltIs x y = false → ltIs y x = false → x = y
  | [], [], _, _ => rfl
  | [], _ :: _, h, _ => by cases h
  | _ :: _, [], _, h => by cases h
  | a :: x, b :: y, h1, h2 => by
    simp only [ltIs] at *
    by_cases p1 : a < b
    · rw [if_pos p1] at h1; cases h1
    · by_cases p2 : b < a
      · rw [if_pos p2] at h2; cases h2
      · rw [if_neg p1, if_neg p2] at h1
        rw [if_neg p2, if_neg p1] at h2
        rw [ltIs_con h1 h2, show a = b by omega]
theorem lin_Is : Lin ltIs := ⟨ltIs_irr, ltIs_tr, ltIs_con⟩
def tI (ns : List Int) : PyData := .tuple (ns.map .int)
theorem lt_tI : ∀ a b : List Int, dataLt (tI a) (tI b) = ltIs a b := by
  intro a b
  unfold tI
  rw [PySem.W.dataLt_tuple]
  show PySem.W.rowLt (a.map .int) (b.map .int) = _
  rw [PySem.W.dataLt_ints]
  have key : ∀ a b : List Int, a < b ↔ ltIs a b = true := by
    intro a
    induction a with
    | nil =>
      intro b
      cases b with
      | nil => simp [ltIs]
      | cons y s => simp [ltIs]
    | cons x r ih =>
      intro b
      cases b with
      | nil => simp [ltIs]
      | cons y s =>
        simp only [ltIs, List.cons_lt_cons_iff, ih s]
        by_cases p1 : x < y
        · simp [p1]
        · by_cases p2 : y < x
          · simp [p1, p2]; omega
          · have e : x = y := by omega
            simp [e]
  cases q : ltIs a b with
  | true => exact decide_eq_true ((key a b).mpr q)
  | false => exact decide_eq_false fun z => by rw [(key a b).mp z] at q; cases q
theorem lt_asymm (a b : PyData) (h : dataLt a b = true) : dataLt b a = false := by
  rcases tot.total a b with t | t
  · rw [le_iff] at t
    simpa using t
  · rw [le_iff, h] at t
    cases t
/-- a row that rises is the sorted one of its members -/
theorem sortD_of {xs T : List PyData} (pm : T.Perm xs) (pw : T.Pairwise fun a b => dataLt a b = true) (as : ∀ a b, dataLt a b = true → dataLt b a = false) : sortD xs = T := by
  rw [sortD_eq]
  refine (PySem.W.sort_unique tot (pw.imp fun h => ?_) fun c => ?_).symm
  · rw [le_iff, as _ _ h]; rfl
  · have p2 := pm.filter (sameRank (dataLe false fun x : PyData => x) c)
    have h1 : ∀ l : List PyData, l.Pairwise (fun a b => dataLt a b = true) → (∀ z ∈ l, sameRank (dataLe false fun x : PyData => x) c z = true) → l.length ≤ 1 := by
      intro l hl hc
      cases l with
      | nil => simp
      | cons a r =>
        cases r with
        | nil => simp
        | cons b s =>
          exfalso
          have ab := (List.pairwise_cons.mp hl).1 b List.mem_cons_self
          have ca := hc a List.mem_cons_self
          have cb := hc b (List.mem_cons_of_mem _ List.mem_cons_self)
          unfold sameRank at ca cb
          obtain ⟨_, a1⟩ := Bool.and_eq_true_iff.mp ca
          obtain ⟨_, b1⟩ := Bool.and_eq_true_iff.mp cb
          obtain ⟨a2, _⟩ := Bool.and_eq_true_iff.mp ca
          have : dataLe false (fun x : PyData => x) b a = true := tot.trans b c a b1 a2
          rw [le_iff, ab] at this
          cases this
    have hl := h1 _ (pw.filter _) fun z hz => (List.mem_filter.mp hz).2
    generalize T.filter (sameRank (dataLe false fun x : PyData => x) c) = l at p2 hl
    cases l with
    | nil => exact (List.nil_perm.mp p2).symm
    | cons a r =>
      cases r with
      | nil => exact (List.Perm.eq_singleton p2.symm).symm
      | cons => simp at hl
end KF
set_option Elab.async false
set_option linter.all false
set_option maxRecDepth 100000
set_option maxHeartbeats 4000000
/-! KF, part L: sorted(set(xs)): the machine's side. -/
namespace KF
open PySem PySem.Spec PyProof.Rows L2
open PySem.W (dataLt dataLe alike alikeAll)
abbrev Rows := List (Addr × List Int)
section
variable {P : Program} {w : World} {A : Around} {E : Value → Shared → Prop} {s : Shared}
/-- the loop that puts tuples into a set; few of them differ -/
theorem loop_tups {B : Around} {J S l : Addr} {items : Array Value} {ks : Rows} {h0 : Heap} {R : Result → Shared → Prop} (nh : B.in1.handled = none) (hu : B.in1.units < cLine) (lJ : l ≠ J) (SJ : S ≠ J) (Sl : S ≠ l)
    (hit : items.toList = ks.map fun p => Value.ref p.1) (bd : ∀ L : Rows, (L.map (·.2)).Nodup → (∀ p ∈ L, p ∈ ks) → L.length < 63) (hk : ∀ p ∈ ks, IsT P w h0 p.2 p.1) (nS : h0.get? S = none) (nJ : h0.get? J = none) :
    ∀ (m i : Nat) (s : Shared), items.size - i = m → i ≤ items.size → s.heap.IsListIter J l i ∧ s.heap.IsList l items → (∀ b o, h0.get? b = some o → s.heap.get? b = some o) →
      (∃ L es ep t, SetTR P w s.heap S L es ep t ∧ (∀ p ∈ L, p ∈ ks) ∧ ∀ p ∈ ks.take i, p.2 ∈ L.map (·.2)) →
      (∀ s' L es ep t, Moved [S, J] (fun a b => b = a) s s' → SetTR P w s'.heap S L es ep t → (∀ p ∈ L, p ∈ ks) → (∀ p ∈ ks, p.2 ∈ L.map (·.2)) → (∀ b o, h0.get? b = some o → s'.heap.get? b = some o) → R (.ok (.ret .none)) s') →
      codeAny (model P w) B (.builtin "set.update.loop" ⟨[.ref S, .ref J], []⟩) R s := by
  have W := (Walks.list (prog := P) (w := w) nh J l lJ items).toS
  have up : ∀ b ∈ [J], b ∈ [S, J] := fun b hb => List.mem_cons_of_mem _ hb
  have SnJ : S ∉ [J] := fun z => SJ (List.mem_singleton.mp z)
  have hsz : items.size = ks.length := by
    have := congrArg List.length hit
    rw [Array.length_toList, List.length_map] at this
    exact this
  have old : ∀ {s s' : Shared}, Moved [J] (fun a b => b = a) s s' → (∀ b o, h0.get? b = some o → s.heap.get? b = some o) → ∀ b o, h0.get? b = some o → s'.heap.get? b = some o := fun hm kp b o e =>
    hm.heap b o (fun z => by rw [List.mem_singleton.mp z, nJ] at e; cases e) (kp b o e)
  intro m
  induction m with
  | zero =>
    intro i s h1 h2 st kp ⟨L, es, ep, t, hS, sub, all⟩ fin
    obtain rfl : i = items.size := by omega
    refine codeAny_builtin F.entry_set_update_loop ?_
    rw [Around.under_plainId F.plain_set_update_loop _]
    refine wpAny_bind (m := pyNext (.ref J)) (W.done s _ _ st fun s' hm => ?_)
    have kp' := old hm kp
    have tk : ks.take items.size = ks := List.take_of_length_le (by omega)
    rw [tk] at all
    exact wpAny_pure (fin s' L es ep t (hm.mono up) (hS.keep (fun o e => hm.heap S o SnJ e) fun p hp => isT_keep (hk p (sub p hp)) kp') sub all kp')
  | succ m ih =>
    intro i s h1 h2 st kp ⟨L, es, ep, t, hS, sub, all⟩ fin
    have lt : i < items.size := by omega
    refine codeAny_builtin F.entry_set_update_loop ?_
    rw [Around.under_plainId F.plain_set_update_loop _]
    refine wpAny_bind (m := pyNext (.ref J)) (W.item i s _ _ lt st fun v s' hv st' hm => ?_)
    have hv : items[i]? = some v := hv
    obtain ⟨p, hp, rfl⟩ : ∃ p, ks[i]? = some p ∧ v = .ref p.1 := by
      have q : items.toList[i]? = some v := by rw [Array.getElem?_toList]; exact hv
      rw [hit, List.getElem?_map] at q
      cases z : ks[i]? with
      | none => rw [z] at q; cases q
      | some p => rw [z] at q; exact ⟨p, rfl, (Option.some.inj q).symm⟩
    have kp' := old hm kp
    have pm : p ∈ ks := List.mem_of_getElem? hp
    have hS' : SetTR P w s'.heap S L es ep t := hS.keep (fun o e => hm.heap S o SnJ e) fun q hq => isT_keep (hk q (sub q hq)) kp'
    have hx : IsT P w s'.heap p.2 p.1 := isT_keep (hk p pm) kp'
    refine wpAny_bind (m := holding [Value.ref p.1] (setAdd S (.ref p.1))) (wpAny_holding ?_)
    unfold setAdd
    refine wpAny_holding (wpAny_bind (wpAny_pyHash_tuple hu hx ?_))
    refine add_at (s := { s' with toks := s'.toks + (p.2.length + 1) }) hS' hx hu (by have := bd L hS.nd sub; omega) fun b h' L' es' ep' t' sb hS2 c1 c2 => ?_
    have mm : ∀ q, q ∈ ks.take (i + 1) ↔ q ∈ ks.take i ∨ q = p := fun q => by rw [take_next hp, List.mem_append, List.mem_singleton]
    have both : (∀ q ∈ L', q ∈ ks) ∧ ∀ q ∈ ks.take (i + 1), q.2 ∈ L'.map (·.2) := by
      rcases Classical.em (p.2 ∈ L.map (·.2)) with c | c
      · rw [c1 c]
        refine ⟨sub, fun q hq => ?_⟩
        rcases (mm q).mp hq with z | z
        · exact all q z
        · rw [z]; exact c
      · have pp := c2 c
        refine ⟨fun q hq => ?_, fun q hq => ?_⟩
        · rcases List.mem_cons.mp (pp.mem_iff.mp hq) with z | z
          · rw [z]; exact pm
          · exact sub q z
        · rw [(pp.map (·.2)).mem_iff, List.map_cons]
          rcases (mm q).mp hq with z | z
          · exact List.mem_cons_of_mem _ (all q z)
          · rw [z]; exact List.mem_cons_self
    have kp2 : ∀ b o, h0.get? b = some o → h'.get? b = some o := fun b o e => (sb.2 b (fun z => by rw [z, nS] at e; cases e)).trans (kp' b o e)
    refine wpAny_pure ⟨plainId_quiet F.plain_set_update_loop _, ih (i + 1) _ (by omega) (by omega) (W.frame _ s' _ _ st' (Nat.le_add_right _ _) fun b hb o e => ?_) kp2 ⟨L', es', ep', t', hS2, both⟩ fun s2 L2 es2 ep2 t2 hm2 hS3 g1 g2 kp3 => ?_⟩
    · have bS : b ≠ S := fun z => by
        rw [z] at hb
        rcases List.mem_cons.mp hb with q | q
        · exact SJ q
        · exact Sl (List.mem_singleton.mp q)
      rw [sb.2 b bS]; exact e
    · refine fin s2 L2 es2 ep2 t2 (Moved.trans W.gtrans ((hm.mono up).then_heap (Nat.le_add_right _ _) fun b o hb e => ?_) hm2) hS3 g1 g2 kp3
      rw [sb.2 b (fun z => hb (by rw [z]; exact List.mem_cons_self))]; exact e
theorem none_ge {h : Heap} {b : Addr} (hb : h.objs.size ≤ b) : h.get? b = none := by
  cases q : h.get? b with
  | none => rfl
  | some o => exact absurd (Nat.lt_of_lt_of_le (Heap.lt_size q) hb) (Nat.lt_irrefl _)
/-- set(xs) of a list of tuples, few of which differ -/
theorem set_tups {l : Addr} {items : Array Value} {ks : Rows} {Q : Value → Shared → Prop} (nh : A.handled = none) (il : s.heap.IsList l items) (hit : items.toList = ks.map fun p => Value.ref p.1) (hk : ∀ p ∈ ks, IsT P w s.heap p.2 p.1)
    (bd : ∀ L : Rows, (L.map (·.2)).Nodup → (∀ p ∈ L, p ∈ ks) → L.length < 63) (hu : A.units + 3 < cLine)
    (k : ∀ (h' : Heap) (tk : Nat) L es ep t, SetTR P w h' s.heap.objs.size L es ep t → (∀ p ∈ L, p ∈ ks) → (∀ p ∈ ks, p.2 ∈ L.map (·.2)) → (∀ b o, s.heap.get? b = some o → h'.get? b = some o) → Q (.ref s.heap.objs.size) { s with heap := h', toks := tk }) :
    wpAny (model P w) A (call (.type "set") [.ref l]) Q E s := by
  have ll : l < s.heap.objs.size := (fun ⟨_, q, _⟩ => Heap.lt_size q) il
  refine set_of_list (Z := fun h' => ∃ L es ep t, SetTR P w h' s.heap.objs.size L es ep t ∧ (∀ p ∈ L, p ∈ ks) ∧ ∀ p ∈ ks, p.2 ∈ L.map (·.2)) nh il (fun B J s0 R nB uB eJ e0 fin => ?_) fun h' tk ⟨L, es, ep, t, z1, z2, z3⟩ kp => k h' tk L es ep t z1 z2 z3 kp
  subst eJ e0
  have sz : (s.heap.push (fsO w)).objs.size = s.heap.objs.size + 1 := Heap.size_push ..
  have eI := Heap.get?_push_size (s.heap.push (fsO w)) (o := lsI l) rfl
  rw [sz] at eI
  have eS : ((s.heap.push (fsO w)).push (lsI l)).get? s.heap.objs.size = some (fsO w) := Heap.get?_push_of_some _ (Heap.get?_push_size _ rfl)
  have keep : ∀ b o, s.heap.get? b = some o → ((s.heap.push (fsO w)).push (lsI l)).get? b = some o := fun b o e => Heap.get?_push_of_some _ (Heap.get?_push_of_some _ e)
  refine loop_tups (h0 := s.heap) (items := items) nB (by rw [uB]; exact hu) (Nat.ne_of_lt (Nat.lt_succ_of_lt ll)) (Nat.ne_of_lt (Nat.lt_succ_self _)) (Nat.ne_of_gt ll) hit bd hk (none_ge (Nat.le_refl _)) (none_ge (Nat.le_succ _)) _ 0 _ rfl (Nat.zero_le _)
    ⟨⟨_, eI, rfl, rfl⟩, il.at fun o e => keep _ o e⟩ keep ⟨[], #[], 0, _, setTR_fresh eS, (fun p hp => by cases hp), fun p hp => by simp at hp⟩ fun s' L es ep t hm z1 z2 z3 _ => fin s' hm ⟨L, es, ep, t, z1, z2, z3⟩
/-- set(xs) of a list of ints -/
theorem set_ints {l : Addr} {items : Array Value} {ns : List Int} {Q : Value → Shared → Prop} (nh : A.handled = none) (il : s.heap.IsList l items) (hit : IntsAre items.toList ns) (hb : ns.length < 1000)
    (k : ∀ (h' : Heap) (tk c : Nat), SetR w h' s.heap.objs.size (fun j => decide (j ∈ ns)) c → c ≤ ns.length → (∀ b o, s.heap.get? b = some o → h'.get? b = some o) → Q (.ref s.heap.objs.size) { s with heap := h', toks := tk }) :
    wpAny (model P w) A (call (.type "set") [.ref l]) Q E s := by
  have ll : l < s.heap.objs.size := (fun ⟨_, q, _⟩ => Heap.lt_size q) il
  have hsz : items.size = ns.length := by have := hit.length; rw [Array.length_toList] at this; exact this
  refine set_of_list (Z := fun h' => ∃ c, SetR w h' s.heap.objs.size (fun j => decide (j ∈ ns)) c ∧ c ≤ ns.length) nh il (fun B J s0 R nB uB eJ e0 fin => ?_) fun h' tk ⟨c, z1, z2⟩ kp => k h' tk c z1 z2 kp
  subst eJ e0
  have sz : (s.heap.push (fsO w)).objs.size = s.heap.objs.size + 1 := Heap.size_push ..
  have eI := Heap.get?_push_size (s.heap.push (fsO w)) (o := lsI l) rfl
  rw [sz] at eI
  have eS : ((s.heap.push (fsO w)).push (lsI l)).get? s.heap.objs.size = some (fsO w) := Heap.get?_push_of_some _ (Heap.get?_push_size _ rfl)
  have keep : ∀ b o, s.heap.get? b = some o → ((s.heap.push (fsO w)).push (lsI l)).get? b = some o := fun b o e => Heap.get?_push_of_some _ (Heap.get?_push_of_some _ e)
  refine set_update_ints ((Walks.list (prog := P) (w := w) nB (s.heap.objs.size + 1) l (Nat.ne_of_lt (Nat.lt_succ_of_lt ll)) items).toS) s.heap.objs.size (fun z => ?_) ns hsz (by unfold scanBound; omega) (fun i v hv => ?_) _ 0 _ rfl (Nat.zero_le _)
    ⟨⟨_, eI, rfl, rfl⟩, il.at fun o e => keep _ o e⟩ ⟨0, Nat.le_refl _, setR_new_at eS⟩ fun s' c hm hc hS => fin s' hm ⟨c, hS, by omega⟩
  · rcases List.mem_cons.mp z with q | q
    · exact absurd q (Nat.ne_of_lt (Nat.lt_succ_self _))
    · exact absurd (List.mem_singleton.mp q) (Nat.ne_of_gt ll)
  · have hv : items[i]? = some v := hv
    have hi : i < ns.length := by rw [← hsz]; exact (Array.getElem?_eq_some_iff.mp hv).1
    obtain ⟨t, e⟩ := PyProof.Rows.IntsAre.int_at hit i v (by rw [Array.getElem?_toList]; exact hv)
    exact ⟨ns[i], t, List.getElem?_eq_getElem hi, by rw [e, List.getD_eq_getElem?_getD, List.getElem?_eq_getElem hi]; rfl⟩
end
end KF
set_option Elab.async false
set_option linter.all false
set_option maxRecDepth 100000
set_option maxHeartbeats 4000000
/-! KF, part M: sorted(set(xs)): the rule. -/
namespace KF
open PySem PySem.Spec PyProof.Rows L2
open PySem.W (dataLt dataLe alike alikeAll EachIs sortingHeap sortingHeap_old)
section
variable {P : Program} {w : World} {A : Around} {E : Value → Shared → Prop} {s : Shared}
theorem each_perm {α β : Type} {R : α → β → Prop} {vs vs' : List α} (p : vs'.Perm vs) : ∀ {bs : List β}, EachIs R vs bs → ∃ bs', bs'.Perm bs ∧ EachIs R vs' bs' := by
  induction p with
  | nil => intro bs e; exact ⟨bs, List.Perm.refl _, e⟩
  | cons x _ ih =>
    intro bs e
    cases e with
    | cons r t => obtain ⟨b', q1, q2⟩ := ih t; exact ⟨_ :: b', q1.cons _, .cons r q2⟩
  | swap x y l =>
    intro bs e
    cases e with
    | cons r1 t =>
      cases t with
      | cons r2 t2 => exact ⟨_, List.Perm.swap _ _ _, .cons r2 (.cons r1 t2)⟩
  | trans _ _ ih1 ih2 =>
    intro bs e
    obtain ⟨b1, q1, q2⟩ := ih2 e
    obtain ⟨b2, q3, q4⟩ := ih1 q2
    exact ⟨b2, q3.trans q1, q4⟩
theorem isT_reads {h : Heap} {k : List Int} {b : Addr} (x : IsT P w h k b) : ∃ as, Reads h (.ref b) (tI k) as := by
  obtain ⟨o, items, n, ho, hc, hd, hi⟩ := x
  have key : ∀ {k : List Int} {vs : List Value}, IntsAre vs k → ∃ as, ReadsAll h vs (k.map .int) as := by
    intro k vs q
    induction q with
    | nil => exact ⟨_, .nil⟩
    | cons i t _ ih => obtain ⟨as, z⟩ := ih; exact ⟨_, .cons (.int _ _) z⟩
  obtain ⟨as, q⟩ := key (ints_of_items hi)
  exact ⟨as, .tuple ho hc hd q⟩
theorem alike_tI (a b : List Int) : alike (tI a) (tI b) = true := by
  unfold tI
  rw [alike]
  exact PySem.W.alike_ints a b
theorem depth_tI (a : List Int) : (tI a).depth ≤ 1 := by
  unfold tI
  rw [PyData.depth, PySem.W.depth_ints]
  decide
/-- sorted(set), a set of tuples -/
theorem sort_setT {a : Addr} {L : Rows} {es : Array (Int × Value)} {ep : Nat} {t : SetTable} {Q : Value → Shared → Prop} (R : SetTR P w s.heap a L es ep t) (nh : A.handled = none) (hu : A.units + 10 < cLine) (ne : ∀ p ∈ L, p.2 ≠ [])
    (hQ : ∀ s' p (out : Array Value) (c : Nat), (∀ b o, s.heap.get? b = some o → s'.heap.get? b = some o) → s'.gens = s.gens → s'.os = s.os → s.heap.objs.size ≤ p → s'.heap.get? p = some (seqObj "list" out c) →
      EachIs (fun v d => ∃ q ∈ L, v = Value.ref q.1 ∧ d = tI q.2) out.toList ((ssU ltIs (L.map (·.2))).map tI) → Q (.ref p) s') : wpAny (model P w) A (call (.builtin "sorted") [.ref a]) Q E s := by
  obtain ⟨o, ho, hex, hd⟩ := R.ob
  have hsz := R.size
  have hfew := R.few
  refine Calls.call_function_entry kind_sorted plain_sorted entry_sorted (args_sorted1 _) ?_
  unfold Builtin.«sorted»
  refine wpAny_bind (m := checkCount "sorted" 1 1 _) (wpAny_pure (wpAny_bind (collect_set (A := A.in1) nh ⟨o, ho, hex.1, hd⟩ R.fits (by unfold scanBound; omega) R.tab.ris R.led fun s1 vs k1 hz g1 o1 pm => ?_)))
  have hes : es.toList.map (·.2) = L.map fun q => Value.ref q.1 := by
    rw [R.rows]
    unfold rowsOf
    rw [List.map_map]; rfl
  rw [hes] at pm
  have e0 : EachIs (fun v d => ∃ q ∈ L, v = Value.ref q.1 ∧ d = tI q.2) (L.map fun q => Value.ref q.1) (L.map fun q => tI q.2) := by
    have key : ∀ l : Rows, (∀ q ∈ l, q ∈ L) → EachIs (fun v d => ∃ q ∈ L, v = Value.ref q.1 ∧ d = tI q.2) (l.map fun q => Value.ref q.1) (l.map fun q => tI q.2) := by
      intro l
      induction l with
      | nil => intro _; exact .nil
      | cons q r ih => intro z; exact .cons ⟨q, z q List.mem_cons_self, rfl, rfl⟩ (ih fun x hx => z x (List.mem_cons_of_mem _ hx))
    exact key L fun _ z => z
  obtain ⟨ds, pd, e1⟩ := each_perm pm e0
  have hvl : vs.length = L.length := by rw [pm.length_eq, List.length_map]
  have hdl : ds.length = L.length := by rw [pd.length_eq, List.length_map]
  refine wpAny_bind (wpAny_newList ?_ (by rw [hvl, sizeLine_eq]; omega))
  have hoL : (s1.heap.push (seqObj "list" vs.toArray 0)).get? s1.heap.objs.size = some (seqObj "list" vs.toArray 0) := Heap.get?_push_size _ rfl
  have er : EachIs (fun v d => ∃ as, Reads (sortingHeap (s1.heap.push (seqObj "list" vs.toArray 0)) s1.heap.objs.size vs) v d as) vs ds := e1.mono fun v d ⟨q, hq, z1, z2⟩ => by
    obtain ⟨as, r⟩ := isT_reads (R.tup q hq)
    rw [z1, z2]
    exact ⟨as, PyProof.Rows.Reads.keeps (fun b o z => by
      have z := k1 b o z
      exact sortingHeap_old (Nat.ne_of_lt (Heap.lt_size z)) (Heap.get?_push_of_some _ z)) r⟩
  have dm : ∀ d ∈ ds, ∃ q ∈ L, d = tI q.2 := fun d hd' => by
    obtain ⟨q, hq, e⟩ := List.mem_map.mp (pd.mem_iff.mp hd')
    exact ⟨q, hq, e.symm⟩
  have hal : PySem.W.AllAlike ds := fun d h1 d' h2 => by
    obtain ⟨q, _, rfl⟩ := dm d h1
    obtain ⟨q', _, rfl⟩ := dm d' h2
    exact alike_tI _ _
  have hk : PySem.W.Sortable ds := .inl fun d h1 => by
    obtain ⟨q, hq, rfl⟩ := dm d h1
    cases e : q.2 with
    | nil => exact absurd e (ne q hq)
    | cons x r => exact ⟨.int x, r.map .int, rfl⟩
  refine wpAny_bind (wpAny_holding (wpAny_call_entry slot_list_sort ⟨_, hoL, rfl⟩ entry_list_sort (PySem.W.list_sort_vals (s := { s1 with heap := s1.heap.push (seqObj "list" vs.toArray 0) }) hoL (PySem.W.SortsAt.data (s := { s1 with heap := sortingHeap (s1.heap.push (seqObj "list" vs.toArray 0)) s1.heap.objs.size vs }) er hal hk fun d h1 => ?_) (by rw [hvl, sizeLine_eq]; omega) ⟨.none, rfl, ?_⟩) (args_list_sort _)))
  · obtain ⟨q, _, rfl⟩ := dm d h1
    have := depth_tI q.2
    show A.units + 1 + 1 + (tI q.2).depth < cLine
    omega
  · have em : ds.map (fun x => x) = ds := List.map_id _
    have eo := PySem.W.sortVals_data (enc := fun x : PyData => x) false e1 er (by rw [em]; exact hal)
    rw [em, ← sortD_eq] at eo
    have eT : sortD ds = (ssU ltIs (L.map (·.2))).map tI := by
      refine sortD_of ?_ ?_ lt_asymm
      · refine List.Perm.trans ?_ pd.symm
        have : (L.map fun q => tI q.2) = (L.map (·.2)).map tI := by rw [List.map_map]; rfl
        rw [this]
        exact ((List.perm_ext_iff_of_nodup (pw_nodup lin_Is (ssU_pw lin_Is)) R.nd).mpr fun z => ssU_mem lin_Is).map tI
      · rw [List.pairwise_map]
        exact (ssU_pw lin_Is).imp fun h => by rw [lt_tI]; exact h
    rw [eT] at eo
    obtain ⟨c, hc⟩ := sortedHeap_at (vs := vs) (out := (PySem.W.sortVals (PySem.W.dataKind (sortingHeap (s1.heap.push (seqObj "list" vs.toArray 0)) s1.heap.objs.size vs) ds) false vs vs).toArray) hoL
    refine wpAny_pure ⟨_, rfl, hQ _ s1.heap.objs.size _ c (fun b u e => ?_) g1 o1 hz hc (by simpa using eo)⟩
    have q := k1 b u e
    have hlt := Heap.lt_size q
    exact (sortedHeap_old (Nat.ne_of_lt hlt) (by rw [size_push']; exact Nat.lt_succ_of_lt hlt)).trans (Heap.get?_push_of_some _ q)
end
end KF
set_option Elab.async false
set_option linter.all false
set_option maxRecDepth 100000
set_option maxHeartbeats 4000000
/-! KF, part P: sorted(set(xs)): the meaning. -/
namespace KF
open PySem PySem.Spec PyProof.Rows L2
open PySem.W (EachIs)
theorem nodup_len {α : Type} [DecidableEq α] : ∀ (l D : List α), l.Nodup → (∀ x ∈ l, x ∈ D) → l.length ≤ D.length
  | [], _, _, _ => Nat.zero_le _
  | x :: l, D, hn, hs => by
    obtain ⟨h1, h2⟩ := List.nodup_cons.mp hn
    have hx : x ∈ D := hs x List.mem_cons_self
    have ih := nodup_len l (D.erase x) h2 fun y hy => by
      have hne : y ≠ x := fun e => h1 (e ▸ hy)
      exact (List.mem_erase_of_ne hne).2 (hs y (List.mem_cons_of_mem _ hy))
    have e := List.length_erase_of_mem hx
    have hp : 0 < D.length := List.length_pos_of_mem hx
    rw [List.length_cons]
    omega
/-- tuples of ints -/
def tupsOf : List PyData → Option (List (List Int))
  | [] => some []
  | .tuple xs :: r => (intsOf xs).bind fun ns => (tupsOf r).bind fun nss => some (ns :: nss)
  | _ :: _ => none
theorem tupsOf_ok : ∀ {ds : List PyData} {ks : List (List Int)}, tupsOf ds = some ks → ds = ks.map tI
  | [], ks, h => by cases h; rfl
  | .tuple xs :: r, ks, h => by
    have h : (intsOf xs).bind (fun ns => (tupsOf r).bind fun nss => some (ns :: nss)) = some ks := h
    cases q : intsOf xs with
    | none => rw [q] at h; cases h
    | some ns =>
      rw [q] at h
      have h : (tupsOf r).bind (fun nss => some (ns :: nss)) = some ks := h
      cases q2 : tupsOf r with
      | none => rw [q2] at h; cases h
      | some nss =>
        rw [q2] at h
        cases h
        rw [intsOf_ok q, tupsOf_ok q2]
        rfl
  | .none :: _, _, h => by cases h
  | .bool _ :: _, _, h => by cases h
  | .int _ :: _, _, h => by cases h
  | .str _ :: _, _, h => by cases h
  | .list _ :: _, _, h => by cases h
  | .dict _ :: _, _, h => by cases h
def nonE : List Int → Bool
  | [] => false
  | _ => true
def ssP (xs : List PyData) : Option (List PyData) := match intsOf xs with
  | some ns => if Nat.blt ns.length 64 = true then some ((ssU ltI ns).map .int) else none
  | none => match tupsOf xs with
    | some ks => if (Nat.blt (ssU ltIs ks).length 63 && ks.all nonE) = true then some ((ssU ltIs ks).map tI) else none
    | none => none
def ssT (xs : List PyData) : Option (List PyData) := match intsOf xs with
  | some ns => if Nat.blt ns.length 64 = true then some ((ssU ltI ns).map .int) else none
  | none => none
def ssO : MH → D → Option D := fun h d => match d with
  | .py (.tuple xs) => (ssT xs).map fun ys => .py (.list ys)
  | d => (listOf h d).bind fun xs => (ssP xs).map fun ys => .py (.list ys)
def tSset (K : PySem.W.Frag) (ta : TE) : TE := fun σ H Q => ta σ H fun x H1 => ∃ l, x = V.ref l ∧ ((∃ ns : List Int, (SqL K H1 l (ns.map V.int) ∨ SqT K H1 l (ns.map V.int)) ∧ ns.length < 64 ∧ ∀ p, H1 p = none → Q (.ref p) (upd H1 p (.lst ((ssU ltI ns).map V.int)))) ∨
  ∃ ks : Rows, SqL K H1 l (ks.map fun p => V.ref p.1) ∧ (∀ p ∈ ks, SqT K H1 p.1 (p.2.map V.int)) ∧ (ssU ltIs (ks.map (·.2))).length < 63 ∧ (∀ p ∈ ks, p.2 ≠ []) ∧
    ∀ p us, H1 p = none → EachIs (fun v d => ∃ q ∈ ks, v = V.ref q.1 ∧ d = tI q.2) us ((ssU ltIs (ks.map (·.2))).map tI) → Q (.ref p) (upd H1 p (.lst us)))
section
variable {X : Cx} {M : MK} {W : WX}
theorem ints_vals : ∀ {us : List Value} {ns : List Int}, IntsAre us ns → Vals (ns.map V.int) us
  | _, _, .nil => .nil
  | _, _, .cons i t r => .cons ⟨_, rfl⟩ (ints_vals r)
theorem pe_sset {a : Expr} {ta : TE} {p p2 q pos : Pos} (hc : X.calm = true) (hu : X.A.units + 70 < cLine) (hg : Gl X "sorted") (hm : X.mg "sorted" = none) (hg2 : Gl X "set") (hm2 : X.mg "set" = none) (ha : PE X a ta)
    (na : starEach [a] X.env = (false, eval a X.env) :: starEach [] X.env) : PE X (.Call (.Name "sorted" p) [.Call (.Name "set" p2) [a] [] q] [] pos) (tSset X.K ta) := by
  refine ⟨fun pins s σ H Q I h => Call_ (ld_blt I hg hm PyProof.Rows.boot_sorted ?_)⟩
  refine PyProof.Rows.callWith_builtin1 (PyProof.Rows.args_cons (Call_ (ld_blt I hg2 hm2 PyProof.Rows.boot_set ?_)) rfl) rfl rfl
  refine PyProof.Rows.callWith_type1 (PyProof.Rows.args_cons (thn (ha.run pins s σ H _ I h) fun v s1 ⟨x, H1, I1, r1, q1⟩ => PyProof.Rows.args_nil ?_) na) na rfl
  obtain ⟨l, ex, q1⟩ := q1
  subst ex
  cases r1
  rcases q1 with ⟨ns, hs, hl, q1⟩ | ⟨ks, hs, hk, hl, hne, q1⟩
  · have fin : ∀ (h' : Heap) (tk c : Nat), SetR X.w h' s1.heap.objs.size (fun j => decide (j ∈ ns)) c → c ≤ ns.length → (∀ b o, s1.heap.get? b = some o → h'.get? b = some o) →
        wpAny (model X.prog X.w) X.A (call (.builtin "sorted") [.ref s1.heap.objs.size]) (fun v s' => ∃ x H', Inv X pins σ H' s' ∧ RelV x v ∧ Q x H') X.xe { s1 with heap := h', toks := tk } := by
      intro h' tk c R hc' kp
      have I2 : Inv X pins σ H1 { s1 with heap := h', toks := tk } := I1.kept (t' := tk) kp
      have R : SetR X.w ({ s1 with heap := h', toks := tk } : Shared).heap s1.heap.objs.size (fun j => decide (j ∈ ns)) c := R
      generalize ({ s1 with heap := h', toks := tk } : Shared) = s2 at I2 R ⊢
      refine sorted_set (s := s2) R (I1.ok.hd hc) (by omega) fun s' p out c' ns' k g o hp hg' hi pw hm' hn => ?_
      have e : ns' = ssU ltI ns := pw_uniq lin_I (pw.imp fun h => by simpa [ltI] using h) (ssU_pw lin_I) fun z => by rw [hm' z, ssU_mem lin_I]; simp
      subst e
      have hle : (ssU ltI ns).length < 64 := by rw [hn]; omega
      have hlen : ((ssU ltI ns).map V.int).length ≤ sizeLine := by rw [List.length_map, sizeLine_eq]; omega
      have J : Inv X pins σ (upd H1 p (.lst ((ssU ltI ns).map V.int))) { s2 with heap := s'.heap, gens := s'.gens, drawn := s'.drawn, toks := s'.toks } :=
        I2.call (ch := []) (Un.laid k hp (I2.hok.fresh hp)) (I2.hok.laid k hp ⟨hlen, out.toList, c', ints_vals hi, hg'⟩) (by rw [g]; exact I2.bare) (fun _ z => nomatch z)
      have e' : s' = { s2 with heap := s'.heap, gens := s'.gens, drawn := s'.drawn, toks := s'.toks } := by
        cases s'
        cases s2
        cases o
        rfl
      rw [e']
      exact ⟨.ref p, _, J, rfl, q1 p (I2.hok.fresh hp)⟩
    rcases hs with hs | hs
    · obtain ⟨its, r, pl, _⟩ := I1.list hs
      exact set_ints (I1.ok.hd hc) pl.isList (by simpa using r.ints) (by omega) fun h' tk c R hc' kp => PyProof.Rows.args_nil (fin h' tk c R hc' kp)
    · obtain ⟨its, r, pl, _⟩ := I1.tuple hs
      exact call_set_tupI ns (I1.ok.hd hc) pl (by simpa using r.ints) (by unfold scanBound; omega) fun h' tk c R hc' kp => PyProof.Rows.args_nil (fin h' tk c R hc' kp)
  · obtain ⟨its, r, pl, _⟩ := I1.list hs
    refine set_tups (ks := ks) (I1.ok.hd hc) pl.isList (by simpa using refs_of_vals r) (fun p hp => I1.isT (hk p hp)) (fun L h1 h2 => ?_) (by omega) fun h' tk L es ep t R h1 h2 kp => PyProof.Rows.args_nil ?_
    · have := nodup_len (L.map (·.2)) (ssU ltIs (ks.map (·.2))) h1 fun z hz => by
        obtain ⟨p, hp, rfl⟩ := List.mem_map.mp hz
        exact (ssU_mem lin_Is).mpr (List.mem_map.mpr ⟨p, h2 p hp, rfl⟩)
      rw [List.length_map] at this
      omega
    · have I2 : Inv X pins σ H1 { s1 with heap := h', toks := tk } := I1.kept (t' := tk) kp
      have R : SetTR X.prog X.w ({ s1 with heap := h', toks := tk } : Shared).heap s1.heap.objs.size L es ep t := R
      generalize ({ s1 with heap := h', toks := tk } : Shared) = s2 at I2 R ⊢
      refine sort_setT (s := s2) R (I1.ok.hd hc) (by omega) (fun p hp => hne p (h1 p hp)) fun s' p out c' k g o hp hg' he => ?_
      have e : ssU ltIs (L.map (·.2)) = ssU ltIs (ks.map (·.2)) := pw_uniq lin_Is (ssU_pw lin_Is) (ssU_pw lin_Is) fun z => by
        rw [ssU_mem lin_Is, ssU_mem lin_Is]
        constructor
        · intro hz
          obtain ⟨p, hp, rfl⟩ := List.mem_map.mp hz
          exact List.mem_map.mpr ⟨p, h1 p hp, rfl⟩
        · intro hz
          obtain ⟨p, hp, rfl⟩ := List.mem_map.mp hz
          exact h2 p hp
      rw [e] at he
      have key : ∀ {us : List Value} {ds : List PyData}, EachIs (fun v d => ∃ q ∈ L, v = Value.ref q.1 ∧ d = tI q.2) us ds → ∃ ws, Vals ws us ∧ EachIs (fun v d => ∃ q ∈ ks, v = V.ref q.1 ∧ d = tI q.2) ws ds := by
        intro us ds z
        induction z with
        | nil => exact ⟨[], .nil, .nil⟩
        | cons r _ ih =>
          obtain ⟨q, hq, e1, e2⟩ := r
          obtain ⟨ws, z1, z2⟩ := ih
          exact ⟨.ref q.1 :: ws, .cons (by rw [e1]; rfl) z1, .cons ⟨q, h1 q hq, rfl, e2⟩ z2⟩
      obtain ⟨ws, v1, v2⟩ := key he
      have hle : ws.length < 63 := by rw [v2.length, List.length_map]; exact hl
      have hlen : ws.length ≤ sizeLine := by rw [sizeLine_eq]; omega
      have J : Inv X pins σ (upd H1 p (.lst ws)) { s2 with heap := s'.heap, gens := s'.gens, drawn := s'.drawn, toks := s'.toks } :=
        I2.call (ch := []) (Un.laid k hp (I2.hok.fresh hp)) (I2.hok.laid k hp ⟨hlen, out.toList, c', v1, hg'⟩) (by rw [g]; exact I2.bare) (fun _ z => nomatch z)
      have e' : s' = { s2 with heap := s'.heap, gens := s'.gens, drawn := s'.drawn, toks := s'.toks } := by
        cases s'
        cases s2
        cases o
        rfl
      rw [e']
      exact ⟨.ref p, _, J, rfl, q1 p ws (I2.hok.fresh hp) v2⟩
theorem rel_tups {K : PySem.W.Frag} {H : Hp} {Z : Addr → Prop} : ∀ {ks : List (List Int)} {vs : List V}, RelPs K H Z (ks.map tI) vs → ∃ rs : Rows, rs.map (·.2) = ks ∧ vs = rs.map (fun p => V.ref p.1) ∧ ∀ p ∈ rs, SqT K H p.1 (p.2.map V.int)
  | [], _, h => by cases h; exact ⟨[], rfl, rfl, fun p hp => by cases hp⟩
  | n :: r, _, h => by
    cases h with
    | cons h1 h2 =>
      obtain ⟨rs, e1, e2, e3⟩ := rel_tups h2
      cases h1 with
      | @tup a us _ q1 q2 =>
        rw [rel_ints q2] at q1
        refine ⟨(a, n) :: rs, by simp [e1], by simp [e2], fun p hp => ?_⟩
        rcases List.mem_cons.mp hp with e | e
        · rw [e]; exact q1
        · exact e3 p e
theorem sqT_rel {K : PySem.W.Frag} {H : Hp} {Z : Addr → Prop} {a : Addr} {ns : List Int} (h : SqT K H a (ns.map V.int)) : RelP K H Z (tI ns) (.ref a) := .tup h (rel_of_ints ns)
where rel_of_ints {K : PySem.W.Frag} {H : Hp} {Z : Addr → Prop} : ∀ ns : List Int, RelPs K H Z (ns.map .int) (ns.map V.int)
  | [] => .nil
  | n :: r => .cons (.int n) (rel_of_ints r)
theorem blt_lt {a b : Nat} (h : Nat.blt a b = true) : a < b := Nat.le_of_ble_eq_true h
theorem k_sset (hK : M.K = X.K) {a : Expr} {fa : EvF D} {p p2 q pos : Pos} (hc : X.calm = true) (hu : X.A.units + 70 < cLine) (hg : Gl X "sorted") (hm : X.mg "sorted" = none) (hg2 : Gl X "set") (hm2 : X.mg "set" = none) (ha : PE X a (kE M .b W fa))
    (na : starEach [a] X.env = (false, eval a X.env) :: starEach [] X.env) : PE X (.Call (.Name "sorted" p) [.Call (.Name "set" p2) [a] [] q] [] pos) (kF M W (sem1 fa ssO)) := by
  refine PE.mono (pe_sset hc hu hg hm hg2 hm2 ha na) fun σ H Q ⟨B, L, A, h, env, g, p⟩ => ?_
  refine tG_bindF g p fun x h1 v H1 L1 e1 x1 g1 r1 p1 => ?_
  cases e : ssO h1 x with
  | none => rw [e] at p1; exact p1.elim
  | some d =>
    rw [e] at p1
    have hInts : ∀ (l : Addr) (us : List V) (xs : List PyData) (ns : List Int) (ys : List PyData), v = V.ref l → (SqL M.K H1 l us ∨ SqT M.K H1 l us) → RelPs M.K H1 (Zf B L1 A) xs us → intsOf xs = some ns → (if Nat.blt ns.length 64 = true then some ((ssU ltI ns).map PyData.int) else none) = some ys → d = .py (.list ys) →
        ∃ l, v = V.ref l ∧ ((∃ ns : List Int, (SqL X.K H1 l (ns.map V.int) ∨ SqT X.K H1 l (ns.map V.int)) ∧ ns.length < 64 ∧ ∀ p, H1 p = none → Q (.ref p) (upd H1 p (.lst ((ssU ltI ns).map V.int)))) ∨
          ∃ ks : Rows, SqL X.K H1 l (ks.map fun p => V.ref p.1) ∧ (∀ p ∈ ks, SqT X.K H1 p.1 (p.2.map V.int)) ∧ (ssU ltIs (ks.map (·.2))).length < 63 ∧ (∀ p ∈ ks, p.2 ≠ []) ∧
            ∀ p us, H1 p = none → EachIs (fun v d => ∃ q ∈ ks, v = V.ref q.1 ∧ d = tI q.2) us ((ssU ltIs (ks.map (·.2))).map tI) → Q (.ref p) (upd H1 p (.lst us))) := by
      intro l us xs ns ys ev hs hr hi hy hd
      split at hy
      · rename_i c
        cases hy
        subst hd
        rw [intsOf_ok hi] at hr
        rw [rel_ints hr] at hs
        exact ⟨l, ev, .inl ⟨ns, hK ▸ hs, blt_lt c, fun p hp => p1.fin g1 hp (sqT_rel.rel_of_ints _)⟩⟩
      · cases hy
    have lst : ∀ (xs ys : List PyData), listOf h1 x = some xs → ssP xs = some ys → d = .py (.list ys) → ∃ l, v = V.ref l ∧ ((∃ ns : List Int, (SqL X.K H1 l (ns.map V.int) ∨ SqT X.K H1 l (ns.map V.int)) ∧ ns.length < 64 ∧ ∀ p, H1 p = none → Q (.ref p) (upd H1 p (.lst ((ssU ltI ns).map V.int)))) ∨
          ∃ ks : Rows, SqL X.K H1 l (ks.map fun p => V.ref p.1) ∧ (∀ p ∈ ks, SqT X.K H1 p.1 (p.2.map V.int)) ∧ (ssU ltIs (ks.map (·.2))).length < 63 ∧ (∀ p ∈ ks, p.2 ≠ []) ∧
            ∀ p us, H1 p = none → EachIs (fun v d => ∃ q ∈ ks, v = V.ref q.1 ∧ d = tI q.2) us ((ssU ltIs (ks.map (·.2))).map tI) → Q (.ref p) (upd H1 p (.lst us))) := by
      intro xs ys q1 q2 hd
      obtain ⟨l, us, ev, h2, h3⟩ := listOf_rel g1 r1 q1
      unfold ssP at q2
      split at q2
      · rename_i ns hi
        exact hInts l us xs ns ys ev (.inl (.inl h2)) h3 hi q2 hd
      · split at q2
        · rename_i ks hk
          split at q2
          · rename_i c
            cases q2
            subst hd
            obtain ⟨c1, c2⟩ := Bool.and_eq_true_iff.mp c
            rw [tupsOf_ok hk] at h3
            obtain ⟨rs, e1, e2, e3⟩ := rel_tups h3
            subst e1 e2
            refine ⟨l, ev, .inr ⟨rs, hK ▸ .inl h2, fun p hp => hK ▸ e3 p hp, blt_lt c1, fun p hp z => ?_, fun p us hp he => p1.fin g1 hp ?_⟩⟩
            · have := List.all_eq_true.mp c2 p.2 (List.mem_map.mpr ⟨p, hp, rfl⟩)
              rw [z] at this
              cases this
            · have key : ∀ {us : List V} {ds : List PyData}, EachIs (fun v d => ∃ q ∈ rs, v = V.ref q.1 ∧ d = tI q.2) us ds → RelPs M.K H1 (Zf B L1 A) ds us := by
                intro us ds z
                induction z with
                | nil => exact .nil
                | cons r _ ih =>
                  obtain ⟨q, hq, z1, z2⟩ := r
                  rw [z1, z2]
                  exact .cons (sqT_rel (e3 q hq)) ih
              exact key he
          · cases q2
        · cases q2
    unfold ssO at e
    split at e
    · rename_i xs
      cases q2 : ssT xs with
      | none => rw [q2] at e; cases e
      | some ys =>
        rw [q2] at e
        cases e
        unfold ssT at q2
        split at q2
        · rename_i ns hi
          rcases r1 with r | ⟨i, a, ps, vs, _, _, z, _, _⟩
          · cases r with
            | py r =>
              cases r with
              | @tup a us _ h2 h3 => exact hInts a us xs ns ys rfl (.inr h2) h3 hi q2 rfl
          · cases z
        · cases q2
    · cases q1 : listOf h1 x with
      | none => rw [q1] at e; cases e
      | some xs =>
        rw [q1] at e
        have e : (ssP xs).map (fun ys => D.py (.list ys)) = some d := e
        cases q2 : ssP xs with
        | none => rw [q2] at e; cases e
        | some ys => rw [q2] at e; cases e; exact lst xs ys q1 q2 rfl
end
end KF
set_option Elab.async false
set_option linter.all false
set_option maxRecDepth 100000
set_option maxHeartbeats 4000000
/-! KF, part Q: xs.index(x). -/
namespace KF
open PySem PySem.Spec PyProof.Rows L2
def fIdx (v : PyData) : Nat → List PyData → Option Nat
  | _, [] => none
  | i, x :: r => if PyData.eqv x v = true then some i else fIdx v (i + 1) r
theorem fIdx_ok {v : PyData} : ∀ {xs : List PyData} {i j : Nat}, fIdx v i xs = some j → ∃ k z, j = i + k ∧ xs[k]? = some z ∧ PyData.eqv z v = true ∧ ∀ (m : Nat) (z' : PyData), m < k → xs[m]? = some z' → PyData.eqv z' v = false
  | [], i, j, h => by cases h
  | x :: r, i, j, h => by
    unfold fIdx at h
    split at h
    · rename_i c
      cases h
      exact ⟨0, x, rfl, rfl, c, fun m _ hm => absurd hm (Nat.not_lt_zero _)⟩
    · rename_i c
      obtain ⟨k, z, e, h1, h2, h3⟩ := fIdx_ok h
      refine ⟨k + 1, z, by omega, by simpa using h1, h2, fun m z' hm hz => ?_⟩
      cases m with
      | zero => simp at hz; subst hz; simpa using c
      | succ m => exact h3 m z' (by omega) (by simpa using hz)
def idxO (h : MH) (x : D) (ds : List D) : Option D := match ds with
  | [.py v] => (listOf h x).bind fun xs => if (shal 60 v && xs.all (shal 60)) = true then (fIdx v 0 xs).map fun j => .py (.int (j : Nat)) else none
  | _ => none
def isLst (h : MH) (x : D) : Bool := (listOf h x).isSome
def semIdx (fa : EvF D) (f : EvF (List D)) : EvF D := fun env h => (fa env h).bind fun x h1 => if isLst h1 x = true then (f env h1).bind fun ds h2 => lift (idxO h2 x ds) h2 else .bad
section
variable {X : Cx} {M : MK} {W : WX}
theorem k_idx (hK : M.K = X.K) (hu : X.A.units + 70 < cLine) {o e : Expr} {fa : EvF D} {f : EvF (List D)} {apos cpos : Pos} (ho : PE X o (kE M .b W fa)) (ha : PA X [e] (kA M .b W f)) (hs : starEach [e] X.env = [(false, eval e X.env)]) (hb : attributeBase o "index" X.env (eval o X.env) = eval o X.env) (hl : (apos.endLine == cpos.line) = true) :
    PE X (.Call (.Attribute o "index" apos) [e] [] cpos) (kE M .n W (semIdx fa f)) := by
  refine PE.mono (pe_bm F.plainAttrs_list PySem.F.slot_list_index PySem.F.type_list_index (mt_indexD (by omega)) ho ha hb (by rw [hs]; rfl) hl hs rfl) fun σ H Q ⟨B, L, A, h, env, g, p⟩ => ?_
  refine tG_bind sm_M g p fun x h1 v H1 L1 e1 x1 g1 r1 p1 => ?_
  split at p1
  · rename_i c
    cases q1 : listOf h1 x with
    | none => unfold isLst at c; rw [q1] at c; cases c
    | some xs1 =>
      obtain ⟨a, vs, rfl, hr, _⟩ := listOf_rel g1 r1 q1
      refine ⟨.inl ⟨rfl, vs, hK ▸ .inl hr⟩, ?_⟩
      refine tG_bind sm_M g1 p1 fun ds h2 us H2 L2 e2 x2 g2 r2 p2 => ?_
      have r1' : RelM M .b B A H2 H2 L2 x (.ref a) := r1.stay x2 fun i a ha => (g1.own i a ha).1
      cases e : idxO h2 x ds with
      | none => rw [e] at p2; exact p2.elim
      | some d =>
        rw [e] at p2
        unfold idxO at e
        split at e
        · rename_i w
          cases q2 : listOf h2 x with
          | none => rw [q2] at e; cases e
          | some xs =>
            rw [q2] at e
            have e : (if (shal 60 w && xs.all (shal 60)) = true then (fIdx w 0 xs).map fun j => D.py (.int (j : Nat)) else none) = some d := e
            split at e
            · rename_i c2
              obtain ⟨c3, c4⟩ := Bool.and_eq_true_iff.mp c2
              cases q3 : fIdx w 0 xs with
              | none => rw [q3] at e; cases e
              | some j =>
                rw [q3] at e
                cases e
                obtain ⟨k, z, ej, z1, z2, z3⟩ := fIdx_ok q3
                obtain rfl : j = k := by omega
                obtain ⟨y, rfl, ry⟩ : ∃ y, us = [y] ∧ RelM M .b B A H2 H2 L2 (.py w) y := by
                  cases r2 with
                  | cons r t => cases t; exact ⟨_, rfl, r⟩
                obtain ⟨a', vs', ea, hr', rel⟩ := listOf_rel g2 r1' q2
                cases ea
                have dep := shal_all rel.lay c4
                refine ⟨a, y, w, xs, j, z, rfl, rfl, hK ▸ .lst (.inl hr') rel.dp, hK ▸ ry.dp, ?_, ?_, z1, z2, z3, p2.fin g2 (Same.refl _) (RelM.ofP (.int _))⟩
                · unfold SeqAt.shaped
                  refine Bool.and_eq_true_iff.mpr ⟨by simp only [PyData.canLay0]; exact rel.lay, decide_eq_true ?_⟩
                  rw [PyData.depth]
                  omega
                · unfold SeqAt.shaped
                  exact Bool.and_eq_true_iff.mpr ⟨ry.lay, decide_eq_true (Nat.le_trans (shal_depth w 60 ry.lay c3) (by decide))⟩
            · cases e
        · cases e
  · exact p1.elim
end
end KF
set_option Elab.async false
set_option linter.all false
set_option maxRecDepth 100000
set_option maxHeartbeats 4000000
/-! KF, part 14: looks at the text; the language and what it means. -/
namespace KF
open PySem PySem.Spec PyProof.Rows L2
/-! ### looks at the text -/
def starOk : Expr → Bool
  | .Starred _ _ => false
  | _ => true
theorem star1 {e : Expr} {es : List Expr} {env : PySem.Env} (h : starOk e = true) : starEach (e :: es) env = (false, eval e env) :: starEach es env := by
  cases e <;> first | rfl | cases h
theorem star_any {env : PySem.Env} {pos : Pos} : ∀ {es : List Expr}, es.all starOk = true → (backTo pos (starEach es env)).any (·.1) = false := by
  intro es h
  induction es with
  | nil => rfl
  | cons e es ih =>
    rw [List.all_cons, Bool.and_eq_true] at h
    rw [star1 h.1]
    exact ih h.2
def trueOk : Expr → Bool
  | .UnaryOp .Not _ _ => false
  | .BoolOp _ _ _ => false
  | .IfExp _ _ _ _ => false
  | .Compare _ _ _ _ => false
  | _ => true
theorem isTrue1 {e : Expr} {env : PySem.Env} (h : trueOk e = true) : ∀ whole, isTrue e env whole = (do let v ← whole; standAt e.pos; holding [v] (truthy v)) := by
  cases e with
  | UnaryOp op x p => cases op <;> first | exact fun _ => rfl | cases h
  | _ => first | exact fun _ => rfl | cases h
def noComp : Expr → Bool
  | .ListComp _ _ _ _ => false
  | .SetComp _ _ _ _ => false
  | .DictComp _ _ _ _ _ => false
  | _ => true
theorem swaps1 {e : Expr} {t : Option Expr} {l : Nat} {env : PySem.Env} (h : noComp e = true) : swapsWith e t l env = pure false := by
  cases e <;> first | rfl | cases h
def noSet : Expr → Bool
  | .Set _ _ _ => false
  | _ => true
theorem folded1 {e : Expr} {env : PySem.Env} (h : noSet e = true) : ∀ x, foldedSetIterable e env x = pure x := by
  intro x
  cases e <;> first | rfl | cases h
theorem marks1 {op : CmpOp} {e : Expr} (h : noSet e = true) : behindInMarks op e = false := by
  cases e <;> first | rfl | cases h
def noSlice : Expr → Bool
  | .Slice _ _ _ _ => false
  | .Tuple _ _ _ => false
  | _ => true
theorem plain1 {e : Expr} (h : noSlice e = true) : PlainIx e := by
  cases e <;> first | (intro _ _; rfl) | cases h
def isTup : Expr → Bool
  | .Tuple _ _ _ => true
  | _ => false
theorem sw_none {tg e : Expr} {env : PySem.Env} (h : isTup e = false) : swappedStores [tg] e env = pure none := by
  cases e <;> first | (cases tg <;> rfl) | cases h
theorem sw_sub {a b : Expr} {p : Pos} {e : Expr} {env : PySem.Env} : swappedStores [.Subscript a b p] e env = pure none := by
  cases e <;> rfl
theorem asnSub {o k : Expr} {tp : Pos} {env : PySem.Env} (h : noSlice k = true) : AsnSub o k tp env := by
  intro v
  cases k <;> first | rfl | cases h
def isStar : Expr → Bool
  | .Starred _ _ => true
  | _ => false
/-- a, b = x, y with plain names: no tuple is made -/
theorem sw_two {x y : Str} {px py pt p2 : Pos} {kt k2 : Nat} {a b : Expr} {env : PySem.Env} (hk : env.scope.kind = .function) (hx : env.scope.names.lookup x = some .local) (hy : env.scope.names.lookup y = some .local) (hl : (py.line == px.line) = true) (ne : x ≠ y)
    (ns : isStar a = false) (ns2 : isStar b = false) (c1 : [a, b].all (foldedForSure 8) = false) (c2 : [a, b].all (constantsAlone 8) = false) :
    swappedStores [.Tuple [.Name x px, .Name y py] kt pt] (.Tuple [a, b] k2 p2) env = pure (some [x, y]) := by
  have hb : env.blockKind = .function := by unfold Env.blockKind; rw [hk]; rfl
  have kx : env.kindOf x = some .local := hx
  have ky : env.kindOf y = some .local := hy
  have nyx : (y == x) = false := beq_eq_false_iff_ne.mpr (Ne.symm ne)
  unfold swappedStores
  dsimp only
  rw [hb]
  simp only [List.length_cons, List.length_nil]
  rw [if_neg (by decide), if_neg (by
    intro h
    simp only [List.any_cons, List.any_nil, Bool.or_false, Bool.or_eq_true] at h
    rcases h with h | h
    · cases a <;> first | exact absurd (show false = true from h) Bool.false_ne_true | exact absurd (show true = false from ns) (by decide)
    · cases b <;> first | exact absurd (show false = true from h) Bool.false_ne_true | exact absurd (show true = false from ns2) (by decide))]
  simp only [List.head?_cons, Option.map_some, Option.getD_some, Expr.pos, List.filterMap_cons, List.filterMap_nil, kx, ky, beq_self_eq_true, Bool.true_and, hl, if_true]
  rw [c1, c2]
  have e2 : ([x, y].eraseDups).length = 2 := by
    rw [List.eraseDups_cons]
    simp [List.filter, nyx, List.eraseDups_cons]
  simp only [List.length_cons, List.length_nil, e2]
  rfl

/-- .. a name that is a cell: the tuple is made -/
theorem sw_cell {x y : Str} {px py pt p2 : Pos} {kt k2 : Nat} {a b : Expr} {env : PySem.Env} (hk : env.scope.kind = .function) (h : (env.scope.names.lookup x == some .local) = false ∨ (env.scope.names.lookup y == some .local) = false)
    (ns : isStar a = false) (ns2 : isStar b = false) : swappedStores [.Tuple [.Name x px, .Name y py] kt pt] (.Tuple [a, b] k2 p2) env = pure none := by
  have hb : env.blockKind = .function := by unfold Env.blockKind; rw [hk]; rfl
  unfold swappedStores
  dsimp only
  rw [hb]
  simp only [List.length_cons, List.length_nil]
  rw [if_neg (by decide), if_neg (by
    intro h
    simp only [List.any_cons, List.any_nil, Bool.or_false, Bool.or_eq_true] at h
    rcases h with h | h
    · cases a <;> first | exact absurd (show false = true from h) Bool.false_ne_true | exact absurd (show true = false from ns) (by decide)
    · cases b <;> first | exact absurd (show false = true from h) Bool.false_ne_true | exact absurd (show true = false from ns2) (by decide))]
  simp only [List.head?_cons, Option.map_some, Option.getD_some, Expr.pos, List.filterMap_cons, List.filterMap_nil]
  have hh : (env.kindOf x == some .local) = false ∨ (env.kindOf y == some .local) = false := h
  rcases hh with hx | hy
  · by_cases e : (env.kindOf y == some .local && py.line == px.line) = true
    · simp only [hx, e, Bool.false_and, Bool.false_eq_true, if_false, if_true]
      rfl
    · simp only [hx, e, Bool.false_and, Bool.false_eq_true, if_false]
      rfl
  · by_cases e : (env.kindOf x == some .local && px.line == px.line) = true
    · simp only [hy, e, Bool.false_and, Bool.false_eq_true, if_false, if_true]
      rfl
    · simp only [hy, e, Bool.false_and, Bool.false_eq_true, if_false]
      rfl
/-- x, y, z = [], [], c -/
theorem sw_three {x y z : Str} {px py pz pt p2 q1 q2 q3 : Pos} {kt k2 k3 : Nat} {c : Int} {env : PySem.Env} (hk : env.scope.kind = .function) (hx : env.scope.names.lookup x = some .local) (hy : env.scope.names.lookup y = some .local) (hz : env.scope.names.lookup z = some .local) (l1 : (py.line == px.line) = true) (l2 : (pz.line == px.line) = true) (n1 : x ≠ y) (n2 : x ≠ z) (n3 : y ≠ z) :
    swappedStores [.Tuple [.Name x px, .Name y py, .Name z pz] kt pt] (.Tuple [.List [] q1, .List [] q2, .Constant (.int c) k3 q3] k2 p2) env = pure (some [x, y, z]) := by
  have hb : env.blockKind = .function := by unfold Env.blockKind; rw [hk]; rfl
  have kx : env.kindOf x = some .local := hx
  have ky : env.kindOf y = some .local := hy
  have kz : env.kindOf z = some .local := hz
  have m1 : (y == x) = false := beq_eq_false_iff_ne.mpr (Ne.symm n1)
  have m2 : (z == x) = false := beq_eq_false_iff_ne.mpr (Ne.symm n2)
  have m3 : (z == y) = false := beq_eq_false_iff_ne.mpr (Ne.symm n3)
  unfold swappedStores
  dsimp only
  rw [hb]
  simp only [List.length_cons, List.length_nil]
  rw [if_neg (by decide), if_neg (by intro z; exact absurd (show false = true from z) Bool.false_ne_true)]
  simp only [List.head?_cons, Option.map_some, Option.getD_some, Expr.pos, List.filterMap_cons, List.filterMap_nil, kx, ky, kz, beq_self_eq_true, Bool.true_and, l1, l2, if_true]
  have e2 : ([x, y, z].eraseDups).length = 3 := by
    rw [List.eraseDups_cons]
    simp [List.filter, m1, m2, m3, List.eraseDups_cons]
  simp only [List.length_cons, List.length_nil, e2]
  rfl
theorem sw_cell3 {x y z : Str} {px py pz pt p2 q1 q2 q3 : Pos} {kt k2 k3 : Nat} {c : Int} {env : PySem.Env} (hk : env.scope.kind = .function) (hh : ((env.scope.names.lookup x == some .local) && (env.scope.names.lookup y == some .local) && (env.scope.names.lookup z == some .local)) = false) :
    swappedStores [.Tuple [.Name x px, .Name y py, .Name z pz] kt pt] (.Tuple [.List [] q1, .List [] q2, .Constant (.int c) k3 q3] k2 p2) env = pure none := by
  have hb : env.blockKind = .function := by unfold Env.blockKind; rw [hk]; rfl
  have hh : ((env.kindOf x == some .local) && (env.kindOf y == some .local) && (env.kindOf z == some .local)) = false := hh
  unfold swappedStores
  dsimp only
  rw [hb]
  simp only [List.length_cons, List.length_nil]
  rw [if_neg (by decide), if_neg (by intro z; exact absurd (show false = true from z) Bool.false_ne_true)]
  simp only [List.head?_cons, Option.map_some, Option.getD_some, Expr.pos, List.filterMap_cons, List.filterMap_nil, beq_self_eq_true, Bool.and_true]
  have bt : ∀ b : Bool, b = false ∨ b = true := fun b => by cases b <;> simp
  rcases bt (env.kindOf x == some .local) with e1 | e1 <;> rcases bt (env.kindOf y == some .local && py.line == px.line) with e2 | e2 <;> rcases bt (env.kindOf z == some .local && pz.line == px.line) with e3 | e3 <;> simp only [e1, e2, e3, if_true, Bool.false_eq_true, if_false] <;> try rfl
  rw [e1, (Bool.and_eq_true_iff.mp e2).1, (Bool.and_eq_true_iff.mp e3).1] at hh
  cases hh
/-! ### the language -/
inductive BOp | add | sub | mul | div | mod | pow
  deriving DecidableEq, Repr
inductive COp | eq | ne | lt | le | gt | ge | isN | notN | isin | notin
  deriving DecidableEq, Repr
inductive BI | len | int | max2 | min2 | abs | tup | lst | sum | max1 | min1 | sort
  deriving DecidableEq, Repr
/-- expressions, tests, arguments, targets, what is walked, statements -/
inductive K where
  | nil | cons (a r : K)
  | int (i : Int) | bl (b : Bool) | non | str (x : Str)
  | var (i : Nat) | varV (i : Nat)
  | bin (o : BOp) (a b : K)
  | neg (a : K) | no (a : K) | and (a b : K) | or (a b : K) | ifx (t a b : K)
  | cmp (o : COp) (a b : K) | chn (o1 o2 : COp) (a b c : K)
  | tup (es : K) | lst (es : K) | lstL (es : K) | prom (a : K)
  | ix (a b : K) | slc (a lo hi : K) | rev (a : K)
  | lc (vs : List Nat) (g it t e : K)
  | fn (i : Nat) (es : K) | bi (b : BI) (es : K) | isi (t : String) (a : K)
  | yes
  | tn (i : Nat) | tt (n : Nat) (es : K)
  | rng1 (es : K) | rng2 (es : K) | seq (a : K) | enu (es : K) | lset (a : K) | dnew | dget (a k x : K) | par3 (i j l : Nat) (c : Int)
  | skip | sq (a b : K) | ret (a : K) | exp (a : K) | ite (t a b : K) | asg (g e : K) | sto (i : Nat) (e : K) | par2 (i j : Nat) (a b : K) | parN (i j : Nat) (es : K)
  | aug (i : Nat) (o : BOp) (e : K) | put (i : Nat) (k e : K) | app (i : Nat) (e : K) | ext (i : Nat) (e : K)
  | whl (t b : K) | fr (g it b : K) | never | frz (i : Nat)
  | dk (i : Nat) | lk (i : Nat) (k : K) | parL (i j : Nat)
  | lc2 (vs vs1 : List Nat) (g it g1 it1 t e : K)
  | sset (a : K) | idx (a es : K)
  deriving DecidableEq, Repr
structure Den where
  E : EvF D
  T : EvF Bool
  A : EvF (List D)
  O : EvF (Option Int)
  I : EvF (List D)
  G : TgF
  Gs : TgFs
  ts : List Nat
  S : EvS
def Den.none : Den := ⟨fun _ _ => .bad, fun _ _ => .bad, fun _ _ => .bad, fun _ _ => .bad, fun _ _ => .bad, fun _ _ => Option.none, fun _ _ => Option.none, [], fun _ _ => .bad⟩
/-- an expression; it may stand as a test and as an end of a slice -/
def Den.e (f : EvF D) : Den := { Den.none with E := f, T := semV f, O := semSo f }
def Den.s (f : EvS) : Den := { Den.none with S := f }
def Den.i (f : EvF (List D)) : Den := { Den.none with I := f }
abbrev FnS := Nat → List D → MH → Out D
def gMulU : Int → Int → Option Int := gMul
def binF : BOp → MH → D → D → Option D
  | .add => addO
  | .sub => iop gSub
  | .mul => iop gMul
  | .div => iop gDiv
  | .mod => iop gMod
  | .pow => iop gPow
def cmpF : COp → MH → D → D → Option Bool
  | .eq => eqD
  | .ne => neD
  | .lt => icmp fun i j => decide (i < j)
  | .le => icmp fun i j => decide (i ≤ j)
  | .gt => icmp fun i j => decide (i > j)
  | .ge => icmp fun i j => decide (i ≥ j)
  | .isN => isND
  | .notN => notND
  | .isin => inUD
  | .notin => ninUD
def biF : BI → MH → List D → Option D
  | .len => fLen
  | .int => fInt
  | .max2 => fMax2
  | .min2 => fMin2
  | .abs => fAbs
  | .tup => fTup
  | .lst => fLst
  | .sum => fSum
  | .max1 => fMm PySem.W.maxD
  | .min1 => fMm PySem.W.minD
  | .sort => fSort
def itU : D → Option (List D)
  | .py (.list xs) => some (xs.map .py)
  | .py (.tuple xs) => some (xs.map .py)
  | .scr ns => some (ns.map fun i => .py (.int i))
  | _ => none
def notT (f : EvF Bool) : EvF Bool := fun env h => (f env h).bind fun b h1 => .ok (!b) h1
def bE (f : EvF Bool) : EvF D := fun env h => (f env h).bind fun b h1 => .ok (.py (.bool b)) h1
def augF : BOp → MH → D → D → Option D
  | .add => iop gAdd
  | .sub => iop gSub
  | _ => fun _ _ _ => none
/-- how often a while may turn -/
def turns : Nat := 100000
def ev (F : FnS) : K → Den
  | .nil => { Den.none with A := semNil, O := semNo, Gs := tgNil }
  | .cons a r => { Den.none with A := semCons (ev F a).E (ev F r).A, Gs := tgCons (ev F a).G (ev F r).Gs, ts := (ev F a).ts ++ (ev F r).ts }
  | .int i => .e fun _ h => .ok (.py (.int i)) h
  | .bl b => .e fun _ h => .ok (.py (.bool b)) h
  | .non => .e fun _ h => .ok (.py .none) h
  | .str x => .e fun _ h => .ok (.py (.str x)) h
  | .var i => .e fun env h => lift (look env i) h
  | .varV i => .e fun env h => lift (lookV env i) h
  | .bin o a b => .e (sem2 (ev F a).E (ev F b).E (binF o))
  | .neg a => .e (sem1 (ev F a).E negD)
  | .no a => { Den.none with E := bE (notT (semV (ev F a).E)), T := notT (ev F a).T }
  | .and a b => { Den.none with E := semAndE (ev F a).E (ev F b).E, T := semAnd (ev F a).T (ev F b).T }
  | .or a b => { Den.none with E := semOrE (ev F a).E (ev F b).E, T := semOr (ev F a).T (ev F b).T }
  | .ifx t a b => .e (semIf (ev F t).T (ev F a).E (ev F b).E)
  | .cmp o a b => { Den.none with E := bE (semC (ev F a).E (ev F b).E (cmpF o)), T := semC (ev F a).E (ev F b).E (cmpF o) }
  | .chn o1 o2 a b c => { Den.none with E := bE (semCh (ev F a).E (ev F b).E (ev F c).E (cmpF o1) (cmpF o2)), T := semCh (ev F a).E (ev F b).E (ev F c).E (cmpF o1) (cmpF o2) }
  | .tup es => .e (semTup (ev F es).A)
  | .lst es => .e (semLst (ev F es).A)
  | .lstL es => .e (semLstL (ev F es).A)
  | .prom a => .e (semProm (ev F a).E)
  | .ix a b => .e (sem2 (ev F a).E (ev F b).E ixU)
  | .slc a lo hi => .e (semSl (ev F a).E (ev F lo).O (ev F hi).O cutU)
  | .rev a => .e (sem1 (ev F a).E revT)
  | .lc vs g it t e => .e (semLc vs (ev F it).I (ev F g).G (ev F t).T (ev F e).E)
  | .fn i es => .e (semF (F i) (ev F es).A)
  | .bi b es => .e (semCl (ev F es).A (biF b))
  | .isi t a => .e (sem1 (ev F a).E (isiD t))
  | .yes => { Den.none with T := semYes }
  | .tn i => { Den.none with G := tgName i, ts := [i] }
  | .tt n es => { Den.none with G := tgTup n (ev F es).Gs, ts := (ev F es).ts }
  | .rng1 es => .i (semIt (ev F es).A rng1)
  | .rng2 es => .i (semIt (ev F es).A rng2)
  | .seq a => .i (semIt1 (ev F a).E itU)
  | .enu es => .i (semIt (ev F es).A enumO)
  | .lset a => .e (sem1 (ev F a).E lsO)
  | .dnew => .e semDNew
  | .par3 i j l c => .s (semPar3 i j l c)
  | .dget a k x => .e (semGet (ev F a).E (ev F k).E (ev F x).E)
  | .skip => .s semSkip
  | .sq a b => .s (semSeq (ev F a).S (ev F b).S)
  | .ret a => .s (semRet (ev F a).E)
  | .exp a => .s (semExp (ev F a).E)
  | .ite t a b => .s (semIfS (ev F t).T (ev F a).S (ev F b).S)
  | .asg g e => .s (semAsg (ev F e).E (ev F g).G)
  | .sto i e => .s (semSto i (ev F e).E)
  | .par2 i j a b => .s (semPar2 i j (ev F a).E (ev F b).E)
  | .parN i j es => .s (semPar i j (ev F es).A)
  | .aug i o e => .s (semAug i (ev F e).E (augF o))
  | .put i k e => .s (semPutU i (ev F k).E (ev F e).E)
  | .app i e => .s (semApp i (ev F e).E)
  | .ext i e => .s (semExt i (ev F e).E)
  | .whl t b => .s (whileF (ev F t).T (ev F b).S turns)
  | .fr g it b => .s (semFor (ev F it).I (ev F g).G (ev F b).S)
  | .never => .s semNever
  | .frz i => .s (semFrz i)
  | .dk i => .i (semKeysS i)
  | .lk i k => { Den.e (semLockE i (ev F k).E) with S := semLockS i (ev F k).S }
  | .parL i j => .s (semParL i j)
  | .sset a => .e (sem1 (ev F a).E ssO)
  | .idx a es => .e (semIdx (ev F a).E (ev F es).A)
  | .lc2 vs vs1 g it g1 it1 t e => .e (semLc2 vs vs1 (ev F it).I (ev F g).G (ev F it1).I (ev F g1).G (ev F t).T (ev F e).E)
end KF
set_option Elab.async false
set_option linter.all false
set_option maxRecDepth 100000
set_option maxHeartbeats 4000000
/-! KF, part 15: from the text to the language. -/
namespace KF
open PySem PySem.Spec PyProof.Rows L2
/-- what a module's name stands for -/
inductive GK where
  | fn (i n : Nat) | int (i : Int) | str (x : Str) | blt
  deriving DecidableEq, Repr
structure TC where
  N : List Str
  sc : Scope
  fn : Str → Bool
  G : List (Str × GK)
  own : List Nat
inductive Md | b | n | x
  deriving DecidableEq, Repr
def Md.leN : Md → Bool
  | .x => false
  | _ => true
def ixOf : List Str → Str → Option Nat
  | [], _ => none
  | y :: r, x => if y = x then some 0 else (ixOf r x).map (· + 1)
theorem ixOf_ok : ∀ {N : List Str} {x : Str} {i : Nat}, ixOf N x = some i → N[i]? = some x
  | [], _, _, h => by cases h
  | y :: r, x, i, h => by
    unfold ixOf at h
    split at h
    · rename_i e; cases h; rw [e]; rfl
    · cases q : ixOf r x with
      | none => rw [q] at h; cases h
      | some j => rw [q] at h; cases h; exact ixOf_ok (N := r) q
def kindB (sc : Scope) (x : Str) : Option NameKind := sc.names.lookup x
def visB (sc : Scope) (x : Str) : Bool := match sc.names.lookup x with
  | some .local => true
  | some .cell => true
  | some .free => true
  | _ => false
def locB (sc : Scope) (x : Str) : Bool := match sc.names.lookup x with
  | some .local => true
  | some .cell => true
  | _ => false
def locL (sc : Scope) (x : Str) : Bool := match sc.names.lookup x with
  | some .local => true
  | _ => false
def glB (sc : Scope) (x : Str) : Bool := match sc.names.lookup x with
  | some .globalImplicit => true
  | _ => false
def okN (x : Str) : Bool := !(x == ("__debug__" : Str)) && !(x == ("__classdict__" : Str))
theorem visB_ok {sc : Scope} {x : Str} (h : visB sc x = true) : Vis sc x := by
  unfold visB at h
  split at h
  · exact .inl (by assumption)
  · exact .inr (.inl (by assumption))
  · exact .inr (.inr (by assumption))
  · cases h
theorem locB_ok {sc : Scope} {x : Str} (h : locB sc x = true) : Loc sc x := by
  unfold locB at h
  split at h
  · exact .inl (by assumption)
  · exact .inr (by assumption)
  · cases h
theorem locL_ok {sc : Scope} {x : Str} (h : locL sc x = true) : sc.names.lookup x = some .local := by
  unfold locL at h
  split at h
  · assumption
  · cases h
theorem glB_ok {sc : Scope} {x : Str} (h : glB sc x = true) : sc.names.lookup x = some .globalImplicit := by
  unfold glB at h
  split at h
  · assumption
  · cases h
theorem okN_ok {x : Str} (h : okN x = true) : (x == ("__debug__" : Str)) = false ∧ (x == ("__classdict__" : Str)) = false := by
  unfold okN at h
  obtain ⟨h1, h2⟩ := Bool.and_eq_true_iff.mp h
  exact ⟨by simpa using h1, by simpa using h2⟩
def trConst (m : Md) (c : Const) : Option K := if m.leN = true then match c with
  | .int i => some (.int i)
  | .bool b => some (.bl b)
  | .none => some .non
  | .str x => if sOk x = true then some (.str x) else none
  | _ => none
  else none
def trName (C : TC) (m : Md) (x : Str) : Option K := if (visB C.sc x && okN x) = true then (ixOf C.N x).bind fun i => match m with
    | .b => some (.var i)
    | .n => some (.varV i)
    | .x => none
  else if (glB C.sc x && okN x && m.leN) = true then match C.G.lookup x with
    | some (.int i) => some (.int i)
    | some (.str z) => if sOk z = true then some (.str z) else none
    | _ => none
  else none
def trBin (m : Md) : Operator → K → K → Option K
  | .Add, a, b => some (.bin .add a b)
  | .Sub, a, b => if m.leN = true then some (.bin .sub a b) else none
  | .Mult, a, b => if m.leN = true then some (.bin .mul a b) else none
  | .FloorDiv, a, b => if m.leN = true then some (.bin .div a b) else none
  | .Mod, a, b => if m.leN = true then some (.bin .mod a b) else none
  | .Pow, a, b => if m.leN = true then some (.bin .pow a b) else none
  | _, _, _ => none
def copOf : CmpOp → Option COp
  | .Eq => some .eq
  | .NotEq => some .ne
  | .Lt => some .lt
  | .LtE => some .le
  | .Gt => some .gt
  | .GtE => some .ge
  | .Is => some .isN
  | .IsNot => some .notN
  | .In => some .isin
  | .NotIn => some .notin
def biName : BI → Str
  | .len => "len"
  | .int => "int"
  | .max2 => "max"
  | .min2 => "min"
  | .abs => "abs"
  | .tup => "tuple"
  | .lst => "list"
  | .sum => "sum"
  | .max1 => "max"
  | .min1 => "min"
  | .sort => "sorted"
def biAr : BI → Nat
  | .max2 => 2
  | .min2 => 2
  | _ => 1
def allBI : List BI := [.len, .int, .max2, .min2, .abs, .tup, .lst, .sum, .max1, .min1, .sort]
def biOf (x : Str) (n : Nat) : Option BI := allBI.find? fun b => decide (biName b = x) && biAr b == n
def biX : BI → Bool
  | .lst => true
  | .sort => true
  | _ => false
def isBlt (C : TC) (x : Str) : Bool := glB C.sc x && decide (C.G.lookup x = some .blt)
def ownOf (N : List Str) (sc : Scope) : List (Str × Nat) := sc.names.filterMap fun (x, k) => match k with
  | .local => (ixOf N x).map fun i => (x, i)
  | .cell => (ixOf N x).map fun i => (x, i)
  | _ => none
def vsOf (N : List Str) (sc : Scope) : List Nat := (ownOf N sc).map (·.2)
def TC.blk (C : TC) (sc : Scope) : TC := { C with sc := relS sc C.sc, fn := fun x => sc.names.lookup x == some .cell }
def tsK : K → List Nat
  | .cons a r => tsK a ++ tsK r
  | .tn i => [i]
  | .tt _ es => tsK es
  | _ => []
theorem ev_ts (F : FnS) : ∀ k : K, (ev F k).ts = tsK k := by
  intro k
  induction k with
  | cons a r iha ihr => show (ev F a).ts ++ (ev F r).ts = _; rw [iha, ihr]; rfl
  | tt n es ih => exact ih
  | _ => rfl
def isListCall : Expr → Bool
  | .Call (.Name x _) [_] [] _ => decide (x = "list")
  | _ => false
def isZero : Expr → Bool
  | .Constant (.int i) _ _ => decide (i = 0)
  | _ => false
/-- the slots that are read for good -/
def allV : K → List Nat
  | .varV i => [i]
  | .cons a r => allV a ++ allV r
  | .bin _ a b => allV a ++ allV b
  | .neg a => allV a
  | .no a => allV a
  | .and a b => allV a ++ allV b
  | .or a b => allV a ++ allV b
  | .ifx t a b => allV t ++ allV a ++ allV b
  | .cmp _ a b => allV a ++ allV b
  | .chn _ _ a b c => allV a ++ allV b ++ allV c
  | .tup es => allV es
  | .lst es => allV es
  | .lstL es => allV es
  | .prom a => allV a
  | .ix a b => allV a ++ allV b
  | .slc a lo hi => allV a ++ allV lo ++ allV hi
  | .rev a => allV a
  | .lc vs g it t e => allV it ++ (allV t ++ allV e).filter fun i => !vs.contains i
  | .fn _ es => allV es
  | .bi _ es => allV es
  | .isi _ a => allV a
  | .rng1 a => allV a
  | .rng2 a => allV a
  | .seq a => allV a
  | .enu a => allV a
  | .lset a => allV a
  | .dget a k x => allV a ++ allV k ++ allV x
  | .ret a => allV a
  | .exp a => allV a
  | .ite t _ _ => allV t
  | .asg _ e => allV e
  | .sto _ e => allV e
  | .par2 _ _ a b => allV a ++ allV b
  | .parN _ _ es => allV es
  | .aug _ _ e => allV e
  | .put _ k e => allV k ++ allV e
  | .app _ e => allV e
  | .ext _ e => allV e
  | .fr _ it _ => allV it
  | .lk _ k => allV k
  | .sset a => allV a
  | .idx a es => allV a ++ allV es
  | .lc2 vs _ _ it _ it1 t e => allV it ++ (allV it1 ++ allV t ++ allV e).filter fun i => !vs.contains i
  | _ => []
def frzs : List Nat → K → K
  | [], k => k
  | i :: r, k => .sq (.frz i) (frzs r k)
def swB (sc : Scope) (x : Str) (p : Pos) (s2 : Scope) (pos : Pos) : Bool := locL sc x && (p.line == pos.line) && !(s2.names.any fun (n, k) => n == x && (k == .local || k == .cell))
def plainT : K → Bool
  | .no _ => false
  | .and _ _ => false
  | .or _ _ => false
  | .cmp _ _ _ => false
  | .chn _ _ _ _ _ => false
  | .nil => false
  | .cons _ _ => false
  | .yes => false
  | .tn _ => false
  | .tt _ _ => false
  | .rng1 _ => false
  | .rng2 _ => false
  | .seq _ => false
  | .enu _ => false
  | .lset _ => true
  | .dnew => true
  | .dget _ _ _ => true
  | .int _ => true
  | .bl _ => true
  | .non => true
  | .str _ => true
  | .var _ => true
  | .varV _ => true
  | .bin _ _ _ => true
  | .neg _ => true
  | .ifx _ _ _ => true
  | .tup _ => true
  | .lst _ => true
  | .lstL _ => true
  | .prom _ => true
  | .ix _ _ => true
  | .slc _ _ _ => true
  | .rev _ => true
  | .lc _ _ _ _ _ => true
  | .fn _ _ => true
  | .bi _ _ => true
  | .isi _ _ => true
  | .lk _ _ => true
  | .lc2 _ _ _ _ _ _ _ _ => true
  | .sset _ => true
  | .idx _ _ => true
  | _ => false
/-- a slot that holds a dict: a hint -/
def dctS (C : TC) (i : Nat) : Bool := C.own.contains (1000 + i)
/-- a walk of a dict's keys stands under its lock -/
def lkOf : K → Option Nat
  | .lc _ _ (.dk i) _ _ => some i
  | .fr _ (.dk i) _ => some i
  | _ => none
def lkW (k s : K) : K := match lkOf k with
  | some i => .lk i s
  | none => s
def isDk : K → Bool
  | .dk _ => true
  | _ => false
def isLL : Expr → Bool
  | .List [] _ => true
  | _ => false
def tyOf (t : Str) : Option String := tys.find? fun s => decide (Str.ofString s = t) && decide (bootBuiltins t = some (.type s))
mutual
def trE : Nat → TC → Md → Expr → Option K
  | 0, _, _, _ => none
  | n + 1, C, m, e => match e with
    | .Constant c _ _ => trConst m c
    | .Name x _ => trName C m x
    | .BinOp a op b _ => (trE n C .b a).bind fun ka => (trE n C .b b).bind fun kb => trBin m op ka kb
    | .UnaryOp .USub a _ => if m.leN = true then (trE n C .b a).map .neg else none
    | .UnaryOp .Not a _ => if m.leN = true then (trE n C .b a).map .no else none
    | .BoolOp op vs _ => if m.leN = true then trV n C op vs else none
    | .IfExp t a b _ => (trT n C t).bind fun kt => (trE n C m a).bind fun ka => (trE n C m b).bind fun kb => some (.ifx kt ka kb)
    | .Compare a [op] [b] _ => if (m.leN && noSet b) = true then (copOf op).bind fun o => (trE n C .b a).bind fun ka => (trE n C .b b).bind fun kb => some (.cmp o ka kb) else none
    | .Compare a [op, op'] [b, c] _ => if (m.leN && noSet c) = true then (copOf op).bind fun o => (copOf op').bind fun o' => (trE n C .b a).bind fun ka => (trE n C .b b).bind fun kb => (trE n C .b c).bind fun kc => some (.chn o o' ka kb kc) else none
    | .Tuple es _ _ => if m.leN = true then (trA n C .n es).map .tup else none
    | .List es _ => trLst n C m es
    | .Subscript a (.Slice lo hi none _) _ => (trE n C .b a).bind fun ka => (trO n C lo).bind fun kl => (trO n C hi).bind fun kh => some (.slc ka kl kh)
    | .Subscript a (.Slice none none (some (.UnaryOp .USub (.Constant (.int i) _ _) _)) _) _ => if (m.leN && decide (i = 1)) = true then (trE n C .b a).map .rev else none
    | .Subscript a b _ => if (m.leN && noSlice b) = true then (trE n C .b a).bind fun ka => (trE n C .b b).bind fun kb => some (.ix ka kb) else none
    | .ListComp elt [⟨tg, it, ifs, as⟩] sc _ => if as = 0 then (trLc n C elt tg it ifs sc).map (fun k => lkW k k) else none
    | .ListComp elt [⟨tg, it, [], as⟩, ⟨tg1, it1, ifs1, as1⟩] sc _ => if (decide (as = 0) && decide (as1 = 0)) = true then trLc2 n C elt tg it tg1 it1 ifs1 sc else none
    | .Call (.Name x _) (a :: es) [] _ => trCall n C m x (a :: es)
    | .Dict [] [] _ => if m.leN = true then some .dnew else none
    | .Call (.Attribute (.Name x np) f apos) [e1] [] cpos => if f = "index" then
        if (m.leN && starOk e1 && (apos.endLine == cpos.line)) = true then (trE n C .b (.Name x np)).bind fun ka => (trA n C .b [e1]).bind fun k1 => some (.idx ka k1) else none
      else none
    | .Call (.Attribute (.Name x np) f apos) [e1, e2] [] cpos => if f = "get" then
        if (m.leN && starOk e1 && starOk e2 && (apos.endLine == cpos.line)) = true then (trE n C .n (.Name x np)).bind fun ka => (trE n C .b e1).bind fun k1 => (trE n C .n e2).bind fun k2 => some (.dget ka k1 k2) else none
      else none
    | _ => none
def trV : Nat → TC → BoolOp → List Expr → Option K
  | 0, _, _, _ => none
  | n + 1, C, op, es => match es with
    | [a] => trE n C .n a
    | a :: b :: r => (trE n C .n a).bind fun ka => (trV n C op (b :: r)).bind fun kr => match op with
      | .And => some (.and ka kr)
      | .Or => some (.or ka kr)
    | [] => none
def trT : Nat → TC → Expr → Option K
  | 0, _, _ => none
  | n + 1, C, e => match e with
    | .UnaryOp .Not a _ => (trT n C a).map .no
    | .BoolOp op vs _ => trVT n C op vs
    | .Compare a [op] [b] _ => if noSet b = true then (copOf op).bind fun o => (trE n C .b a).bind fun ka => (trE n C .b b).bind fun kb => some (.cmp o ka kb) else none
    | .Compare a [op, op'] [b, c] _ => if noSet c = true then (copOf op).bind fun o => (copOf op').bind fun o' => (trE n C .b a).bind fun ka => (trE n C .b b).bind fun kb => (trE n C .b c).bind fun kc => some (.chn o o' ka kb kc) else none
    | e => if trueOk e = true then (trE n C .b e).bind fun k => if plainT k = true then some k else none else none
def trVT : Nat → TC → BoolOp → List Expr → Option K
  | 0, _, _, _ => none
  | n + 1, C, op, es => match es with
    | [a] => trT n C a
    | a :: b :: r => (trT n C a).bind fun ka => (trVT n C op (b :: r)).bind fun kr => match op with
      | .And => some (.and ka kr)
      | .Or => some (.or ka kr)
    | [] => none
def trA : Nat → TC → Md → List Expr → Option K
  | 0, _, _, _ => none
  | n + 1, C, m, es => match es with
    | [] => some .nil
    | e :: r => if starOk e = true then (trE n C m e).bind fun k => (trA n C m r).bind fun kr => some (.cons k kr) else none
def trO : Nat → TC → Option Expr → Option K
  | 0, _, _ => none
  | n + 1, C, o => match o with
    | none => some .nil
    | some e => (trE n C .b e).bind fun k => if plainT k = true then some k else none
def trLst : Nat → TC → Md → List Expr → Option K
  | 0, _, _, _ => none
  | n + 1, C, m, es => match es with
    | [a, l, z] => if (isListCall l && isZero z) = true then
        if (m.leN && starOk a && starOk l && starOk z) = true then (trE n C .n a).bind fun ka => (trE n C .x l).bind fun kl => (trE n C .n z).bind fun kz => some (.lstL (.cons ka (.cons (.prom kl) (.cons kz .nil)))) else none
      else (trA n C .n es).map .lst
    | _ => (trA n C .n es).map .lst
def trLc : Nat → TC → Expr → Expr → Expr → List Expr → Scope → Option K
  | 0, _, _, _, _, _, _ => none
  | n + 1, C, elt, tg, it, ifs, sc => if (blkC C.N C.sc sc (ownOf C.N sc) && noSet it) = true then
      (trI n C tg it).bind fun ki => (trG n (C.blk sc) tg).bind fun kg => if ((tsK kg).all fun i => (vsOf C.N sc).contains i) = true then
        (match ifs with
          | [] => some K.yes
          | [t] => trT n (C.blk sc) t
          | _ => none).bind fun kt => (trE n (C.blk sc) .n elt).bind fun ke => some (K.lc (vsOf C.N sc) kg ki kt ke)
      else none
    else none
def trLc2 : Nat → TC → Expr → Expr → Expr → Expr → Expr → List Expr → Scope → Option K
  | 0, _, _, _, _, _, _, _, _ => none
  | n + 1, C, elt, tg, it, tg1, it1, ifs1, sc => if (blkC C.N C.sc sc (ownOf C.N sc) && noSet it && noSet it1) = true then
      (trI n C tg it).bind fun ki => (trG n (C.blk sc) tg).bind fun kg => (trI n (C.blk sc) tg1 it1).bind fun ki1 => (trG n (C.blk sc) tg1).bind fun kg1 => if ((tsK kg).all (fun i => (vsOf C.N sc).contains i) && (tsK kg1).all (fun i => (vsOf C.N sc).contains i) && !isDk ki && !isDk ki1) = true then
        (match ifs1 with
          | [] => some K.yes
          | [t] => trT n (C.blk sc) t
          | _ => none).bind fun kt => (trE n (C.blk sc) .n elt).bind fun ke => some (K.lc2 (vsOf C.N sc) (tsK kg1) kg ki kg1 ki1 kt ke)
      else none
    else none
def trCall : Nat → TC → Md → Str → List Expr → Option K
  | 0, _, _, _, _ => none
  | n + 1, C, m, x, es => if (es.all starOk && okN x && glB C.sc x) = true then
      if x = "len" then
        (match es with
          | [.Call (.Name y _) [b] [] _] => if y = "set" then
              if (m.leN && isBlt C "len" && isBlt C "set" && starOk b) = true then (trE n C .b b).map .lset else none
            else trCallO n C m x es
          | _ => trCallO n C m x es)
      else if x = "sorted" then
        (match es with
          | [.Call (.Name y _) [b] [] _] => if y = "set" then
              if (isBlt C "sorted" && isBlt C "set" && starOk b) = true then (trE n C .b b).map .sset else none
            else trCallO n C m x es
          | _ => trCallO n C m x es)
      else if x = "isinstance" then
        (match es with
          | [a, .Name t _] => if (m.leN && isBlt C "isinstance" && isBlt C t && okN t) = true then match tyOf t with
            | some ty => (trE n C .b a).map (.isi ty)
            | none => none
            else none
          | _ => none)
      else trCallO n C m x es
    else none
def trCallO : Nat → TC → Md → Str → List Expr → Option K
  | 0, _, _, _, _ => none
  | n + 1, C, m, x, es => match C.G.lookup x with
        | some (.fn i k) => if (m.leN && es.length == k) = true then (trA n C .n es).map (.fn i) else none
        | some .blt => (match biOf x es.length with
          | some b => if (m.leN || biX b) = true then (trA n C .b es).map (.bi b) else none
          | none => none)
        | _ => none
def trI : Nat → TC → Expr → Expr → Option K
  | 0, _, _, _ => none
  | n + 1, C, tg, e => match e with
    | .Call (.Name x p) es [] pos => if x = "range" then
        (if isBlt C "range" = true then match es with
          | [a] => if starOk a = true then (trA n C .b [a]).map .rng1 else none
          | [a, b] => if (starOk a && starOk b) = true then (trA n C .b [a, b]).map .rng2 else none
          | _ => none
        else none)
      else if x = "enumerate" then
        (match tg, es with
          | .Tuple _ _ _, [a] => if (isBlt C "enumerate" && starOk a) = true then (trA n C .n [a]).map .enu else none
          | _, _ => none)
      else (trE n C .n (.Call (.Name x p) es [] pos)).map .seq
    | .Name x p => (match ixOf C.N x with
      | some i => if (dctS C i && visB C.sc x && okN x) = true then some (.dk i) else (trE n C .n (.Name x p)).map .seq
      | none => (trE n C .n (.Name x p)).map .seq)
    | e => (trE n C .n e).map .seq
def trG : Nat → TC → Expr → Option K
  | 0, _, _ => none
  | n + 1, C, tg => match tg with
    | .Name x _ => if (locB C.sc x && (C.fn x || locL C.sc x)) = true then (ixOf C.N x).map .tn else none
    | .Tuple es _ _ => (trGs n C es).map (.tt es.length)
    | _ => none
def trGs : Nat → TC → List Expr → Option K
  | 0, _, _ => none
  | n + 1, C, es => match es with
    | [] => some .nil
    | e :: r => if starOk e = true then (trG n C e).bind fun k => (trGs n C r).bind fun kr => some (.cons k kr) else none
end
def trX (n : Nat) (C : TC) (e : Expr) : Option K := match e with
    | .Call (.Attribute (.Name x _) f apos) [a] [] cpos => if (visB C.sc x && okN x && starOk a && (apos.endLine == cpos.line)) = true then
        (ixOf C.N x).bind fun i => (trE n C .n a).bind fun k => if f = "append" then some (.app i k) else if f = "extend" then some (.ext i k) else none
      else none
    | e => if noComp e = true then (trE n C .b e).map .exp else none
def trAsg (n : Nat) (C : TC) (tg e : Expr) : Option K := match tg with
    | .Name x p => if (locB C.sc x && (C.fn x || locL C.sc x)) = true then (ixOf C.N x).bind fun i => match e with
        | .ListComp elt [⟨tg', it, ifs, as⟩] sc pos => if as = 0 then (trLc n C elt tg' it ifs sc).map (fun k => lkW k (.sto i k)) else none
        | .ListComp elt [⟨tg', it, [], as⟩, ⟨tg1, it1, ifs1, as1⟩] sc pos => if (decide (as = 0) && decide (as1 = 0)) = true then (trLc2 n C elt tg' it tg1 it1 ifs1 sc).map (.sto i) else none
        | e => if noComp e = true then match trE n C .x e with
          | some k => some (.sto i k)
          | none => (trE n C .n e).map fun k => .asg (.tn i) k
          else none
      else none
    | .Subscript (.Name x _) k _ => if (visB C.sc x && okN x && noSlice k && noComp e) = true then (ixOf C.N x).bind fun i => (trE n C .b k).bind fun kk => (trE n C .n e).bind fun ke => some (.put i kk ke) else none
    | .Tuple ts kt pt => (match ts, e with
        | [.Name x px, .Name y py], .Tuple [.List [] _, .List [] _] _ _ => if (locL C.sc x && locL C.sc y && (py.line == px.line) && !decide (x = y)) = true then
            (ixOf C.N x).bind fun i => (ixOf C.N y).bind fun j => some (.parL i j)
          else if ((!locL C.sc x || !locL C.sc y) && locB C.sc x && locB C.sc y && (C.fn x || locL C.sc x) && (C.fn y || locL C.sc y)) = true then
            (ixOf C.N x).bind fun i => (ixOf C.N y).bind fun j => some (.parL i j) else none
        | [.Name x px, .Name y py], .Tuple [a, b] _ _ => if (locL C.sc x && locL C.sc y && (py.line == px.line) && !decide (x = y) && starOk a && starOk b && !([a, b].all (foldedForSure 8)) && !([a, b].all (constantsAlone 8))) = true then
            (ixOf C.N x).bind fun i => (ixOf C.N y).bind fun j => (trE n C .n a).bind fun ka => match trE n C .x b with
              | some kb => some (.par2 i j ka kb)
              | none => (trE n C .n b).bind fun kb => some (.parN i j (.cons ka (.cons kb .nil)))
          else if ((!locL C.sc x || !locL C.sc y) && starOk a && starOk b) = true then
            (trG n C (.Tuple [.Name x px, .Name y py] kt pt)).bind fun kg => (trA n C .n [a, b]).bind fun ke => some (.asg kg (.tup ke))
          else none
        | [.Name x px, .Name y py, .Name z pz], .Tuple [.List [] _, .List [] _, .Constant (.int c) _ _] _ _ => if (locL C.sc x && locL C.sc y && locL C.sc z && (py.line == px.line) && (pz.line == px.line) && !decide (x = y) && !decide (x = z) && !decide (y = z)) = true then
            (ixOf C.N x).bind fun i => (ixOf C.N y).bind fun j => (ixOf C.N z).bind fun l => some (.par3 i j l c)
          else if (!(locL C.sc x && locL C.sc y && locL C.sc z) && locB C.sc x && locB C.sc y && locB C.sc z && (C.fn x || locL C.sc x) && (C.fn y || locL C.sc y) && (C.fn z || locL C.sc z)) = true then
            (ixOf C.N x).bind fun i => (ixOf C.N y).bind fun j => (ixOf C.N z).bind fun l => some (.par3 i j l c) else none
        | ts, e => if (!isTup e && noComp e) = true then (trG n C (.Tuple ts kt pt)).bind fun kg => (trE n C .n e).bind fun ke => some (.asg kg ke) else none)
    | _ => none
mutual
def trS : Nat → TC → Stmt → Option K
  | 0, _, _ => none
  | n + 1, C, st => match st with
    | .Pass _ => some .skip
    | .Return (some e) _ => (trE n C .b e).map .ret
    | .Expr e _ => trX n C e
    | .If t a b _ => (trT n C t).bind fun kt => (trSs n C a).bind fun ka => (trSs n C b).bind fun kb => some (.ite kt ka kb)
    | .Assign [tg] e pos => trAsg n C tg e
    | .AugAssign (.Name x _) op e _ => if (locB C.sc x && (C.fn x || locL C.sc x)) = true then (ixOf C.N x).bind fun i => (trE n C .b e).bind fun k => match op with
        | .Add => some (.aug i .add k)
        | .Sub => some (.aug i .sub k)
        | _ => none
      else none
    | .For tg it body [] _ => if noSet it = true then (trI n C tg it).bind fun ki => (trG n C tg).bind fun kg => (trSs n C body).bind fun kb => some (lkW (.fr kg ki kb) (.fr kg ki kb)) else none
    | .While t body [] _ => (trT n C t).bind fun kt => (trSs n C body).bind fun kb => some (.whl kt kb)
    | .Raise _ _ _ => some .never
    | _ => none
def trSs : Nat → TC → List Stmt → Option K
  | 0, _, _ => none
  | n + 1, C, sts => match sts with
    | [] => some .skip
    | [st] => (trS n C st).bind fun k1 => some (frzs ((allV k1).eraseDups.filter fun i => C.own.contains i) k1)
    | st :: rest => (trS n C st).bind fun k1 => (trSs n C rest).bind fun k2 => some (frzs ((allV k1).eraseDups.filter fun i => C.own.contains i) (.sq k1 k2))
end
end KF
set_option Elab.async false
set_option linter.all false
set_option maxRecDepth 100000
set_option maxHeartbeats 4000000
/-! KF, part 16: what the language means is what the text does. -/
namespace KF
open PySem PySem.Spec PyProof.Rows L2
section
variable {X : Cx} {M : MK} {W : WX}
theorem k_promX {e : Expr} {f : EvF D} (p : PE X e (kX M W f)) : PE X e (kE M .n W (semProm f)) := by
  refine PE.mono p fun σ H Q ⟨B, L, A, h, env, g, q⟩ => ⟨B, L, A, h, env, g, ?_⟩
  unfold semProm at q
  cases ef : f env h with
  | ok d h' =>
    rw [ef] at q
    unfold PostX
    dsimp only
    by_cases el : isL d = true
    · rw [if_pos el]
      intro ps H1 L1 a vs ed x g1 ha r
      subst ed
      exact newP_rel g1 ha (RelDs.ofPs r) (Post.from (R := RelM M .n) sm_M x q)
    · rw [if_neg el]
      have q : Post M B A env σ W (RelM M .n B A) H L Q (promO d h') := q
      unfold promO at q
      split at q
      · exact absurd rfl el
      · exact q.elim
  | exc c fs h' => rw [ef] at q; exact q
  | bad => rw [ef] at q; exact q
theorem bE_semC {fa fb : EvF D} {fo : MH → D → D → Option Bool} : bE (semC fa fb fo) = sem2 fa fb (boolD fo) := by
  funext env h
  unfold bE semC sem2
  cases fa env h with
  | ok x h1 =>
    show ((Out.bind (fb env h1) fun y h2 => lift (fo h2 x y) h2).bind fun b h1 => .ok (.py (.bool b)) h1) = (fb env h1).bind fun y h2 => lift (boolD fo h2 x y) h2
    cases fb env h1 with
    | ok y h2 =>
      show ((lift (fo h2 x y) h2).bind fun b h1 => .ok (.py (.bool b)) h1) = lift (boolD fo h2 x y) h2
      unfold boolD
      cases fo h2 x y <;> rfl
    | exc c fs h2 => rfl
    | bad => rfl
  | exc c fs h1 => rfl
  | bad => rfl
theorem bE_not {f : EvF Bool} : bE (notT f) = fun env h => (f env h).bind fun b h1 => .ok (.py (.bool (!b))) h1 := by
  funext env h
  unfold bE notT
  cases f env h <;> rfl
def SrcS (K : PySem.W.Frag) (a : Addr) (ns : List Int) : Hp → (Addr → Prop) → Prop := fun H _ => SqF K H a (ns.map V.int)
theorem srcS_stay {K : PySem.W.Frag} {a : Addr} {ns : List Int} : ∀ H Z H' Z', Stay H Z H' Z' → SrcS K a ns H Z → SrcS K a ns H' Z' := by
  rintro H Z H' Z' s (⟨o, e⟩ | e)
  · exact .inl ⟨o, s.frzs _ _ _ e⟩
  · exact .inr e
theorem wit_scr (hK : M.K = X.K) {a : Addr} {ns : List Int} : WIt M (Itl X.K a) (ns.map fun i => .py (.int i)) (SrcS M.K a ns) := by
  rintro B H L A h env σ g src i
  have h1 : SqL X.K H a (ns.map V.int) := hK ▸ SqF.l src
  refine ⟨fun hl => ⟨_, h1, by rw [List.length_map] at hl ⊢; exact hl⟩, fun x hx => ?_⟩
  rw [List.getElem?_map] at hx
  cases q : ns[i]? with
  | none => rw [q] at hx; cases hx
  | some d =>
    rw [q] at hx; cases hx
    have e1 : (ns.map V.int)[i]? = some (V.int d) := by rw [List.getElem?_map, q]; rfl
    refine ⟨⟨_, _, h1, e1⟩, fun w H' hy => ?_⟩
    obtain ⟨rfl, hy⟩ := hy
    have := hy _ h1
    rw [e1] at this; cases this
    exact ⟨Same.refl _, .py (.int _)⟩
def itS : D → Option (List D)
  | .scr ns => some (ns.map fun i => .py (.int i))
  | _ => none
theorem i_scr (hK : M.K = X.K) {tg a : Expr} {f : EvF D} (ha : PE X a (kE M .n W f)) : PI X tg a (kI M W (semIt1 f itS)) := by
  refine PI.mono (pi_list ha) fun σ H Q ⟨B, L, A, h, env, g, p⟩ => ?_
  refine ⟨B, L, A, h, env, g, ?_⟩
  unfold semIt1 at p
  cases e : f env h with
  | ok d h1 =>
    rw [e] at p
    intro v H1 L1 x1 g1 r1
    have p : Post M B A env σ W _ H L Q (lift (itS d) h1) := p
    cases e2 : itS d with
    | none => rw [e2] at p; exact p.elim
    | some xs =>
      rw [e2] at p
      unfold itS at e2
      split at e2
      · cases e2
        cases r1 with
        | @scr _ a h1 => exact ⟨a, rfl, ⟨_, hK ▸ h1.l⟩, p _ _ _ x1 g1 ⟨SrcS M.K a _, wit_scr hK, srcS_stay, h1⟩⟩
      · cases e2
  | exc c fs h1 => rw [e] at p; exact p
  | bad => rw [e] at p; exact p
theorem i_seq (hK : M.K = X.K) {tg a : Expr} {f : EvF D} (ha : PE X a (kE M .n W f)) : PI X tg a (kI M W (semIt1 f itU)) := by
  refine PI.mono (PI.or (i_list hK ha) (PI.or (i_tup hK ha) (i_scr hK ha))) fun σ H Q ⟨B, L, A, h, env, g, p⟩ => ?_
  unfold semIt1 at p
  cases e : f env h with
  | ok d h1 =>
    rw [e] at p
    have key : ∀ it : D → Option (List D), itU d = it d → kI M W (semIt1 f it) σ H Q := fun it ei => ⟨B, L, A, h, env, g, by
      unfold semIt1
      rw [e]
      have p : Post M B A env σ W _ H L Q (lift (itU d) h1) := p
      rw [ei] at p
      exact p⟩
    cases d with
    | loc n => exact .inl (key itL rfl)
    | scr n => exact .inr (.inr (key itS rfl))
    | py d =>
      cases d with
      | list xs => exact .inl (key itL rfl)
      | tuple xs => exact .inr (.inl (key itT rfl))
      | _ => exact .inl (key itL rfl)
  | exc c fs h1 => exact .inl ⟨B, L, A, h, env, g, by unfold semIt1; rw [e] at p ⊢; exact p⟩
  | bad => rw [e] at p; exact p.elim
theorem semLc_isL {vs : List Nat} {fi : EvF (List D)} {g : TgF} {ft : EvF Bool} {fe : EvF D} : ∀ env h d h', semLc vs fi g ft fe env h = .ok d h' → isL d = true := by
  intro env h d h' e
  unfold semLc at e
  cases q : fi env h with
  | exc c fs h1 => rw [q] at e; cases e
  | bad => rw [q] at e; cases e
  | ok xs h1 =>
    rw [q] at e
    have e : (match wipeE env vs with
      | none => Out.bad
      | some ew => (lcF g ft fe ew xs h1).nx mkL) = .ok d h' := e
    split at e
    · cases e
    · obtain ⟨a, h2, _, e2⟩ := Out.nx_ok e
      obtain ⟨rfl, _⟩ := mkL_ok e2
      rfl
theorem kF_of_kX {f : EvF D} (hl : ∀ env h d h', f env h = .ok d h' → isL d = true) {σ : L2.St} {H : Hp} {Q : VK} (q : kX M W f σ H Q) : kF M W f σ H Q := by
  obtain ⟨B, L, A, h, env, g, q⟩ := q
  refine ⟨B, L, A, h, env, g, ?_⟩
  cases ef : f env h with
  | ok d h' =>
    rw [ef] at q
    unfold PostX at q
    dsimp only at q
    rw [if_pos (hl _ _ _ _ ef)] at q
    exact q
  | exc c fs h' => rw [ef] at q; exact q
  | bad => rw [ef] at q; exact q
theorem s_stoLc {i : Nat} {y : Str} {py : Pos} {elt tg iter : Expr} {ifs : List Expr} {scope : Scope} {own : List (Str × Nat)} {pos spos : Pos} {ts : List Nat} {fi : EvF (List D)} {g : TgF} {ft : EvF Bool} {fe : EvF D} (hc : X.calm = true) (hN : X.N.Nodup) (hy : X.N[i]? = some y) (hyl : X.env.scope.names.lookup y = some .local)
    (hsw : swapsWith (.ListComp elt [⟨tg, iter, ifs, 0⟩] scope pos) (some (.Name y py)) spos.line X.env = pure true) (hi : PI X tg iter (kI M W fi)) (ok : BlkOk X.N X.env.scope scope own)
    (sub : ∀ i ∈ ts, i ∈ own.map (·.2)) (hg : BlkPE X scope fun Y => PG Y tg (kG M ts g)) (ht : BlkPE X scope fun Y => PTs Y ifs (kT M WX0 ft)) (he : BlkPE X scope fun Y => PE Y elt (kE M .n WX0 fe)) (hs : ∀ x, foldedSetIterable iter X.env x = pure x) :
    PS X (.Assign [.Name y py] (.ListComp elt [⟨tg, iter, ifs, 0⟩] scope pos) spos) (kS M W (semSto i (semLc (own.map (·.2)) fi g ft fe))) :=
  PS.mono (ps_setLc hc hN hy hyl hsw hi ok hg ht he hs) fun _ _ _ q => lc_read sub (kF_of_kX semLc_isL (sto_core q))
theorem sw_comp {elt : Expr} {gs : List Comprehension} {scope : Scope} {pos py : Pos} {y : Str} {l : Nat} {env : PySem.Env} (hk : env.scope.kind = .function) : swapsWith (.ListComp elt gs scope pos) (some (.Name y py)) l env = pure (swB env.scope y py scope pos) := by
  have hb : env.blockKind = .function := by unfold Env.blockKind; rw [hk]; rfl
  have e1 : (env.kindOf y == some .local) = locL env.scope y := by
    unfold locL
    show (env.scope.names.lookup y == some .local) = _
    cases env.scope.names.lookup y with
    | none => rfl
    | some k => cases k <;> rfl
  unfold swapsWith swB
  simp only [hb, e1, Expr.pos, beq_self_eq_true, Bool.true_and]
theorem s_one {st : Stmt} {f : EvS} (h1 : PS X st (kS M W f)) : PSs X [st] (kS M W f) := by
  refine PSs.mono (s_cons h1 s_nil) fun De σ H ⟨B, L, A, h, env, g, p⟩ => ⟨B, L, A, h, env, g, ?_⟩
  unfold semSeq
  cases e : f env h with
  | nx env' h' => rw [e] at p; exact p
  | rt d h' => rw [e] at p; exact p
  | exc c fs env' h' => rw [e] at p; exact p
  | bad => rw [e] at p; exact p
def kM (M : MK) : Md → WX → EvF D → TE
  | .b, W, f => kE M .b W f
  | .n, W, f => kE M .n W f
  | .x, W, f => kX M W f
theorem of_n {m : Md} {e : Expr} {f : EvF D} (h : m.leN = true) (p : PE X e (kE M .n W f)) : PE X e (kM M m W f) := by
  cases m with
  | b => exact PE.weak (m' := .b) p rfl
  | n => exact p
  | x => cases h
theorem of_x {m : Md} {e : Expr} {f : EvF D} (p : PE X e (kX M W f)) : PE X e (kM M m W f) := by
  cases m with
  | b => exact PE.weak (m' := .b) (PE.ofX p) rfl
  | n => exact PE.ofX p
  | x => exact p
theorem bnd {α β : Type} {o : Option α} {f : α → Option β} {b : β} (h : o.bind f = some b) : ∃ a, o = some a ∧ f a = some b := by
  cases o with
  | none => cases h
  | some a => exact ⟨a, rfl, h⟩
theorem mp_ {α β : Type} {o : Option α} {f : α → β} {b : β} (h : o.map f = some b) : ∃ a, o = some a ∧ f a = b := by
  cases o with
  | none => cases h
  | some a => exact ⟨a, rfl, Option.some.inj h⟩
theorem ite_ {α : Type} {c : Bool} {o : Option α} {b : α} (h : (if c = true then o else none) = some b) : c = true ∧ o = some b := by
  cases c with
  | false => cases h
  | true => exact ⟨rfl, h⟩
theorem itp_ {α : Type} {c : Prop} [Decidable c] {o : Option α} {b : α} (h : (if c then o else none) = some b) : c ∧ o = some b := by
  by_cases hc : c
  · rw [if_pos hc] at h; exact ⟨hc, h⟩
  · rw [if_neg hc] at h; cases h
end
/-! ### the place -/
structure FnI (F : FnS) (X : Cx) (M : MK) (x : Str) (i n : Nat) : Prop where
  ex : ∃ (fa : Addr) (fd : FuncData) (ps : List Str) (k : Nat), X.mg x = some (.ref fa) ∧ PySem.W.keepIn X.K (.ref fa) = true ∧ Binds X.K fd ps [] ∧ Room k X.A ∧ FnOk X.prog X.w X.K X.mg X.base (L2.CX X.prog X.w) k fa fd ps (spF M n (F i))
  ar : ∀ ds h, F i ds h ≠ .bad → ds.length = n
def GOk (F : FnS) (X : Cx) (M : MK) (x : Str) : GK → Prop
  | .int i => ∃ t, X.mg x = some (.int i t)
  | .str z => ∃ t, X.mg x = some (.str z t)
  | .blt => X.mg x = none
  | .fn i n => FnI F X M x i n
structure XOk (F : FnS) (C : TC) (X : Cx) (M : MK) (W : WX) : Prop where
  N : X.N = C.N
  nd : C.N.Nodup
  sc : X.env.scope = C.sc
  kind : C.sc.kind = .function
  fn : ∀ x, C.fn x = true → X.fn x = true
  K : M.K = X.K
  of : Of M X
  calm : X.calm = true
  tk : Takes X W
  own : PassesOwn (model X.prog X.w) X.A X.env X.xe
  un : X.A.units + 200 < cLine
  gl : ∀ x g, C.G.lookup x = some g → GOk F X M x g
section
variable {F : FnS} {C : TC} {X : Cx} {M : MK} {W : WX}
theorem XOk.ix (k : XOk F C X M W) {x : Str} {i : Nat} (h : ixOf C.N x = some i) : X.N[i]? = some x := by rw [k.N]; exact ixOf_ok h
theorem XOk.nodup (k : XOk F C X M W) : X.N.Nodup := by rw [k.N]; exact k.nd
theorem XOk.vis (k : XOk F C X M W) {x : Str} (h : visB C.sc x = true) : Vis X.env.scope x := by rw [k.sc]; exact visB_ok h
theorem XOk.lo (k : XOk F C X M W) {x : Str} (h : locB C.sc x = true) : Loc X.env.scope x := by rw [k.sc]; exact locB_ok h
theorem XOk.ll (k : XOk F C X M W) {x : Str} (h : locL C.sc x = true) : X.env.scope.names.lookup x = some .local := by rw [k.sc]; exact locL_ok h
theorem XOk.g (k : XOk F C X M W) {x : Str} (h : glB C.sc x = true) : Gl X x := by
  show X.env.scope.names.lookup x = _
  rw [k.sc]; exact glB_ok h
theorem XOk.f (k : XOk F C X M W) {x : Str} (h : (C.fn x || locL C.sc x) = true) : X.fn x = true ∨ X.env.scope.names.lookup x = some .local := by
  rcases Bool.or_eq_true_iff.mp h with h | h
  · exact .inl (k.fn x h)
  · exact .inr (k.ll h)
theorem XOk.bl (k : XOk F C X M W) {x : Str} (h : isBlt C x = true) : Gl X x ∧ X.mg x = none := by
  obtain ⟨h1, h2⟩ := Bool.and_eq_true_iff.mp h
  exact ⟨k.g h1, k.gl x _ (of_decide_eq_true h2)⟩
theorem XOk.blk (k : XOk F C X M W) {sc : Scope} (hk : sc.kind = .function) (s : Shared) (H : Hp) (Cc : Addr) (cl : List (Str × Addr)) (fp : List Addr) : XOk F (C.blk sc) (X.blk s H sc (compEnvC sc cl Cc X.env) fp) M WX0 where
  N := k.N
  nd := k.nd
  sc := by
    show relS sc X.env.scope = relS sc C.sc
    rw [k.sc]
  kind := hk
  fn := fun x h => h
  K := k.K
  of := ⟨k.of.K, k.of.prog, k.of.w⟩
  calm := k.calm
  tk := takes0
  own := PassesOwn.never
  un := k.un
  gl := fun x g h => by
    have := k.gl x g h
    cases g with
    | int i => exact this
    | str z => exact this
    | blt => exact this
    | fn i n => exact ⟨this.ex, this.ar⟩
theorem cmp_ok (k : XOk F C X M W) {op : CmpOp} {o : COp} (h : copOf op = some o) : ∃ r, OpR X (compareOp op) r ∧ Cm2 M r (cmpF o) := by
  have hu : X.A.units + 64 < cLine := by have := k.un; omega
  have hu2 : X.A.units + 65 < cLine := by have := k.un; omega
  cases op <;> cases h
  · exact ⟨_, op_eqS hu, k.K ▸ c_eq⟩
  · exact ⟨_, op_neS hu, k.K ▸ c_ne⟩
  · exact ⟨_, op_lt, c_int _⟩
  · exact ⟨_, op_le, c_int _⟩
  · exact ⟨_, op_gt, c_int _⟩
  · exact ⟨_, op_ge, c_int _⟩
  · exact ⟨_, op_isN, c_isN⟩
  · exact ⟨_, op_notN, c_notN⟩
  · exact ⟨_, op_or (op_inU hu2) (op_inDct k.of (by have := k.un; omega)), k.K ▸ c_inU⟩
  · exact ⟨_, op_or (op_ninU hu2) (op_ninDct k.of (by have := k.un; omega)), k.K ▸ c_ninU⟩
/-- built-ins -/
theorem bi_n (k : XOk F C X M W) {b : BI} {np pos : Pos} {e : Expr} {es : List Expr} {f : EvF (List D)} (hn : biX b = false) (hg : Gl X (biName b)) (hm : X.mg (biName b) = none) (ha : PA X (e :: es) (kA M .b W f)) (hs : (e :: es).all starOk = true) :
    PE X (.Call (.Name (biName b) np) (e :: es) [] pos) (kE M .n W (semCl f (biF b))) := by
  rw [List.all_cons, Bool.and_eq_true] at hs
  cases b with
  | len => exact k_callB call_len (k.K ▸ b_len) hg hm (by decide +kernel) ha (by decide) (by decide) (star1 hs.1) (star_any hs.2)
  | int => exact k_callTy call_int1 b_int hg hm (by decide +kernel) ha (by decide) (by decide) (star1 hs.1) (star_any hs.2)
  | max2 => exact k_callB (call_max2 k.calm) b_max2 hg hm (by decide +kernel) ha (by decide) (by decide) (star1 hs.1) (star_any hs.2)
  | min2 => exact k_callB (call_min2 k.calm) b_min2 hg hm (by decide +kernel) ha (by decide) (by decide) (star1 hs.1) (star_any hs.2)
  | abs => exact k_callB call_abs b_abs hg hm (by decide +kernel) ha (by decide) (by decide) (star1 hs.1) (star_any hs.2)
  | tup => exact k_callTy call_tuple_of (b_tup k.K) hg hm (by decide +kernel) ha (by decide) (by decide) (star1 hs.1) (star_any hs.2)
  | lst => cases hn
  | sum => exact k_callB (cr_sumU k.calm) (k.K ▸ b_sum) hg hm (by decide +kernel) ha (by decide) (by decide) (star1 hs.1) (star_any hs.2)
  | max1 => exact k_callB (cr_maxU k.calm (by have := k.un; omega)) (k.K ▸ b_mm maxD_mem) hg hm (by decide +kernel) ha (by decide) (by decide) (star1 hs.1) (star_any hs.2)
  | min1 => exact k_callB (cr_minU k.calm (by have := k.un; omega)) (k.K ▸ b_mm minD_mem) hg hm (by decide +kernel) ha (by decide) (by decide) (star1 hs.1) (star_any hs.2)
  | sort => cases hn
theorem fSort_isL {h : MH} {ds : List D} {d : D} (e : fSort h ds = some d) : isL d = true := by
  unfold fSort at e
  split at e
  · obtain ⟨a, _, e⟩ := bnd e
    split at e
    · cases e; rfl
    · cases e
  · cases e
theorem fLst_isL {h : MH} {ds : List D} {d : D} (e : fLst h ds = some d) : isL d = true := by
  unfold fLst at e
  split at e
  · cases e; rfl
  · cases e; rfl
  · obtain ⟨a, _, rfl⟩ := mp_ e; rfl
  · cases e
theorem ssO_isL {h : MH} {x d : D} (e : ssO h x = some d) : isL d = true := by
  unfold ssO at e
  split at e
  · obtain ⟨a, _, rfl⟩ := mp_ e; rfl
  · obtain ⟨a, _, e⟩ := bnd e
    obtain ⟨b, _, rfl⟩ := mp_ e; rfl
theorem sem1_isL {f : EvF D} {fo : MH → D → Option D} (hl : ∀ h x d, fo h x = some d → isL d = true) : ∀ env h d h', sem1 f fo env h = .ok d h' → isL d = true := by
  intro env h d h' e
  unfold sem1 at e
  cases q : f env h with
  | exc c fs h1 => rw [q] at e; cases e
  | bad => rw [q] at e; cases e
  | ok x h1 =>
    rw [q] at e
    have e : lift (fo h1 x) h1 = .ok d h' := e
    cases q2 : fo h1 x with
    | none => rw [q2] at e; cases e
    | some y => rw [q2] at e; cases e; exact hl _ _ _ q2
theorem semCl_isL {f : EvF (List D)} {fo : MH → List D → Option D} (hl : ∀ h ds d, fo h ds = some d → isL d = true) : ∀ env h d h', semCl f fo env h = .ok d h' → isL d = true := by
  intro env h d h' e
  unfold semCl at e
  cases q : f env h with
  | exc c fs h1 => rw [q] at e; cases e
  | bad => rw [q] at e; cases e
  | ok xs h1 =>
    rw [q] at e
    have e : lift (fo h1 xs) h1 = .ok d h' := e
    cases q2 : fo h1 xs with
    | none => rw [q2] at e; cases e
    | some d2 => rw [q2] at e; cases e; exact hl _ _ _ q2
theorem bi_x (k : XOk F C X M W) {b : BI} {np pos : Pos} {e : Expr} {es : List Expr} {f : EvF (List D)} (hn : biX b = true) (hg : Gl X (biName b)) (hm : X.mg (biName b) = none) (ha : PA X (e :: es) (kA M .b W f)) (hs : (e :: es).all starOk = true) :
    PE X (.Call (.Name (biName b) np) (e :: es) [] pos) (kX M W (semCl f (biF b))) := by
  rw [List.all_cons, Bool.and_eq_true] at hs
  cases b with
  | sort => exact PE.xOfF (k_callBF (cr_sortedU (by have := k.un; omega)) (k.K ▸ b_sort) hg hm (by decide +kernel) ha (by decide) (by decide) (star1 hs.1) (star_any hs.2)) (semCl_isL fun _ _ _ e => fSort_isL e)
  | lst => exact PE.xOfF (k_callTyF call_list_of (b_lst k.K) hg hm (by decide +kernel) ha (by decide) (by decide) (star1 hs.1) (star_any hs.2)) (semCl_isL fun _ _ _ e => fLst_isL e)
  | _ => cases hn
theorem bin_n {op : Operator} {m : Md} {ka kb k2 : K} {a b : Expr} {pos : Pos} (k : XOk F C X M W) (h : trBin m op ka kb = some k2) (ha : PE X a (kE M .b W (ev F ka).E)) (hb : PE X b (kE M .b W (ev F kb).E)) : PE X (.BinOp a op b pos) (kM M m W (ev F k2).E) := by
  cases op <;> try (cases h; done)
  · cases h
    exact of_x (k_opX op_addU (k.K ▸ o_addU) ha hb)
  · obtain ⟨hm, h⟩ := ite_ h
    cases h
    exact of_n hm (k_op op_sub o_sub ha hb)
  · obtain ⟨hm, h⟩ := ite_ h
    cases h
    exact of_n hm (k_op op_mul o_mul ha hb)
  · obtain ⟨hm, h⟩ := ite_ h
    cases h
    exact of_n hm (k_op op_mod o_mod ha hb)
  · obtain ⟨hm, h⟩ := ite_ h
    cases h
    exact of_n hm (k_op op_pow o_pow ha hb)
  · obtain ⟨hm, h⟩ := ite_ h
    cases h
    exact of_n hm (k_op op_fdiv o_div ha hb)
theorem const_ok {m : Md} {c : Const} {k2 : K} {kk : Nat} {pos : Pos} (h : trConst m c = some k2) : PE X (.Constant c kk pos) (kM M m W (ev F k2).E) := by
  obtain ⟨hm, h⟩ := ite_ h
  cases c <;> try (cases h; done)
  · cases h; exact of_n hm k_none
  · cases h; exact of_n hm k_bool
  · cases h; exact of_n hm k_int
  · obtain ⟨ho, h⟩ := ite_ h
    cases h; exact of_n hm (k_str ho)
theorem name_ok (k : XOk F C X M W) {m : Md} {x : Str} {k2 : K} {pos : Pos} (h : trName C m x = some k2) : PE X (.Name x pos) (kM M m W (ev F k2).E) := by
  unfold trName at h
  split at h
  · rename_i c
    obtain ⟨c1, c2⟩ := Bool.and_eq_true_iff.mp c
    obtain ⟨d1, d2⟩ := okN_ok c2
    obtain ⟨i, hi, h⟩ := bnd h
    cases m with
    | b => cases h; exact k_var (k.ix hi) (k.vis c1) d1 d2
    | n => cases h; exact k_varV (k.ix hi) (k.vis c1) d1 d2
    | x => cases h
  · obtain ⟨c, h⟩ := ite_ h
    obtain ⟨c, hm⟩ := Bool.and_eq_true_iff.mp c
    obtain ⟨c1, c2⟩ := Bool.and_eq_true_iff.mp c
    obtain ⟨d1, d2⟩ := okN_ok c2
    split at h
    · rename_i i e
      cases h
      obtain ⟨t, et⟩ := k.gl x _ e
      exact of_n hm (k_const (pe_glob (v := .int i) (k.g c1) et ⟨t, rfl⟩ d1) fun _ _ => .int i)
    · rename_i z e
      obtain ⟨ho, h⟩ := ite_ h
      cases h
      obtain ⟨t, et⟩ := k.gl x _ e
      exact of_n hm (k_const (pe_glob (v := .str z) (k.g c1) et ⟨t, rfl⟩ d1) fun _ _ => .str z ho)
    · cases h
end
theorem m2_of {X : Cx} {x : Str} {np apos cpos : Pos} {e f : Expr} (s1 : starOk e = true) (s2 : starOk f = true) (hl : (apos.endLine == cpos.line) = true) : M2 X (.Name x np) "get" apos e f cpos := by
  have t : starEach [e, f] X.env = [(false, eval e X.env), (false, eval f X.env)] := by rw [star1 s1, star1 s2]; rfl
  exact ⟨rfl, by rw [t]; rfl, hl, by rw [t]; rfl⟩
/-! ### the statements of soundness, by the fuel -/
abbrev At (P : FnS → TC → Cx → MK → WX → Prop) : Prop := ∀ F C X M W, XOk F C X M W → P F C X M W
def SE (n : Nat) : Prop := At fun F C X M W => ∀ m e k, trE n C m e = some k → PE X e (kM M m W (ev F k).E)
def SV (n : Nat) : Prop := At fun F C X M W => ∀ op es k pos, trV n C op es = some k → PE X (.BoolOp op es pos) (kE M .n W (ev F k).E)
def ST (n : Nat) : Prop := At fun F C X M W => ∀ e k, trT n C e = some k → PT X e (kT M W (ev F k).T)
def SVT (n : Nat) : Prop := At fun F C X M W => ∀ op es k pos, trVT n C op es = some k → PW X (.BoolOp op es pos) (kT M W (ev F k).T)
def mdM : Md → Mode
  | .b => .b
  | _ => .n
def SA (n : Nat) : Prop := At fun F C X M W => ∀ m es k, m ≠ .x → trA n C m es = some k → PA X es (kA M (mdM m) W (ev F k).A) ∧ es.all starOk = true
def SO (n : Nat) : Prop := At fun F C X M W => ∀ o k, trO n C o = some k → PO X o (kO M W (ev F k).O)
def SL (n : Nat) : Prop := At fun F C X M W => ∀ m es k pos, trLst n C m es = some k → PE X (.List es pos) (kM M m W (ev F k).E)
structure LcP (F : FnS) (C : TC) (X : Cx) (M : MK) (W : WX) (elt tg it : Expr) (ifs : List Expr) (sc : Scope) (k : K) : Prop where
  ex : ∃ (kg ki kt ke : K), k = .lc ((ownOf C.N sc).map (·.2)) kg ki kt ke ∧ PI X tg it (kI M W (ev F ki).I) ∧ BlkOk X.N X.env.scope sc (ownOf C.N sc) ∧ (∀ i ∈ tsK kg, i ∈ (ownOf C.N sc).map (·.2)) ∧
    (BlkPE X sc fun Y => PG Y tg (kG M (tsK kg) (ev F kg).G)) ∧ (BlkPE X sc fun Y => PTs Y ifs (kT M WX0 (ev F kt).T)) ∧ (BlkPE X sc fun Y => PE Y elt (kE M .n WX0 (ev F ke).E)) ∧ ∀ x, foldedSetIterable it X.env x = pure x
def SLc (n : Nat) : Prop := At fun F C X M W => ∀ elt tg it ifs sc k, trLc n C elt tg it ifs sc = some k → LcP F C X M W elt tg it ifs sc k
structure Lc2P (F : FnS) (C : TC) (X : Cx) (M : MK) (W : WX) (elt tg it tg1 it1 : Expr) (ifs1 : List Expr) (sc : Scope) (k : K) : Prop where
  ex : ∃ kg ki kg1 ki1 kt ke, k = .lc2 (vsOf C.N sc) (tsK kg1) kg ki kg1 ki1 kt ke ∧ PI X tg it (kI M W (ev F ki).I) ∧ BlkOk X.N X.env.scope sc (ownOf C.N sc) ∧ (∀ i ∈ tsK kg1, i ∈ (ownOf C.N sc).map (·.2)) ∧ (∀ i ∈ tsK kg, i ∈ (ownOf C.N sc).map (·.2)) ∧
    BlkPE X sc (fun Y => PG Y tg (kG M (tsK kg) (ev F kg).G)) ∧ BlkPE X sc (fun Y => PI Y tg1 it1 (kI M WX0 (ev F ki1).I)) ∧ BlkPE X sc (fun Y => PG Y tg1 (kG M (tsK kg1) (ev F kg1).G)) ∧ BlkPE X sc (fun Y => PTs Y ifs1 (kT M WX0 (ev F kt).T)) ∧ BlkPE X sc (fun Y => PE Y elt (kE M .n WX0 (ev F ke).E)) ∧ (∀ x, foldedSetIterable it X.env x = pure x) ∧ ∀ env x, foldedSetIterable it1 env x = pure x
def SLc2 (n : Nat) : Prop := At fun F C X M W => ∀ elt tg it tg1 it1 ifs1 sc k, trLc2 n C elt tg it tg1 it1 ifs1 sc = some k → Lc2P F C X M W elt tg it tg1 it1 ifs1 sc k
def SC (n : Nat) : Prop := At fun F C X M W => ∀ m x e es k np pos, trCall n C m x (e :: es) = some k → PE X (.Call (.Name x np) (e :: es) [] pos) (kM M m W (ev F k).E)
def SCO (n : Nat) : Prop := At fun F C X M W => ∀ m x e es k np pos, (e :: es).all starOk = true → okN x = true → glB C.sc x = true → trCallO n C m x (e :: es) = some k → PE X (.Call (.Name x np) (e :: es) [] pos) (kM M m W (ev F k).E)
def SI (n : Nat) : Prop := At fun F C X M W => ∀ tg e k, trI n C tg e = some k → PI X tg e (kI M W (ev F k).I)
def SG (n : Nat) : Prop := At fun F C X M W => ∀ tg k, trG n C tg = some k → PG X tg (kG M (tsK k) (ev F k).G)
def SGs (n : Nat) : Prop := At fun F C X M W => ∀ es k, trGs n C es = some k → PGs X es (kGs M (tsK k) (ev F k).Gs) ∧ es.all starOk = true
structure Snd (n : Nat) : Prop where
  e : SE n
  v : SV n
  t : ST n
  vt : SVT n
  a : SA n
  o : SO n
  l : SL n
  lc : SLc n
  lc2 : SLc2 n
  c : SC n
  co : SCO n
  i : SI n
  g : SG n
  gs : SGs n
theorem plainT_ok {F : FnS} {k : K} (h : plainT k = true) : (ev F k).T = semV (ev F k).E ∧ (ev F k).O = semSo (ev F k).E := by
  cases k <;> first | exact ⟨rfl, rfl⟩ | cases h
theorem semLockE_isL {i : Nat} {f : EvF D} (hl : ∀ env h d h', f env h = .ok d h' → isL d = true) : ∀ env h d h', semLockE i f env h = .ok d h' → isL d = true := by
  intro env h d h' e
  unfold semLockE at e
  split at e
  · rename_i n kvs q
    cases q2 : f env (h.set n (.lck kvs)) with
    | exc c fs h1 => rw [q2] at e; cases e
    | bad => rw [q2] at e; cases e
    | ok d2 h2 =>
      rw [q2] at e
      unfold unlkE at e
      dsimp only at e
      split at e
      · cases e; exact hl _ _ _ _ q2
      · cases e
  · cases e
theorem lkW_e {F : FnS} {X : Cx} {M : MK} {W : WX} {e : Expr} {k : K} {vs : List Nat} {kg ki kt ke : K} (hk : k = .lc vs kg ki kt ke) (p : PE X e (kF M W (ev F k).E)) (hl : ∀ env h d h', (ev F k).E env h = .ok d h' → isL d = true) : PE X e (kX M W (ev F (lkW k k)).E) := by
  unfold lkW
  cases q : lkOf k with
  | none => exact PE.xOfF p hl
  | some i => exact PE.xOfF (k_lockF p) (semLockE_isL hl)
theorem lkW_s {F : FnS} {X : Cx} {M : MK} {W : WX} {st : Stmt} {k s : K} (p : PS X st (kS M W (ev F s).S)) : PS X st (kS M W (ev F (lkW k s)).S) := by
  unfold lkW
  cases q : lkOf k with
  | none => exact p
  | some i => exact s_lock p
theorem semLc2_isL {vs vs1 : List Nat} {fi fi1 : EvF (List D)} {g g1 : TgF} {ft : EvF Bool} {fe : EvF D} : ∀ env h d h', semLc2 vs vs1 fi g fi1 g1 ft fe env h = .ok d h' → isL d = true := by
  intro env h d h' e
  unfold semLc2 at e
  cases q : fi env h with
  | exc c fs h1 => rw [q] at e; cases e
  | bad => rw [q] at e; cases e
  | ok xs h1 =>
    rw [q] at e
    have e : (match wipeE env vs with
      | none => Out.bad
      | some ew => (lc2F g fi1 g1 vs1 ft fe ew xs h1).nx mkL) = .ok d h' := e
    split at e
    · cases e
    · obtain ⟨a, h2, _, e2⟩ := Out.nx_ok e
      obtain ⟨rfl, _⟩ := mkL_ok e2
      rfl
theorem semLst_isL {f : EvF (List D)} : ∀ env h d h', semLst f env h = .ok d h' → isL d = true := by
  intro env h d h' e
  unfold semLst at e
  cases q : f env h with
  | exc c fs h1 => rw [q] at e; cases e
  | bad => rw [q] at e; cases e
  | ok xs h1 =>
    rw [q] at e
    have e : lift (mkLst xs) h1 = .ok d h' := e
    cases q2 : mkLst xs with
    | none => rw [q2] at e; cases e
    | some d2 => rw [q2] at e; cases e; obtain ⟨ps, _, rfl, _⟩ := mkLst_some q2; rfl
end KF
set_option Elab.async false
set_option linter.all false
set_option maxRecDepth 100000
set_option maxHeartbeats 4000000
/-! KF, part 17: soundness. -/
namespace KF
open PySem PySem.Spec PyProof.Rows L2
theorem snd_e {n : Nat} (s : Snd n) : SE (n + 1) := by
  intro F C X M W k m e k2 h
  unfold trE at h
  split at h
  · exact const_ok h
  · exact name_ok k h
  · rename_i a op b _
    obtain ⟨ka, h1, h⟩ := bnd h
    obtain ⟨kb, h2, h⟩ := bnd h
    exact bin_n k h (s.e F C X M W k .b a ka h1) (s.e F C X M W k .b b kb h2)
  · rename_i a _
    obtain ⟨hm, h⟩ := ite_ h
    obtain ⟨ka, h1, rfl⟩ := mp_ h
    exact of_n hm (k_neg (s.e F C X M W k .b a ka h1))
  · rename_i a _
    obtain ⟨hm, h⟩ := ite_ h
    obtain ⟨ka, h1, rfl⟩ := mp_ h
    refine of_n hm ?_
    show PE X _ (kE M .n W (bE (notT (semV (ev F ka).E))))
    rw [bE_not]
    exact k_notE k.K (s.e F C X M W k .b a ka h1)
  · rename_i op vs pos
    obtain ⟨hm, h⟩ := ite_ h
    exact of_n hm (s.v F C X M W k op vs k2 pos h)
  · rename_i t a b _
    obtain ⟨kt, h0, h⟩ := bnd h
    obtain ⟨ka, h1, h⟩ := bnd h
    obtain ⟨kb, h2, h⟩ := bnd h
    cases h
    have pt := s.t F C X M W k t kt h0
    have pa := s.e F C X M W k m a ka h1
    have pb := s.e F C X M W k m b kb h2
    cases m with
    | b => exact k_ifx (m := .b) pt pa pb
    | n => exact k_ifx (m := .n) pt pa pb
    | x => exact k_ifxX pt pa pb
  · rename_i a op b _
    obtain ⟨hm, h⟩ := ite_ h
    obtain ⟨hm, hs⟩ := Bool.and_eq_true_iff.mp hm
    obtain ⟨o, ho, h⟩ := bnd h
    obtain ⟨ka, h1, h⟩ := bnd h
    obtain ⟨kb, h2, h⟩ := bnd h
    cases h
    obtain ⟨r, q1, q2⟩ := cmp_ok k ho
    refine of_n hm ?_
    show PE X _ (kE M .n W (bE (semC (ev F ka).E (ev F kb).E (cmpF o))))
    rw [bE_semC]
    exact k_cmp q1 q2.op (s.e F C X M W k .b a ka h1) (s.e F C X M W k .b b kb h2) (marks1 hs)
  · rename_i a op op' b c _
    obtain ⟨hm, h⟩ := ite_ h
    obtain ⟨hm, hs⟩ := Bool.and_eq_true_iff.mp hm
    obtain ⟨o, ho, h⟩ := bnd h
    obtain ⟨o', ho', h⟩ := bnd h
    obtain ⟨ka, h1, h⟩ := bnd h
    obtain ⟨kb, h2, h⟩ := bnd h
    obtain ⟨kc, h3, h⟩ := bnd h
    cases h
    obtain ⟨r, q1, q2⟩ := cmp_ok k ho
    obtain ⟨r', q1', q2'⟩ := cmp_ok k ho'
    exact of_n hm (k_chain q1 q1' q2 q2' (s.e F C X M W k .b a ka h1) (s.e F C X M W k .b b kb h2) (s.e F C X M W k .b c kc h3) (marks1 hs))
  · rename_i es _ _
    obtain ⟨hm, h⟩ := ite_ h
    obtain ⟨ka, h1, rfl⟩ := mp_ h
    exact of_n hm (k_tup (s.a F C X M W k .n es ka (by decide) h1).1)
  · rename_i es pos
    exact s.l F C X M W k m es k2 pos h
  · rename_i a lo hi _ _
    obtain ⟨ka, h1, h⟩ := bnd h
    obtain ⟨kl, h2, h⟩ := bnd h
    obtain ⟨kh, h3, h⟩ := bnd h
    cases h
    exact of_x (k_slX k.K (s.e F C X M W k .b a ka h1) (s.o F C X M W k lo kl h2) (s.o F C X M W k hi kh h3))
  · rename_i a i _ _ _ _ _
    obtain ⟨hc, h2⟩ := ite_ h
    obtain ⟨hm, hi⟩ := Bool.and_eq_true_iff.mp hc
    obtain ⟨ka, h1, rfl⟩ := mp_ h2
    clear h h2 hc
    obtain rfl : i = 1 := of_decide_eq_true hi
    exact of_n hm (k_revT k.K (s.e F C X M W k .b a ka h1))
  · rename_i a b _ _ _
    obtain ⟨hm, h⟩ := ite_ h
    obtain ⟨hm, hs⟩ := Bool.and_eq_true_iff.mp hm
    obtain ⟨ka, h1, h⟩ := bnd h
    obtain ⟨kb, h2, h⟩ := bnd h
    cases h
    exact of_n hm (k_ix (IxR.or ix_seq (ix_dict k.of (by have := k.un; omega))) (k.K ▸ o_ixU) (s.e F C X M W k .b a ka h1) (s.e F C X M W k .b b kb h2) (plain1 hs))
  · rename_i elt tg it ifs as sc pos
    obtain ⟨ha, h⟩ := itp_ h
    subst ha
    obtain ⟨kl, h1, rfl⟩ := mp_ h
    obtain ⟨kg, ki, kt, ke, rfl, q1, q2, q3, q4, q5, q6, q7⟩ := (s.lc F C X M W k elt tg it ifs sc kl h1).ex
    exact of_x (lkW_e rfl (k_lc k.calm k.nodup q1 q2 q3 q4 q5 q6 q7) semLc_isL)
  · rename_i elt tg it as tg1 it1 ifs1 as1 sc pos
    obtain ⟨hc, h⟩ := ite_ h
    obtain ⟨ha, ha1⟩ := Bool.and_eq_true_iff.mp hc
    obtain rfl : as = 0 := of_decide_eq_true ha
    obtain rfl : as1 = 0 := of_decide_eq_true ha1
    obtain ⟨kg, ki, kg1, ki1, kt, ke, rfl, q1, q2, q3, q4, q5, q6, q7, q8, q9, q10, q11⟩ := (s.lc2 F C X M W k elt tg it tg1 it1 ifs1 sc k2 h).ex
    exact of_x (PE.xOfF (k_lc2 k.calm k.nodup q1 q2 q3 q4 (fun _ z => z) q5 q6 q7 q8 q9 q10 q11) semLc2_isL)
  · rename_i x np a es pos
    exact s.c F C X M W k m x a es k2 np pos h
  · obtain ⟨hm, h⟩ := ite_ h
    cases h
    exact of_n hm k_dnew
  · rename_i x np f apos e1 cpos
    obtain ⟨ef, h⟩ := itp_ h
    subst ef
    obtain ⟨hc, h⟩ := ite_ h
    simp only [Bool.and_eq_true] at hc
    obtain ⟨⟨hm, s1⟩, hl⟩ := hc
    obtain ⟨ka, h1, h⟩ := bnd h
    obtain ⟨kb, h2, h⟩ := bnd h
    cases h
    exact of_n hm (k_idx k.K (by have := k.un; omega) (s.e F C X M W k .b _ ka h1) (s.a F C X M W k .b _ kb (by decide) h2).1 (by rw [star1 s1]; rfl) rfl hl)
  · rename_i x np f apos e1 e2 cpos
    obtain ⟨ef, h⟩ := itp_ h
    subst ef
    obtain ⟨hc, h⟩ := ite_ h
    simp only [Bool.and_eq_true] at hc
    obtain ⟨⟨⟨hm, s1⟩, s2⟩, hl⟩ := hc
    obtain ⟨ka, h1, h⟩ := bnd h
    obtain ⟨kb, h2, h⟩ := bnd h
    obtain ⟨kc, h3, h⟩ := bnd h
    cases h
    exact of_n hm (k_get2 k.of (by have := k.un; omega) (s.e F C X M W k .n _ ka h1) (s.e F C X M W k .b _ kb h2) (s.e F C X M W k .n _ kc h3) (m2_of s1 s2 hl))
  · cases h
theorem snd_v {n : Nat} (s : Snd n) : SV (n + 1) := by
  intro F C X M W k op es k2 pos h
  unfold trV at h
  split at h
  · rename_i a
    exact pe_one (s.e F C X M W k .n a k2 h)
  · rename_i a b r
    obtain ⟨ka, h1, h⟩ := bnd h
    obtain ⟨kr, h2, h⟩ := bnd h
    cases op with
    | And => cases h; exact k_andE k.K (s.e F C X M W k .n a ka h1) (s.v F C X M W k .And (b :: r) kr pos h2)
    | Or => cases h; exact k_orE k.K (s.e F C X M W k .n a ka h1) (s.v F C X M W k .Or (b :: r) kr pos h2)
  · cases h
theorem snd_t {n : Nat} (s : Snd n) : ST (n + 1) := by
  intro F C X M W k e k2 h
  unfold trT at h
  split at h
  · rename_i a _
    obtain ⟨ka, h1, rfl⟩ := mp_ h
    exact k_not (s.t F C X M W k a ka h1)
  · rename_i op vs pos
    exact (s.vt F C X M W k op vs k2 pos h).pt
  · rename_i a op b _
    obtain ⟨hs, h⟩ := ite_ h
    obtain ⟨o, ho, h⟩ := bnd h
    obtain ⟨ka, h1, h⟩ := bnd h
    obtain ⟨kb, h2, h⟩ := bnd h
    cases h
    obtain ⟨r, q1, q2⟩ := cmp_ok k ho
    exact k_cmpT q1 q2 (s.e F C X M W k .b a ka h1) (s.e F C X M W k .b b kb h2) (marks1 hs)
  · rename_i a op op' b c _
    obtain ⟨hs, h⟩ := ite_ h
    obtain ⟨o, ho, h⟩ := bnd h
    obtain ⟨o', ho', h⟩ := bnd h
    obtain ⟨ka, h1, h⟩ := bnd h
    obtain ⟨kb, h2, h⟩ := bnd h
    obtain ⟨kc, h3, h⟩ := bnd h
    cases h
    obtain ⟨r, q1, q2⟩ := cmp_ok k ho
    obtain ⟨r', q1', q2'⟩ := cmp_ok k ho'
    exact k_chainT q1 q1' q2 q2' (s.e F C X M W k .b a ka h1) (s.e F C X M W k .b b kb h2) (s.e F C X M W k .b c kc h3) (marks1 hs)
  · rename_i e _ _ _ _
    obtain ⟨ht, h⟩ := ite_ h
    obtain ⟨ka, h1, h⟩ := bnd h
    obtain ⟨hp, h⟩ := ite_ h
    cases h
    rw [(plainT_ok hp).1]
    exact k_val k.K (s.e F C X M W k .b _ k2 h1) (isTrue1 ht)
theorem snd_vt {n : Nat} (s : Snd n) : SVT (n + 1) := by
  intro F C X M W k op es k2 pos h
  unfold trVT at h
  split at h
  · rename_i a
    have p := s.t F C X M W k a k2 h
    cases op with
    | And => exact k_and1 p
    | Or => exact k_or1 p
  · rename_i a b r
    obtain ⟨ka, h1, h⟩ := bnd h
    obtain ⟨kr, h2, h⟩ := bnd h
    cases op with
    | And => cases h; exact k_and (s.t F C X M W k a ka h1) (s.vt F C X M W k .And (b :: r) kr pos h2)
    | Or => cases h; exact k_or (s.t F C X M W k a ka h1) (s.vt F C X M W k .Or (b :: r) kr pos h2)
  · cases h
theorem snd_a {n : Nat} (s : Snd n) : SA (n + 1) := by
  intro F C X M W k m es k2 hx h
  unfold trA at h
  split at h
  · cases h; exact ⟨k_nil, rfl⟩
  · rename_i e r
    obtain ⟨hs, h⟩ := ite_ h
    obtain ⟨ka, h1, h⟩ := bnd h
    obtain ⟨kr, h2, h⟩ := bnd h
    cases h
    obtain ⟨p2, a2⟩ := s.a F C X M W k m r kr hx h2
    have p1 := s.e F C X M W k m e ka h1
    refine ⟨?_, by rw [List.all_cons, hs, a2]; rfl⟩
    cases m with
    | b => exact k_cons p1 p2 (star1 hs)
    | n => exact k_cons p1 p2 (star1 hs)
    | x => exact absurd rfl hx
theorem snd_o {n : Nat} (s : Snd n) : SO (n + 1) := by
  intro F C X M W k o k2 h
  unfold trO at h
  split at h
  · cases h; exact k_no
  · rename_i e
    obtain ⟨ka, h1, h⟩ := bnd h
    obtain ⟨hp, h⟩ := ite_ h
    cases h
    rw [(plainT_ok hp).2]
    exact k_so (s.e F C X M W k .b e k2 h1)
theorem lst_ok {n : Nat} (s : Snd n) {F : FnS} {C : TC} {X : Cx} {M : MK} {W : WX} (k : XOk F C X M W) {m : Md} {es : List Expr} {k2 : K} {pos : Pos} (h : (trA n C .n es).map K.lst = some k2) : PE X (.List es pos) (kM M m W (ev F k2).E) := by
  obtain ⟨ka, h1, rfl⟩ := mp_ h
  exact of_x (PE.xOfF (k_lst (s.a F C X M W k .n es ka (by decide) h1).1) semLst_isL)
theorem snd_l {n : Nat} (s : Snd n) : SL (n + 1) := by
  intro F C X M W k m es k2 pos h
  unfold trLst at h
  split at h
  · rename_i a l z
    split at h
    · obtain ⟨hc, h⟩ := ite_ h
      simp only [Bool.and_eq_true] at hc
      obtain ⟨⟨⟨hm, s1⟩, s2⟩, s3⟩ := hc
      obtain ⟨ka, h1, h⟩ := bnd h
      obtain ⟨kl, h2, h⟩ := bnd h
      obtain ⟨kz, h3, h⟩ := bnd h
      cases h
      refine of_n hm (k_lstL (k_cons (s.e F C X M W k .n a ka h1) (k_cons (k_promX (s.e F C X M W k .x l kl h2)) (k_cons (s.e F C X M W k .n z kz h3) k_nil (star1 s3)) (star1 s2)) (star1 s1)))
    · exact lst_ok s k h
  · exact lst_ok s k h
theorem snd_lc {n : Nat} (s : Snd n) : SLc (n + 1) := by
  intro F C X M W k elt tg it ifs sc k2 h
  unfold trLc at h
  obtain ⟨hc, h⟩ := ite_ h
  obtain ⟨hb, hs⟩ := Bool.and_eq_true_iff.mp hc
  obtain ⟨ki, h1, h⟩ := bnd h
  obtain ⟨kg, h2, h⟩ := bnd h
  obtain ⟨ht, h⟩ := ite_ h
  obtain ⟨kt, h3, h⟩ := bnd h
  obtain ⟨ke, h4, h⟩ := bnd h
  cases h
  have bo : BlkOk X.N X.env.scope sc (ownOf C.N sc) := by rw [k.N, k.sc]; exact blkOk_by hb
  refine ⟨kg, ki, kt, ke, rfl, s.i F C X M W k tg it ki h1, bo, fun i hi => ?_, fun s' H Cc cl fp => ?_, fun s' H Cc cl fp => ?_, fun s' H Cc cl fp => ?_, folded1 hs⟩
  · have := List.all_eq_true.mp ht i hi
    simpa [vsOf] using this
  · exact s.g _ _ _ _ _ (k.blk bo.kind s' H Cc cl fp) tg kg h2
  · have kb := k.blk bo.kind s' H Cc cl fp
    split at h3
    · cases h3; exact k_yes
    · exact pts_one (s.t _ _ _ _ _ kb _ kt h3)
    · cases h3
  · exact s.e _ _ _ _ _ (k.blk bo.kind s' H Cc cl fp) .n elt ke h4
theorem snd_lc2 {n : Nat} (s : Snd n) : SLc2 (n + 1) := by
  intro F C X M W k elt tg it tg1 it1 ifs1 sc k2 h
  unfold trLc2 at h
  obtain ⟨hc, h⟩ := ite_ h
  simp only [Bool.and_eq_true] at hc
  obtain ⟨⟨hb, hs⟩, hs1⟩ := hc
  obtain ⟨ki, h1, h⟩ := bnd h
  obtain ⟨kg, h2, h⟩ := bnd h
  obtain ⟨ki1, h3, h⟩ := bnd h
  obtain ⟨kg1, h4, h⟩ := bnd h
  obtain ⟨ht, h⟩ := ite_ h
  simp only [Bool.and_eq_true] at ht
  obtain ⟨⟨⟨t1, t2⟩, _⟩, _⟩ := ht
  obtain ⟨kt, h5, h⟩ := bnd h
  obtain ⟨ke, h6, h⟩ := bnd h
  cases h
  have bo : BlkOk X.N X.env.scope sc (ownOf C.N sc) := by rw [k.N, k.sc]; exact blkOk_by hb
  refine ⟨kg, ki, kg1, ki1, kt, ke, rfl, s.i F C X M W k tg it ki h1, bo, fun i hi => ?_, fun i hi => ?_, fun s' H Cc cl fp => ?_, fun s' H Cc cl fp => ?_, fun s' H Cc cl fp => ?_, fun s' H Cc cl fp => ?_, fun s' H Cc cl fp => ?_, folded1 hs, fun env => folded1 hs1⟩
  · have := List.all_eq_true.mp t2 i hi
    simpa [vsOf] using this
  · have := List.all_eq_true.mp t1 i hi
    simpa [vsOf] using this
  · exact s.g _ _ _ _ _ (k.blk bo.kind s' H Cc cl fp) tg kg h2
  · exact s.i _ _ _ _ _ (k.blk bo.kind s' H Cc cl fp) tg1 it1 ki1 h3
  · exact s.g _ _ _ _ _ (k.blk bo.kind s' H Cc cl fp) tg1 kg1 h4
  · have kb := k.blk bo.kind s' H Cc cl fp
    split at h5
    · cases h5; exact k_yes
    · exact pts_one (s.t _ _ _ _ _ kb _ kt h5)
    · cases h5
  · exact s.e _ _ _ _ _ (k.blk bo.kind s' H Cc cl fp) .n elt ke h6
theorem tyOf_ok {t : Str} {ty : String} (h : tyOf t = some ty) : t = Str.ofString ty ∧ ty ∈ tys ∧ bootBuiltins t = some (.type ty) := by
  unfold tyOf at h
  have h1 := List.find?_some h
  simp only [Bool.and_eq_true, decide_eq_true_eq] at h1
  exact ⟨h1.1.symm, List.mem_of_find?_eq_some h, h1.2⟩
theorem biOf_ok {x : Str} {n : Nat} {b : BI} (h : biOf x n = some b) : biName b = x ∧ biAr b = n := by
  unfold biOf at h
  have h1 := List.find?_some h
  simp only [Bool.and_eq_true, decide_eq_true_eq, beq_iff_eq] at h1
  exact h1
theorem ne_name {ty : String} (h : ty ∈ tys) : Str.ofString ty ≠ "__name__" := by
  have : ∀ t ∈ tys, Str.ofString t ≠ "__name__" := by decide +kernel
  exact this ty h
theorem snd_c {n : Nat} (s : Snd n) : SC (n + 1) := by
  intro F C X M W k m x e es k2 np pos h
  unfold trCall at h
  obtain ⟨hc, h'⟩ := ite_ h
  clear h
  simp only [Bool.and_eq_true] at hc
  obtain ⟨⟨hs, ho⟩, hg⟩ := hc
  obtain ⟨d1, d2⟩ := okN_ok ho
  split at h'
  · rename_i ex
    subst ex
    split at h'
    · rename_i y p2 b p3 el
      cases el
      split at h'
      · rename_i ey
        subst ey
        obtain ⟨hc, h⟩ := ite_ h'
        simp only [Bool.and_eq_true] at hc
        obtain ⟨⟨⟨hm, b1⟩, b2⟩, sb⟩ := hc
        obtain ⟨ka, h1, rfl⟩ := mp_ h
        obtain ⟨g1, m1⟩ := k.bl b1
        obtain ⟨g2, m2⟩ := k.bl b2
        exact of_n hm (k_lenSet k.K k.calm g1 m1 g2 m2 (s.e F C X M W k .b b ka h1) (star1 sb))
      · exact s.co F C X M W k m _ _ _ k2 np pos hs ho hg h'
    · exact s.co F C X M W k m _ _ _ k2 np pos hs ho hg h'
  split at h'
  · rename_i ex
    subst ex
    split at h'
    · rename_i y p2 b p3 el
      cases el
      split at h'
      · rename_i ey
        subst ey
        obtain ⟨hc, h⟩ := ite_ h'
        simp only [Bool.and_eq_true] at hc
        obtain ⟨⟨b1, b2⟩, sb⟩ := hc
        obtain ⟨ka, h1, rfl⟩ := mp_ h
        obtain ⟨g1, m1⟩ := k.bl b1
        obtain ⟨g2, m2⟩ := k.bl b2
        exact of_x (PE.xOfF (k_sset k.K k.calm (by have := k.un; omega) g1 m1 g2 m2 (s.e F C X M W k .b b ka h1) (star1 sb)) (sem1_isL fun _ _ _ e => ssO_isL e))
      · exact s.co F C X M W k m _ _ _ k2 np pos hs ho hg h'
    · exact s.co F C X M W k m _ _ _ k2 np pos hs ho hg h'
  split at h'
  · rename_i ex
    subst ex
    split at h'
    · rename_i a t p2 el
      cases el
      obtain ⟨hc, h⟩ := ite_ h'
      simp only [Bool.and_eq_true] at hc
      obtain ⟨⟨⟨hm, b1⟩, b2⟩, ht⟩ := hc
      split at h
      · rename_i ty et
        obtain ⟨ka, h1, rfl⟩ := mp_ h
        obtain ⟨e1, e2, e3⟩ := tyOf_ok et
        obtain ⟨g1, m1⟩ := k.bl b1
        obtain ⟨g2, m2⟩ := k.bl b2
        rw [List.all_cons, Bool.and_eq_true] at hs
        exact of_n hm (k_isi k.K (s.e F C X M W k .b _ ka h1) e1 e2 g1 m1 g2 m2 e3 (e1 ▸ ne_name e2) (okN_ok ht).1 (star1 hs.1))
      · cases h
    · cases h'
  · exact s.co F C X M W k m x e es k2 np pos hs ho hg h'
theorem snd_co {n : Nat} (s : Snd n) : SCO (n + 1) := by
  intro F C X M W k m x e es k2 np pos hs ho hg h'
  unfold trCallO at h'
  obtain ⟨d1, d2⟩ := okN_ok ho
  split at h'
  · rename_i i kk eg
    obtain ⟨hc, h⟩ := ite_ h'
    obtain ⟨hm, hl⟩ := Bool.and_eq_true_iff.mp hc
    obtain ⟨ka, h1, rfl⟩ := mp_ h
    obtain ⟨⟨fa, fd, ps, kl, q1, q2, q3, q4, q5⟩, q6⟩ := k.gl x _ eg
    rw [List.all_cons, Bool.and_eq_true] at hs
    exact of_n hm (k_call q5 q4 (k.g hg) q1 q2 q3 k.tk q6 (s.a F C X M W k .n (e :: es) ka (by decide) h1).1 d1 (star1 hs.1) (star_any hs.2))
  · rename_i eg
    split at h'
    · rename_i b eb
      obtain ⟨hc, h⟩ := ite_ h'
      obtain ⟨ka, h1, rfl⟩ := mp_ h
      obtain ⟨e1, e2⟩ := biOf_ok eb
      subst e1
      have hm : X.mg (biName b) = none := k.gl _ _ eg
      have pa := (s.a F C X M W k .b (e :: es) ka (by decide) h1).1
      cases hx : biX b with
      | true => exact of_x (bi_x k hx (k.g hg) hm pa hs)
      | false =>
        rw [hx, Bool.or_false] at hc
        exact of_n hc (bi_n k hx (k.g hg) hm pa hs)
    · cases h'
  · cases h'
theorem snd_i {n : Nat} (s : Snd n) : SI (n + 1) := by
  intro F C X M W k tg e k2 h
  unfold trI at h
  split at h
  · rename_i x p es pos
    split at h
    · rename_i ex
      subst ex
      obtain ⟨hb, h⟩ := ite_ h
      obtain ⟨g1, m1⟩ := k.bl hb
      split at h
      · obtain ⟨hs, h⟩ := ite_ h
        obtain ⟨ka, h1, rfl⟩ := mp_ h
        exact i_rng1 g1 m1 (s.a F C X M W k .b _ ka (by decide) h1).1 (star1 hs)
      · obtain ⟨hs, h⟩ := ite_ h
        obtain ⟨hs1, hs2⟩ := Bool.and_eq_true_iff.mp hs
        obtain ⟨ka, h1, rfl⟩ := mp_ h
        exact i_rng2 g1 m1 (s.a F C X M W k .b _ ka (by decide) h1).1 (by rw [star1 hs1, star1 hs2]; rfl) (star1 hs2)
      · cases h
    · split at h
      · rename_i ex
        subst ex
        split at h
        · obtain ⟨hc, h⟩ := ite_ h
          obtain ⟨hb, hs⟩ := Bool.and_eq_true_iff.mp hc
          obtain ⟨g1, m1⟩ := k.bl hb
          obtain ⟨ka, h1, rfl⟩ := mp_ h
          exact i_enum k.K g1 m1 (s.a F C X M W k .n _ ka (by decide) h1).1 (star1 hs)
        · cases h
      · obtain ⟨ka, h1, rfl⟩ := mp_ h
        exact i_seq k.K (s.e F C X M W k .n _ ka h1)
  · rename_i x p
    split at h
    · rename_i i hi
      split at h
      · rename_i hc
        cases h
        simp only [Bool.and_eq_true] at hc
        obtain ⟨⟨_, h1⟩, h2⟩ := hc
        obtain ⟨d1, d2⟩ := okN_ok h2
        exact i_keys k.of (k.ix hi) (k.vis h1) d1 d2
      · obtain ⟨ka, h1, rfl⟩ := mp_ h
        exact i_seq k.K (s.e F C X M W k .n _ ka h1)
    · obtain ⟨ka, h1, rfl⟩ := mp_ h
      exact i_seq k.K (s.e F C X M W k .n _ ka h1)
  · obtain ⟨ka, h1, rfl⟩ := mp_ h
    exact i_seq k.K (s.e F C X M W k .n _ ka h1)
theorem asgEach1 {e : Expr} {es : List Expr} {env : PySem.Env} (h : starOk e = true) : assignEach (e :: es) env = (false, assign e env) :: assignEach es env := by
  cases e <;> first | rfl | cases h
theorem asg_len {env : PySem.Env} : ∀ {es : List Expr}, es.all starOk = true → (assignEach es env).length = es.length ∧ (assignEach es env).findIdx? (·.1) = none
  | [], _ => ⟨rfl, rfl⟩
  | e :: es, h => by
    rw [List.all_cons, Bool.and_eq_true] at h
    obtain ⟨h1, h2⟩ := asg_len (env := env) h.2
    rw [asgEach1 h.1]
    refine ⟨by rw [List.length_cons, List.length_cons, h1], ?_⟩
    rw [List.findIdx?_cons]
    simp [h2]
theorem snd_g {n : Nat} (s : Snd n) : SG (n + 1) := by
  intro F C X M W k tg k2 h
  unfold trG at h
  split at h
  · rename_i x _
    obtain ⟨hc, h⟩ := ite_ h
    obtain ⟨h1, h2⟩ := Bool.and_eq_true_iff.mp hc
    obtain ⟨i, hi, rfl⟩ := mp_ h
    exact g_name k.nodup (k.ix hi) (k.lo h1) (k.f h2)
  · rename_i es _ _
    obtain ⟨kg, h1, rfl⟩ := mp_ h
    obtain ⟨p, a⟩ := s.gs F C X M W k es kg h1
    exact g_tup k.K k.calm p (asg_len a).1 (asg_len a).2
  · cases h
theorem snd_gs {n : Nat} (s : Snd n) : SGs (n + 1) := by
  intro F C X M W k es k2 h
  unfold trGs at h
  split at h
  · cases h; exact ⟨gs_nil, rfl⟩
  · rename_i e r
    obtain ⟨hs, h⟩ := ite_ h
    obtain ⟨ka, h1, h⟩ := bnd h
    obtain ⟨kr, h2, h⟩ := bnd h
    cases h
    obtain ⟨p2, a2⟩ := s.gs F C X M W k r kr h2
    exact ⟨gs_cons (s.g F C X M W k e ka h1) p2 (by rw [asgEach1 hs]; rfl), by rw [List.all_cons, hs, a2]; rfl⟩
theorem snd : ∀ n : Nat, Snd n
  | 0 => by
    refine ⟨?_, ?_, ?_, ?_, ?_, ?_, ?_, ?_, ?_, ?_, ?_, ?_, ?_, ?_⟩
    · intro F C X M W k m e k2 h; unfold trE at h; cases h
    · intro F C X M W k op es k2 pos h; unfold trV at h; cases h
    · intro F C X M W k e k2 h; unfold trT at h; cases h
    · intro F C X M W k op es k2 pos h; unfold trVT at h; cases h
    · intro F C X M W k m es k2 _ h; unfold trA at h; cases h
    · intro F C X M W k o k2 h; unfold trO at h; cases h
    · intro F C X M W k m es k2 pos h; unfold trLst at h; cases h
    · intro F C X M W k elt tg it ifs sc k2 h; unfold trLc at h; cases h
    · intro F C X M W k elt tg it tg1 it1 ifs1 sc k2 h; unfold trLc2 at h; cases h
    · intro F C X M W k m x e es k2 np pos h; unfold trCall at h; cases h
    · intro F C X M W k m x e es k2 np pos _ _ _ h; unfold trCallO at h; cases h
    · intro F C X M W k tg e k2 h; unfold trI at h; cases h
    · intro F C X M W k tg k2 h; unfold trG at h; cases h
    · intro F C X M W k es k2 h; unfold trGs at h; cases h
  | n + 1 => have s := snd n; ⟨snd_e s, snd_v s, snd_t s, snd_vt s, snd_a s, snd_o s, snd_l s, snd_lc s, snd_lc2 s, snd_c s, snd_co s, snd_i s, snd_g s, snd_gs s⟩
end KF
set_option Elab.async false
set_option linter.all false
set_option maxRecDepth 100000
set_option maxHeartbeats 4000000
/-! KF, part 18: soundness of statements; defs, programs. -/
namespace KF
open PySem PySem.Spec PyProof.Rows L2
def SS (n : Nat) : Prop := At fun F C X M W => ∀ st k, trS n C st = some k → PS X st (kS M W (ev F k).S)
def SX (n : Nat) : Prop := At fun F C X M W => ∀ e k pos, trX n C e = some k → PS X (.Expr e pos) (kS M W (ev F k).S)
def SAs (n : Nat) : Prop := At fun F C X M W => ∀ tg e k pos, trAsg n C tg e = some k → PS X (.Assign [tg] e pos) (kS M W (ev F k).S)
def SSs (n : Nat) : Prop := At fun F C X M W => ∀ sts k, trSs n C sts = some k → PSs X sts (kS M W (ev F k).S)
theorem sole1 {t e : Expr} {l : Nat} {env : PySem.Env} (h : noComp e = true) : swapsWithSole [t] e l env = pure false := swaps1 h
structure SndS (n : Nat) : Prop where
  s : SS n
  x : SX n
  a : SAs n
  ss : SSs n
theorem frzs_ok {F : FnS} {X : Cx} {M : MK} {W : WX} {sts : List Stmt} {k : K} (p : PSs X sts (kS M W (ev F k).S)) : ∀ is : List Nat, PSs X sts (kS M W (ev F (frzs is k)).S)
  | [] => p
  | i :: r => s_frz (frzs_ok p r)
theorem snd_ss {n : Nat} (s : SndS n) : SSs (n + 1) := by
  intro F C X M W k sts k2 h
  unfold trSs at h
  split at h
  · cases h; exact s_nil
  · obtain ⟨k1, h1, h⟩ := bnd h
    cases h
    exact frzs_ok (s_one (s.s F C X M W k _ k1 h1)) _
  · obtain ⟨k1, h1, h⟩ := bnd h
    obtain ⟨k3, h3, h⟩ := bnd h
    cases h
    exact frzs_ok (s_cons (s.s F C X M W k _ k1 h1) (s.ss F C X M W k _ k3 h3)) _
theorem snd_x {n : Nat} : SX n := by
  intro F C X M W k e k2 pos h
  have s := snd n
  unfold trX at h
  split at h
  · obtain ⟨hc, h'⟩ := ite_ h
    clear h
    simp only [Bool.and_eq_true] at hc
    obtain ⟨⟨⟨h1, h2⟩, h3⟩, h4⟩ := hc
    obtain ⟨d1, d2⟩ := okN_ok h2
    obtain ⟨i, hi, h6⟩ := bnd h'
    obtain ⟨ka, h5, h7⟩ := bnd h6
    clear h6 h'
    have pe := s.e F C X M W k .n _ ka h5
    split at h7
    · rename_i ef
      subst ef
      cases h7
      exact s_app (k.ix hi) (k.vis h1) d1 d2 pe (star1 h3) h4
    · split at h7
      · rename_i ef
        subst ef
        cases h7
        exact s_ext (k.ix hi) (k.vis h1) d1 d2 pe (star1 h3) h4
      · cases h7
  · obtain ⟨hc, h'⟩ := ite_ h
    obtain ⟨ka, h1, rfl⟩ := mp_ h'
    exact s_exp (s.e F C X M W k .b _ ka h1) (swaps1 hc)
theorem snd_as {n : Nat} : SAs n := by
  intro F C X M W k tg e k2 pos h
  have s := snd n
  unfold trAsg at h
  split at h
  · rename_i x p
    obtain ⟨hc, h'⟩ := ite_ h
    clear h
    obtain ⟨h1, h2⟩ := Bool.and_eq_true_iff.mp hc
    obtain ⟨i, hi, h'⟩ := bnd h'
    split at h'
    · rename_i elt tg' it ifs as sc pos' _
      obtain ⟨ha, h3⟩ := itp_ h'
      clear h'
      subst ha
      obtain ⟨kl, h4, rfl⟩ := mp_ h3
      obtain ⟨kg, ki, kt, ke, rfl, q1, q2, q3, q4, q5, q6, q7⟩ := (s.lc F C X M W k elt tg' it ifs sc kl h4).ex
      have hk : X.env.scope.kind = .function := by rw [k.sc]; exact k.kind
      cases hsw : swB X.env.scope x p sc pos' with
      | true =>
        have hl : locL X.env.scope x = true := by
          unfold swB at hsw
          simp only [Bool.and_eq_true] at hsw
          exact hsw.1.1
        exact lkW_s (s_stoLc k.calm k.nodup (k.ix hi) (locL_ok hl) (by rw [sw_comp hk, hsw]) q1 q2 q3 q4 q5 q6 q7)
      | false => exact lkW_s (s_sto k.nodup (k.ix hi) (k.lo h1) (k.f h2) (PE.xOfF (k_lc k.calm k.nodup q1 q2 q3 q4 q5 q6 q7) semLc_isL) (by rw [sw_comp hk, hsw]))
    · rename_i elt tg' it as tg1 it1 ifs1 as1 sc pos' _
      obtain ⟨hc, h3⟩ := ite_ h'
      clear h'
      obtain ⟨ha, ha1⟩ := Bool.and_eq_true_iff.mp hc
      obtain rfl : as = 0 := of_decide_eq_true ha
      obtain rfl : as1 = 0 := of_decide_eq_true ha1
      obtain ⟨kl, h4, rfl⟩ := mp_ h3
      obtain ⟨kg, ki, kg1, ki1, kt, ke, rfl, q1, q2, q3, q4, q5, q6, q7, q8, q9, q10, q11⟩ := (s.lc2 F C X M W k elt tg' it tg1 it1 ifs1 sc kl h4).ex
      have hk : X.env.scope.kind = .function := by rw [k.sc]; exact k.kind
      cases hsw : swB X.env.scope x p sc pos' with
      | true =>
        have hl : locL X.env.scope x = true := by
          unfold swB at hsw
          simp only [Bool.and_eq_true] at hsw
          exact hsw.1.1
        exact PS.mono (k_setLc2 k.calm k.nodup (k.ix hi) (locL_ok hl) (by rw [sw_comp hk, hsw]) q1 q2 q3 q4 (fun _ z => z) q5 q6 q7 q8 q9 q10 q11) fun _ _ _ q => kF_of_kX semLc2_isL (sto_core q)
      | false => exact s_sto k.nodup (k.ix hi) (k.lo h1) (k.f h2) (PE.xOfF (k_lc2 k.calm k.nodup q1 q2 q3 q4 (fun _ z => z) q5 q6 q7 q8 q9 q10 q11) semLc2_isL) (by rw [sw_comp hk, hsw])
    · obtain ⟨hn, h3⟩ := ite_ h'
      clear h'
      split at h3
      · rename_i kx ex
        cases h3
        exact s_sto k.nodup (k.ix hi) (k.lo h1) (k.f h2) (s.e F C X M W k .x _ kx ex) (swaps1 hn)
      · obtain ⟨ka, h4, rfl⟩ := mp_ h3
        exact s_set k.nodup (k.ix hi) (k.lo h1) (k.f h2) (s.e F C X M W k .n _ ka h4) (swaps1 hn)
  · rename_i x p1 kx p2
    obtain ⟨hc, h'⟩ := ite_ h
    clear h
    simp only [Bool.and_eq_true] at hc
    obtain ⟨⟨⟨h1, h2⟩, h3⟩, h4⟩ := hc
    obtain ⟨d1, d2⟩ := okN_ok h2
    obtain ⟨i, hi, h'⟩ := bnd h'
    obtain ⟨kk, h5, h'⟩ := bnd h'
    obtain ⟨ke, h6, h'⟩ := bnd h'
    cases h'
    exact s_putU k.of (by have := k.un; omega) (k.ix hi) (k.vis h1) d1 d2 (s.e F C X M W k .n _ ke h6) (s.e F C X M W k .b _ kk h5) (sole1 h4) sw_sub rfl (asnSub h3)
  · rename_i ts kt pt
    split at h
    · rename_i x px y py q1 q2 k3 p3
      have hk : X.env.scope.kind = .function := by rw [k.sc]; exact k.kind
      split at h
      case isFalse =>
        obtain ⟨hc, h'⟩ := ite_ h
        clear h
        simp only [Bool.and_eq_true, Bool.or_eq_true, Bool.not_eq_true'] at hc
        obtain ⟨⟨⟨⟨h1, l1⟩, l2⟩, f1⟩, f2⟩ := hc
        obtain ⟨i, hi, h'⟩ := bnd h'
        obtain ⟨j, hj, h'⟩ := bnd h'
        cases h'
        have nl : ∀ z, locL C.sc z = false → (X.env.scope.names.lookup z == some .local) = false := fun z hz => by
          rw [k.sc]
          unfold locL at hz
          cases q : C.sc.names.lookup z with
          | none => rfl
          | some kd => cases kd <;> first | rfl | (rw [q] at hz; cases hz)
        have w : swappedStores [.Tuple [.Name x px, .Name y py] kt pt] (.Tuple [.List [] q1, .List [] q2] k3 p3) X.env = pure none := by
          refine sw_cell hk ?_ rfl rfl
          rcases h1 with h1 | h1
          · exact .inl (nl x h1)
          · exact .inr (nl y h1)
        exact s_parLC k.calm k.nodup (k.ix hi) (k.ix hj) (k.lo l1) (k.lo l2) (k.f (Bool.or_eq_true_iff.mpr f1)) (k.f (Bool.or_eq_true_iff.mpr f2)) w
      rename_i hc
      simp only [Bool.and_eq_true, Bool.not_eq_true'] at hc
      obtain ⟨⟨⟨h1, h2⟩, h3⟩, h4⟩ := hc
      have ne : x ≠ y := of_decide_eq_false h4
      obtain ⟨i, hi, h⟩ := bnd h
      obtain ⟨j, hj, h⟩ := bnd h
      cases h
      have ij : i ≠ j := fun z => ne (by
        have e1 := ixOf_ok hi
        have e2 := ixOf_ok hj
        rw [z, e2] at e1
        exact (Option.some.inj e1).symm)
      exact s_parL k.calm k.nodup (k.ix hi) (k.ix hj) ij (k.ll h1) (k.ll h2) (sw_two hk (k.ll h1) (k.ll h2) h3 ne rfl rfl rfl rfl)
    · rename_i x px y py a b k3 p3 _
      have hk : X.env.scope.kind = .function := by rw [k.sc]; exact k.kind
      split at h
      case isFalse =>
        obtain ⟨hc, h'⟩ := ite_ h
        clear h
        simp only [Bool.and_eq_true, Bool.or_eq_true, Bool.not_eq_true'] at hc
        obtain ⟨⟨h1, h5⟩, h6⟩ := hc
        have sA : isStar a = false := by cases a <;> first | rfl | cases h5
        have sB : isStar b = false := by cases b <;> first | rfl | cases h6
        obtain ⟨kg, h7, h'⟩ := bnd h'
        obtain ⟨ke, h8, h'⟩ := bnd h'
        cases h'
        have nl : ∀ z, locL C.sc z = false → (X.env.scope.names.lookup z == some .local) = false := fun z hz => by
          rw [k.sc]
          unfold locL at hz
          cases q : C.sc.names.lookup z with
          | none => rfl
          | some kd => cases kd <;> first | rfl | (rw [q] at hz; cases hz)
        refine s_asg (k_tup (s.a F C X M W k .n _ ke (by decide) h8).1) (s.g F C X M W k _ kg h7) (sole1 rfl) (sw_cell hk ?_ sA sB) rfl
        rcases h1 with h1 | h1
        · exact .inl (nl x h1)
        · exact .inr (nl y h1)
      rename_i hc
      have h' := h
      clear h
      simp only [Bool.and_eq_true, Bool.not_eq_true'] at hc
      obtain ⟨⟨⟨⟨⟨⟨⟨h1, h2⟩, h3⟩, h4⟩, h5⟩, h6⟩, h7⟩, h8⟩ := hc
      have ne : x ≠ y := of_decide_eq_false h4
      obtain ⟨i, hi, h'⟩ := bnd h'
      obtain ⟨j, hj, h'⟩ := bnd h'
      obtain ⟨ka, h9, h'⟩ := bnd h'
      have ij : i ≠ j := fun z => ne (by
        have e1 := ixOf_ok hi
        have e2 := ixOf_ok hj
        rw [z, e2] at e1
        exact (Option.some.inj e1).symm)
      have sA : isStar a = false := by cases a <;> first | rfl | cases h5
      have sB : isStar b = false := by cases b <;> first | rfl | cases h6
      have pa := s.e F C X M W k .n a ka h9
      have sw := sw_two (px := px) (py := py) (pt := pt) (p2 := p3) (kt := kt) (k2 := k3) hk (k.ll h1) (k.ll h2) h3 ne sA sB h7 h8
      split at h'
      · rename_i kb eb
        cases h'
        exact s_par2 k.calm k.nodup (k.ix hi) (k.ix hj) ij (k.ll h1) (k.ll h2) pa (s.e F C X M W k .x b kb eb) (star1 h5) (star1 h6) sw (sole1 rfl)
      · obtain ⟨kb, h10, h'⟩ := bnd h'
        cases h'
        have pb := s.e F C X M W k .n b kb h10
        exact s_par k.calm k.nodup (k.ix hi) (k.ix hj) ij (k.ll h1) (k.ll h2) (k_cons pa (k_cons pb k_nil (star1 h6)) (star1 h5)) sw (sole1 rfl)
    · rename_i x px y py z pz q1 q2 c k3 q3 k4 q4
      split at h
      case isFalse =>
        obtain ⟨hc, h'⟩ := ite_ h
        clear h
        simp only [Bool.and_eq_true, Bool.not_eq_true'] at hc
        obtain ⟨⟨⟨⟨⟨⟨h0, h1⟩, h2⟩, h3⟩, f1⟩, f2⟩, f3⟩ := hc
        obtain ⟨i, hi, h'⟩ := bnd h'
        obtain ⟨j, hj, h'⟩ := bnd h'
        obtain ⟨l, hl, h'⟩ := bnd h'
        cases h'
        have nl : ∀ z, (X.env.scope.names.lookup z == some .local) = locL C.sc z := fun z => by
          rw [k.sc]
          unfold locL
          cases q : C.sc.names.lookup z with
          | none => rfl
          | some kd => cases kd <;> rfl
        exact s_par3C k.calm k.nodup (k.ix hi) (k.ix hj) (k.ix hl) (k.lo h1) (k.lo h2) (k.lo h3) (k.f f1) (k.f f2) (k.f f3) (sw_cell3 (by rw [k.sc]; exact k.kind) (by rw [nl, nl, nl]; exact h0))
      rename_i hc
      have h' := h
      clear h
      simp only [Bool.and_eq_true, Bool.not_eq_true', decide_eq_false_iff_not] at hc
      obtain ⟨⟨⟨⟨⟨⟨⟨h1, h2⟩, h3⟩, l1⟩, l2⟩, n1⟩, n2⟩, n3⟩ := hc
      obtain ⟨i, hi, h'⟩ := bnd h'
      obtain ⟨j, hj, h'⟩ := bnd h'
      obtain ⟨l, hl, h'⟩ := bnd h'
      cases h'
      have ne : ∀ {u v : Str} {m n : Nat}, ixOf C.N u = some m → ixOf C.N v = some n → u ≠ v → m ≠ n := fun hu hv hn z => hn (by
        have e1 := ixOf_ok hu
        have e2 := ixOf_ok hv
        rw [z, e2] at e1
        exact (Option.some.inj e1).symm)
      exact s_par3 k.calm k.nodup (k.ix hi) (k.ix hj) (k.ix hl) (ne hi hj n1) (ne hi hl n2) (ne hj hl n3) (k.ll h1) (k.ll h2) (k.ll h3) (sw_three (by rw [k.sc]; exact k.kind) (k.ll h1) (k.ll h2) (k.ll h3) l1 l2 n1 n2 n3)
    · obtain ⟨hc, h'⟩ := ite_ h
      clear h
      simp only [Bool.and_eq_true, Bool.not_eq_true'] at hc
      obtain ⟨kg, h1, h'⟩ := bnd h'
      obtain ⟨ke, h2, h'⟩ := bnd h'
      cases h'
      exact s_asg (s.e F C X M W k .n _ ke h2) (s.g F C X M W k _ kg h1) (sole1 hc.2) (sw_none hc.1) rfl
  · cases h
theorem snd_s {n : Nat} (ss : SndS n) : SS (n + 1) := by
  intro F C X M W k st k2 h
  have s := snd n
  unfold trS at h
  split at h
  · cases h; exact s_pass
  · obtain ⟨ka, h1, rfl⟩ := mp_ h
    exact s_ret (s.e F C X M W k .b _ ka h1)
  · exact ss.x F C X M W k _ k2 _ h
  · obtain ⟨kt, h1, h⟩ := bnd h
    obtain ⟨ka, h2, h⟩ := bnd h
    obtain ⟨kb, h3, h⟩ := bnd h
    cases h
    exact s_if (s.t F C X M W k _ kt h1) (ss.ss F C X M W k _ ka h2) (ss.ss F C X M W k _ kb h3)
  · exact ss.a F C X M W k _ _ k2 _ h
  · obtain ⟨hc, h'⟩ := ite_ h
    clear h
    obtain ⟨h1, h2⟩ := Bool.and_eq_true_iff.mp hc
    obtain ⟨i, hi, h'⟩ := bnd h'
    obtain ⟨ka, h3, h'⟩ := bnd h'
    have pe := s.e F C X M W k .b _ ka h3
    split at h'
    · cases h'; exact s_augI k.nodup (k.ix hi) (k.lo h1) (k.f h2) pe ip_add fun _ _ _ e => (Option.some.inj e).symm
    · cases h'; exact s_augI k.nodup (k.ix hi) (k.lo h1) (k.f h2) pe ip_sub fun _ _ _ e => (Option.some.inj e).symm
    · cases h'
  · obtain ⟨hs, h'⟩ := ite_ h
    clear h
    obtain ⟨ki, h1, h'⟩ := bnd h'
    obtain ⟨kg, h2, h'⟩ := bnd h'
    obtain ⟨kb, h3, h'⟩ := bnd h'
    cases h'
    exact lkW_s (s_for k.own k.calm (s.i F C X M W k _ _ ki h1) (s.g F C X M W k _ kg h2) (ss.ss F C X M W k _ kb h3) (folded1 hs))
  · obtain ⟨kt, h1, h⟩ := bnd h
    obtain ⟨kb, h2, h⟩ := bnd h
    cases h
    exact s_while k.own (s.t F C X M W k _ kt h1) (ss.ss F C X M W k _ kb h2)
  · cases h; exact s_never
  · cases h
theorem sndS : ∀ n : Nat, SndS n
  | 0 => by
    refine ⟨?_, ?_, ?_, ?_⟩
    · intro F C X M W k st k2 h; unfold trS at h; cases h
    · exact snd_x
    · exact snd_as
    · intro F C X M W k sts k2 h; unfold trSs at h; cases h
  | n + 1 => have s := sndS n; ⟨snd_s s, snd_x, snd_as, snd_ss s⟩
/-! ### defs -/
structure DefK where
  ps : List Str
  N : List Str
  own : List Nat
  body : K
def startE (n : Nat) (ds : List D) : KF.Env := ds.map .v ++ List.replicate (n - ds.length) .u
def endS : OutS → Out D
  | .nx _ h' => .ok (.py .none) h'
  | .rt v h' => .ok v h'
  | .exc c fs _ h' => .exc c fs h'
  | .bad => .bad
def callD (F : FnS) (d : DefK) (ds : List D) (h : MH) : Out D := if ds.length = d.ps.length then endS ((ev F d.body).S (startE d.N.length ds) h) else .bad
abbrev Prog := List (Nat × DefK)
def findD : Prog → Nat → Option DefK
  | [], _ => none
  | (j, d) :: r, i => if Nat.beq i j = true then some d else findD r i
def runF (P : Prog) : Nat → FnS
  | 0 => fun _ _ _ => .bad
  | n + 1 => fun i ds h => match findD P i with
    | none => .bad
    | some d => callD (runF P n) d ds h
section
variable {M : MK} {B : Bs} {A : List (Option Addr)} {H H' : Hp} {L L' : List Addr} {h h' : MH} {env : KF.Env} {σ : L2.St}
theorem Good.ent (g : Good M B H L A h env σ) : Ent M B H L h := by
  refine ⟨g.len, g.nd, fun n o a e1 e2 => (g.obj n o a e1 e2).zed fun b z => ?_, g.ls, g.lpre, g.base, g.btup, g.bfrz, g.dom, g.sdom, rfl, rfl, fun i a e => by simp at e, fun i j a e => by simp at e, fun i sl e => by simp at e⟩
  rcases z with z | z | z
  · exact .inl z
  · exact .inr (.inl z)
  · cases z
theorem Good.extB (g : Good M B H L A h env σ) : Ext B.H0 B.L0 H L := ⟨g.base, g.btup, g.bfrz, g.lpre, g.dom⟩
theorem Good.begin {ds : List D} {vs : List V} {N : List Str} (e : Ent M B H L h) (r : RelDs M.K H L (Zf B L []) ds vs) (hl : ds.length ≤ N.length) : Good M B H L (List.replicate N.length none) h (startE N.length ds) (L2.start N vs) := by
  have nA : ∀ (i : Nat) (a : Addr), (List.replicate N.length (none : Option Addr))[i]? = some (some a) → False := fun i a q => by
    rw [List.getElem?_replicate] at q
    split at q <;> cases q
  have zz : ∀ b, Zf B L (List.replicate N.length none) b → Zf B L [] b := fun b z => by
    rcases z with z | z | z
    · exact .inl z
    · exact .inr (.inl z)
    · obtain ⟨i, hi⟩ := List.getElem?_of_mem z
      exact (nA i b hi).elim
  have hle := r.length
  refine ⟨e.len, e.nd, fun n o a e1 e2 => (e.obj n o a e1 e2).zed zz, e.ls, e.lpre, e.base, e.btup, e.bfrz, e.dom, e.sdom, ?_, ?_, fun i a q => (nA i a q).elim, fun i j a q => (nA i a q).elim, fun i sl q => ?_⟩
  · simp [startE]; omega
  · simp [startE, L2.start]; omega
  · have hi : i < N.length := by
      have := (List.getElem?_eq_some_iff.mp q).1
      simp [startE] at this
      omega
    have hA : (List.replicate N.length (none : Option Addr))[i]? = some none := by rw [List.getElem?_replicate, if_pos hi]
    unfold startE at q
    by_cases hd : i < ds.length
    · rw [List.getElem?_append_left (by simpa using hd), List.getElem?_map] at q
      cases q2 : ds[i]? with
      | none => rw [q2] at q; cases q
      | some d =>
        rw [q2] at q; cases q
        obtain ⟨v, h1, h2⟩ := r.get q2
        refine .v hA ?_ (h2.weak zz)
        unfold L2.start
        rw [List.getElem?_append_left (by simp; omega), List.getElem?_map, h1]; rfl
    · rw [List.getElem?_append_right (by simpa using hd), List.getElem?_replicate] at q
      split at q
      · cases q; exact .u hA
      · cases q
end
/-- a def of the text keeps what its image promises -/
theorem def_ok {P : Program} {w : World} {mg : Str → Option Value} {base : Heap} {M : MK} {F : FnS} {d : DefK} {G : List (Str × GK)} {x qual : Str} {params : Arguments} {body : List Stmt} {scope : Scope} {f : Addr} {fd : FuncData} {n fuel : Nat}
    (hMP : M.prog = P) (hMw : M.w = w) (FD : FunD M.K x qual params body scope [] [] f fd) (S : FnScope d.N d.ps scope) (ht : trSs fuel ⟨d.N, scope, fun _ => true, G, d.own⟩ body = some d.body)
    (gl : ∀ (A : Around), Room n A → ∀ y g, G.lookup y = some g → ∀ X : Cx, X.prog = P → X.w = w → X.K = M.K → X.mg = mg → X.base = base → X.A = A → GOk F X M y g) :
    FnOk P w M.K mg base (L2.CX P w) (n + 1) f fd d.ps (spF M d.ps.length (callD F d)) := by
  refine FD.ok S (fun vs H Q E h => ?_) fun cdv A outer s H vs Q E hr h => ?_
  · obtain ⟨B, L, h, ds, h1, _⟩ := h; exact h1
  · obtain ⟨B, L, h, ds, h1, rfl, rfl, en, r, p⟩ := h
    have ok : XOk F ⟨d.N, scope, fun _ => true, G, d.own⟩ (cxOf (L2.CX P w) P w M.K mg base d.N qual scope f cdv A outer s B.H0 E) M (fun cls d _ H => E cls d H) :=
      { N := rfl, nd := S.nd, sc := rfl, kind := S.kind, fn := fun _ _ => rfl, K := rfl, of := ⟨rfl, hMP, hMw⟩, calm := rfl, tk := takes_of rfl rfl rfl rfl, own := passes_of rfl, un := by have := hr.un; show (A.deeper _).units + 200 < cLine; omega,
        gl := fun y g e => gl _ hr y g e _ rfl rfl rfl rfl rfl rfl }
    refine ⟨_, (sndS fuel).ss F _ _ M _ ok body d.body ht, ?_⟩
    have hds : ds.length = d.ps.length := by rw [r.length]; exact h1
    have hN : d.ps.length ≤ d.N.length := by
      have := congrArg List.length S.pre
      rw [List.length_take] at this
      omega
    refine ⟨B, B.L0, _, h, _, Good.begin en r (by omega), ?_⟩
    unfold callD at p
    rw [if_pos hds] at p
    cases e : (ev F d.body).S (startE d.N.length ds) h with
    | nx env' h' => rw [e] at p; exact fun σ' H' L' A' g' => p .non H' L' g'.extB g'.ent (.py .non)
    | rt v h' => rw [e] at p; exact fun v' H' L' A' env' σ' g' r' => p v' H' L' g'.extB g'.ent r'
    | exc c fs env' h' =>
      rw [e] at p
      refine fun cls dd σ' H' L' A' g' r' => p cls dd H' L' g'.extB g'.ent (r'.weak fun a z => ?_)
      rcases z with z | z | z
      · exact .inl z
      · exact .inr (.inl z)
      · cases z
    | bad => rw [e] at p; exact p
theorem runF_ar (P : Prog) {i : Nat} {d : DefK} (e : findD P i = some d) : ∀ (n : Nat) (ds : List D) (h : MH), runF P n i ds h ≠ .bad → ds.length = d.ps.length
  | 0, ds, h, q => (q rfl).elim
  | n + 1, ds, h, q => by
    unfold runF at q
    rw [e] at q
    have q : callD (runF P n) d ds h ≠ .bad := q
    unfold callD at q
    by_cases hl : ds.length = d.ps.length
    · exact hl
    · rw [if_neg hl] at q; exact (q rfl).elim
end KF
set_option Elab.async false
set_option linter.all false
set_option maxRecDepth 100000
set_option maxHeartbeats 4000000
/-! KF, part 19: programs; a law's end. -/
namespace KF
open PySem PySem.Spec PyProof.Rows L2
def fnScB (N ps : List Str) (sc : Scope) : Bool := decide (sc.kind = .function) && !sc.isCoroutine && !sc.isGenerator && decide N.Nodup && decide (N.take ps.length = ps) &&
  (ps.all fun x => decide (sc.names.lookup x = some .local) || decide (sc.names.lookup x = some .cell)) && sc.names.all fun y => !decide (y.2 = .free)
theorem fnScB_ok {N ps : List Str} {sc : Scope} (h : fnScB N ps sc = true) : FnScope N ps sc := by
  unfold fnScB at h
  simp only [Bool.and_eq_true, decide_eq_true_eq, Bool.not_eq_true', List.all_eq_true, Bool.or_eq_true] at h
  obtain ⟨⟨⟨⟨⟨⟨h1, h2⟩, h3⟩, h4⟩, h5⟩, h6⟩, h7⟩ := h
  exact ⟨h1, h2, h3, h4, h5, h6, fun y hy e => of_decide_eq_false (h7 y hy) e⟩
/-- what the head is asked for a name -/
def faOf : Str × GK → He.Fa
  | (x, .int i) => .int x i
  | (x, .str z) => .str x z
  | (x, .blt) => .free x
  | (x, .fn _ _) => .glo x
def fuel : Nat := 400
/-- the image of a def -/
def defB (G : List (Str × GK)) (dd : He.DefD) (d : DefK) : Bool := dd.dfl.isEmpty && dd.kwd.isEmpty && fnScB d.N d.ps dd.scope && decide (trSs fuel ⟨d.N, dd.scope, fun _ => true, G, d.own⟩ dd.body = some d.body)
def hasB (x : Str) (i n : Nat) : List He.DefD → Prog → Bool
  | dd :: r, (j, d) :: s => (Nat.beq i j && decide (dd.at_ = (x, none)) && d.ps.length == n) || hasB x i n r s
  | _, _ => false
def gB (fn : List He.DefD) (P : Prog) : Str × GK → Bool
  | (x, .fn i n) => hasB x i n fn P
  | _ => true
def newB (i : Nat) : Prog → Bool
  | [] => true
  | (j, _) :: r => !Nat.beq j i && newB i r
def ndB : Prog → Bool
  | [] => true
  | (i, _) :: r => newB i r && ndB r
def allB (G : List (Str × GK)) : List He.DefD → Prog → Bool
  | [], [] => true
  | dd :: r, (_, d) :: s => defB G dd d && allB G r s
  | _, _ => false
theorem newB_find {i : Nat} : ∀ {P : Prog} {p j : Nat} {d : DefK}, newB i P = true → P[p]? = some (j, d) → j ≠ i
  | [], p, _, _, _, e => by simp at e
  | (a, b) :: r, 0, j, d, h, e => by
    simp at e
    obtain ⟨rfl, rfl⟩ := e
    have := (Bool.and_eq_true_iff.mp h).1
    intro z
    rw [z] at this
    simp at this
  | (a, b) :: r, p + 1, j, d, h, e => newB_find (P := r) (p := p) (Bool.and_eq_true_iff.mp h).2 (by simpa using e)
theorem find_at : ∀ {P : Prog} {p i : Nat} {d : DefK}, ndB P = true → P[p]? = some (i, d) → findD P i = some d
  | [], p, _, _, _, e => by simp at e
  | (a, b) :: r, 0, i, d, h, e => by
    simp at e
    obtain ⟨rfl, rfl⟩ := e
    unfold findD
    rw [if_pos (Nat.beq_refl _)]
  | (a, b) :: r, p + 1, i, d, h, e => by
    have h : (newB a r && ndB r) = true := h
    obtain ⟨h1, h2⟩ := Bool.and_eq_true_iff.mp h
    have e : r[p]? = some (i, d) := by simpa using e
    have ne := newB_find h1 e
    unfold findD
    rw [if_neg (fun z => ne (Nat.eq_of_beq_eq_true z))]
    exact find_at h2 e
theorem allB_ok {G : List (Str × GK)} : ∀ {fn : List He.DefD} {P : Prog}, allB G fn P = true → ∀ (p : Nat) (dd : He.DefD) (i : Nat) (d : DefK), fn[p]? = some dd → P[p]? = some (i, d) → defB G dd d = true
  | [], [], _, p, _, _, _, e, _ => by simp at e
  | [], _ :: _, h, _, _, _, _, _, _ => by cases h
  | _ :: _, [], h, _, _, _, _, _, _ => by cases h
  | a :: r, (j, b) :: s, h, 0, dd, i, d, e1, e2 => by
    simp at e1 e2
    obtain ⟨rfl, rfl⟩ := e2
    subst e1
    exact (Bool.and_eq_true_iff.mp h).1
  | a :: r, (j, b) :: s, h, p + 1, dd, i, d, e1, e2 => allB_ok (Bool.and_eq_true_iff.mp h).2 p dd i d (by simpa using e1) (by simpa using e2)
theorem hasB_ok {x : Str} {i n : Nat} : ∀ {fn : List He.DefD} {P : Prog}, hasB x i n fn P = true → ∃ (p : Nat) (dd : He.DefD) (d : DefK), fn[p]? = some dd ∧ P[p]? = some (i, d) ∧ dd.at_ = (x, none) ∧ d.ps.length = n
  | [], _, h => by cases h
  | _ :: _, [], h => by cases h
  | a :: r, (j, b) :: s, h => by
    have h : ((Nat.beq i j && decide (a.at_ = (x, none)) && b.ps.length == n) || hasB x i n r s) = true := h
    rcases Bool.or_eq_true_iff.mp h with h | h
    · simp only [Bool.and_eq_true, decide_eq_true_eq, beq_iff_eq] at h
      refine ⟨0, a, b, rfl, ?_, h.1.2, h.2⟩
      rw [Nat.eq_of_beq_eq_true h.1.1]
      rfl
    · obtain ⟨p, dd, d, h1, h2, h3, h4⟩ := hasB_ok h
      exact ⟨p + 1, dd, d, by simpa using h1, by simpa using h2, h3, h4⟩
def PlainB (dd : He.DefD) (d : DefK) : Prop := ∀ (kV doc pm : Value) (an : Option Addr) (cdv ct : Value) (us : List Value), us.length = d.ps.length → bindArgs (PySem.W.fnOf dd.name dd.qual dd.params dd.body dd.scope .none kV doc pm an cdv ct) ⟨us, []⟩ = pure (d.ps.zip us)
def PlainAll : List He.DefD → Prog → Prop
  | [], [] => True
  | dd :: r, (_, d) :: s => PlainB dd d ∧ PlainAll r s
  | _, _ => False
theorem PlainAll.get : ∀ {fn : List He.DefD} {P : Prog}, PlainAll fn P → ∀ (p : Nat) (dd : He.DefD) (i : Nat) (d : DefK), fn[p]? = some dd → P[p]? = some (i, d) → PlainB dd d
  | [], [], _, p, _, _, _, e, _ => by simp at e
  | [], _ :: _, h, _, _, _, _, _, _ => h.elim
  | _ :: _, [], h, _, _, _, _, _, _ => h.elim
  | a :: r, (j, b) :: s, h, 0, dd, i, d, e1, e2 => by
    simp at e1 e2
    obtain ⟨rfl, rfl⟩ := e2
    subst e1
    exact h.1
  | a :: r, (j, b) :: s, h, p + 1, dd, i, d, e1, e2 => PlainAll.get h.2 p dd i d (by simpa using e1) (by simpa using e2)
theorem lookup_mem {α : Type} {G : List (Str × α)} {x : Str} {g : α} (h : G.lookup x = some g) : (x, g) ∈ G := by
  induction G with
  | nil => cases h
  | cons p r ih =>
    obtain ⟨y, b⟩ := p
    rw [List.lookup_cons] at h
    cases q : x == y with
    | true =>
      rw [q] at h
      have h : b = g := Option.some.inj h
      have e : x = y := by simpa using q
      rw [e, h]
      exact List.mem_cons_self
    | false => rw [q] at h; exact List.mem_cons_of_mem _ (ih h)
def mk0 (P : Program) (w : World) (K : PySem.W.Frag) : MK := ⟨P, w, K, fun _ => 0, fun _ => [], fun _ => .none, fun _ => []⟩
section
variable {prog : Program} {w : World} {K : PySem.W.Frag} {h base : Heap} {mg : Str → Option Value} {fn : List He.DefD} {P : Prog} {G : List (Str × GK)}
theorem says_mem {fa : List He.Fa} (c : He.SaysD fa fn K) {f : He.Fa} (hf : f ∈ fa) : f.ok K = true := by
  obtain ⟨i, hi⟩ := List.getElem?_of_mem hf
  exact c.fact i hi
theorem prog_ok (KX : K.In h) (NG : h.Ns mainGlobals mg) (c : He.SaysD (G.map faOf) fn K) (cB : (allB G fn P && (ndB P && G.all (gB fn P))) = true) (pl : PlainAll fn P) :
    ∀ (n p : Nat) (dd : He.DefD) (i : Nat) (d : DefK), fn[p]? = some dd → P[p]? = some (i, d) → ∃ fd, FunD K dd.name dd.qual dd.params dd.body dd.scope [] [] (He.fAd K dd.at_) fd ∧ FnOk prog w K mg base (L2.CX prog w) n (He.fAd K dd.at_) fd d.ps (spF (mk0 prog w K) d.ps.length (runF P n i)) := by
  obtain ⟨c1, c3⟩ := Bool.and_eq_true_iff.mp cB
  obtain ⟨c4, c2⟩ := Bool.and_eq_true_iff.mp c3
  intro n
  induction n with
  | zero =>
    intro p dd i d e1 e2
    have hd := allB_ok c1 p dd i d e1 e2
    unfold defB at hd
    simp only [Bool.and_eq_true] at hd
    obtain ⟨fd, F⟩ := c.def_ p e1
    have z1 : dd.dvs K = [] := by unfold He.DefD.dvs; rw [List.isEmpty_iff.mp hd.1.1.1]; rfl
    have z2 : dd.kws K = [] := by unfold He.DefD.kws; rw [List.isEmpty_iff.mp hd.1.1.2]; rfl
    rw [z1, z2] at F
    refine ⟨fd, F, ⟨fun vs H Q E q => ?_, fun A outer s H args us vs Q E hr he hb hv q => ?_⟩⟩
    · obtain ⟨B, L, h, ds, _, _, _, _, _, p⟩ := q; exact p.elim
    · obtain ⟨B, L, h, ds, _, _, _, _, _, p⟩ := q; exact p.elim
  | succ n ih =>
    intro p dd i d e1 e2
    have hd := allB_ok c1 p dd i d e1 e2
    unfold defB at hd
    simp only [Bool.and_eq_true, decide_eq_true_eq] at hd
    obtain ⟨⟨⟨d1, d2⟩, d3⟩, d4⟩ := hd
    obtain ⟨fd, F⟩ := c.def_ p e1
    have z1 : dd.dvs K = [] := by unfold He.DefD.dvs; rw [List.isEmpty_iff.mp d1]; rfl
    have z2 : dd.kws K = [] := by unfold He.DefD.kws; rw [List.isEmpty_iff.mp d2]; rfl
    rw [z1, z2] at F
    refine ⟨fd, F, ?_⟩
    have e : spF (mk0 prog w K) d.ps.length (runF P (n + 1) i) = spF (mk0 prog w K) d.ps.length (callD (runF P n) d) := by
      congr 1
      funext ds h
      show (match findD P i with
        | none => Out.bad
        | some d => callD (runF P n) d ds h) = _
      rw [find_at c4 e2]
    rw [e]
    refine def_ok (M := mk0 prog w K) rfl rfl F (fnScB_ok d3) d4 fun A hr y g ey X e1 e2 e3 e4 e5 e6 => ?_
    have mem := lookup_mem ey
    have fok := says_mem c (List.mem_map.mpr ⟨_, mem, rfl⟩)
    cases g with
    | int i =>
      obtain ⟨t, et⟩ := He.int_ok KX NG fok
      exact ⟨t, by rw [e4]; exact et⟩
    | str z =>
      obtain ⟨t, et⟩ := He.str_ok KX NG fok
      exact ⟨t, by rw [e4]; exact et⟩
    | blt =>
      show X.mg y = none
      rw [e4]
      exact He.free_ok KX NG fok
    | fn j m =>
      have hg := List.all_eq_true.mp c2 _ mem
      obtain ⟨p2, dj, pj, q1, q2, ha, hm⟩ := hasB_ok (show hasB y j m fn P = true from hg)
      obtain ⟨fdj, Fj, Oj⟩ := ih p2 dj j pj q1 q2
      have ea : He.fAd K dj.at_ = He.ga K y := by rw [ha]; rfl
      subst hm
      subst e1 e2 e3 e4 e5
      refine ⟨⟨He.fAd _ dj.at_, fdj, pj.ps, n, ?_, Fj.kp, Fj.bindsN (pl.get p2 dj j pj q1 q2), e6 ▸ hr, Oj⟩, runF_ar P (find_at c4 q2) n⟩
      rw [ea]
      exact He.glo_ok KX NG fok
end
/-- an exception that no one wishes for -/
def CXU (P : Program) : CXT := fun outer H s E u s' => ∃ w, L2.CX P w outer H s E u s'
theorem CXU.no {P : Program} {H : Hp} {s : Shared} {e : Value} {s' : Shared} (h : CXU P [] H s (fun _ _ _ => False) e s') : False := by
  obtain ⟨w, _, _, _, _, _, _, _, _, _, _, _, _, z⟩ := h
  exact z
theorem fnOk_cx {P : Program} {w : World} {K : PySem.W.Frag} {mg : Str → Option Value} {base : Heap} {CX CX' : CXT} {k : Nat} {f : Addr} {fd : FuncData} {ps : List Str} {sp : Sp} (F : FnOk P w K mg base CX k f fd ps sp)
    (i : ∀ outer H s E u s', CX outer H s E u s' → CX' outer H s E u s') : FnOk P w K mg base CX' k f fd ps sp := by
  refine ⟨F.len, fun A outer s H args us vs Q E hr he hb hv hs => codeAny_mono (F.run A outer s H args us vs Q E hr he hb hv hs) fun r s' q => ?_⟩
  cases r with
  | error e => exact i _ _ _ _ _ _ q
  | ok fl => cases fl <;> exact q
/-- the law's end -/
theorem law_end {prog : Program} {w : World} {K : PySem.W.Frag} {h : Heap} {mg : Str → Option Value} {fn : List He.DefD} {P : Prog} {G : List (Str × GK)} {f : Addr} {x y : Str} {n il pp : Nat} {dl : He.DefD} {pl : DefK}
    (X : K.In h) (NG : h.Ns mainGlobals mg) (hfa : mg x = some (.ref f)) (c : He.SaysD (G.map faOf) fn K) (cB : (allB G fn P && (ndB P && G.all (gB fn P))) = true) (pa : PlainAll fn P)
    (e1 : fn[pp]? = some dl) (e2 : P[pp]? = some (il, pl)) (ex : G.lookup x = some (.fn il 1)) (ea : dl.at_ = (x, none)) (ep : pl.ps = [y])
    (hm : ∀ ns : List Int, ns.length ≤ 63 → ∃ h', runF P n il [.scr ns] [] = .ok (.py (.bool true)) h') :
    ∃ (fd : FuncData) (sp : Sp), (∀ (s : Shared) (u : Value), BindsTo s fd ⟨[u], []⟩ [(y, u)]) ∧
      (∀ (H : Hp) (a : Addr) (ns : List Int), ns.length ≤ 63 → Only H → SqL K H a (ns.map V.int) → sp [.ref a] H (fun v _ => v = .bl true) fun _ _ _ => False) ∧
      ∀ base : Heap, K.In base → base.Ns mainGlobals mg → FnOk prog w K mg base (CXU prog) n f fd [y] sp := by
  obtain ⟨fd, F⟩ := c.def_ pp e1
  obtain ⟨c1, c2⟩ := Bool.and_eq_true_iff.mp cB
  have hd := allB_ok c1 pp dl il pl e1 e2
  unfold defB at hd
  simp only [Bool.and_eq_true, decide_eq_true_eq] at hd
  have z1 : dl.dvs K = [] := by unfold He.DefD.dvs; rw [List.isEmpty_iff.mp hd.1.1.1]; rfl
  have z2 : dl.kws K = [] := by unfold He.DefD.kws; rw [List.isEmpty_iff.mp hd.1.1.2]; rfl
  rw [z1, z2] at F
  have pb := pa.get pp dl il pl e1 e2
  have fok := says_mem c (List.mem_map.mpr ⟨_, lookup_mem ex, rfl⟩)
  have ef : f = He.fAd K dl.at_ := by
    have := He.glo_ok X NG fok
    rw [hfa] at this
    rw [ea]
    exact Value.ref.inj (Option.some.inj this)
  refine ⟨fd, spF (mk0 prog w K) 1 (runF P n il), fun s u => ?_, fun H a ns hl hO hS => ?_, fun base KB NB => ?_⟩
  · have b := FunD.bindsA F (ps := pl.ps) pb s [u] (by rw [ep]; rfl)
    rw [ep] at b
    exact b
  · obtain ⟨h', er⟩ := hm ns hl
    have sf : SqF K H a (ns.map V.int) := by
      rcases hS with (hS | hS) | hS
      · rcases hO a with z | ⟨o, xs, z⟩
        · rw [z] at hS; cases hS
        · rw [z] at hS; cases hS
      · exact .inl hS
      · exact .inr hS
    refine ⟨⟨H, [], fun _ => False⟩, [], [], [.scr ns], rfl, rfl, rfl, ?_, .cons (.scr sf) .nil, ?_⟩
    · exact ⟨rfl, List.nodup_nil, fun n o a e => (by simp at e), fun a ha => (by cases ha), ⟨[], rfl, fun a ha => (by cases ha)⟩, fun a o e _ => e, fun a xs e => e, fun a o u e => e, fun a o e => ⟨o, e⟩, fun a e => e.elim, rfl, rfl, fun i a e => by simp at e, fun i j a e => by simp at e, fun i sl e => by simp at e⟩
    · rw [er]
      intro v H' L' _ _ r
      cases r with
      | py r => cases r; rfl
  · obtain ⟨fd', F', O'⟩ := prog_ok (prog := prog) (w := w) (base := base) X NG c cB pa n pp dl il pl e1 e2
    have : fd' = fd := by
      obtain ⟨oc, od, dV, kV, doc, pm, an, cdv, ct, osl, r1, lk, _⟩ := F.ex
      obtain ⟨oc', od', dV', kV', doc', pm', an', cdv', ct', osl', r1', lk', _⟩ := F'.ex
      rw [lk] at lk'
      have := Option.some.inj lk'
      injection this with _ _ z _
      injection z with z
      exact z.symm
    subst this
    rw [ef, ← ep]
    have e : pl.ps.length = 1 := by rw [ep]; rfl
    rw [e] at O'
    exact fnOk_cx O' fun _ _ _ _ _ _ q => ⟨w, q⟩
end KF
set_option Elab.async false
set_option linter.all false
set_option maxRecDepth 100000
set_option maxHeartbeats 4000000
/-! KF: the meaning, step by step. -/
namespace KF
open PySem
section
variable {α β : Type}
@[simp] theorem bind_ok (a : α) (h : MH) (f : α → MH → Out β) : (Out.ok a h).bind f = f a h := rfl
@[simp] theorem bind_exc (c : Nat) (fs : List D) (h : MH) (f : α → MH → Out β) : (Out.exc c fs h).bind f = .exc c fs h := rfl
@[simp] theorem nx_ok' (a : α) (h : MH) (f : α → MH → Out β) : (Out.ok a h).nx f = f a h := rfl
@[simp] theorem toS_ok (a : α) (h : MH) (env : KF.Env) (f : α → MH → OutS) : (Out.ok a h).toS env f = f a h := rfl
@[simp] theorem toS_exc (c : Nat) (fs : List D) (h : MH) (env : KF.Env) (f : α → MH → OutS) : (Out.exc c fs h).toS env f = .exc c fs env h := rfl
@[simp] theorem thn_nx (env : KF.Env) (h : MH) (f : EvS) : (OutS.nx env h).thn f = f env h := rfl
@[simp] theorem thn_rt (d : D) (h : MH) (f : EvS) : (OutS.rt d h).thn f = .rt d h := rfl
@[simp] theorem thn_exc (c : Nat) (fs : List D) (env : KF.Env) (h : MH) (f : EvS) : (OutS.exc c fs env h).thn f = .exc c fs env h := rfl
@[simp] theorem lift_some (a : α) (h : MH) : lift (some a) h = .ok a h := rfl
@[simp] theorem endS_nx (env : KF.Env) (h : MH) : endS (.nx env h) = .ok (.py .none) h := rfl
@[simp] theorem endS_rt (d : D) (h : MH) : endS (.rt d h) = .ok d h := rfl
@[simp] theorem endS_exc (c : Nat) (fs : List D) (env : KF.Env) (h : MH) : endS (.exc c fs env h) = .exc c fs h := rfl
theorem bind_congr {o o' : Out α} {f : α → MH → Out β} (e : o = o') : o.bind f = o'.bind f := by rw [e]
theorem nx_congr {o o' : Out α} {f : α → MH → Out β} (e : o = o') : o.nx f = o'.nx f := by rw [e]
theorem toS_congr {o o' : Out α} {env : KF.Env} {f : α → MH → OutS} (e : o = o') : o.toS env f = o'.toS env f := by rw [e]
theorem thn_congr {o o' : OutS} {f : EvS} (e : o = o') : o.thn f = o'.thn f := by rw [e]
theorem bind_ite (c : Prop) [Decidable c] (a b : Out α) (f : α → MH → Out β) : (if c then a else b).bind f = if c then a.bind f else b.bind f := by split <;> rfl
theorem thn_ite (c : Prop) [Decidable c] (a b : OutS) (f : EvS) : (if c then a else b).thn f = if c then a.thn f else b.thn f := by split <;> rfl
end
section
variable {F : FnS} {env : KF.Env} {h : MH}
@[simp] theorem E_int (i : Int) : (ev F (.int i)).E env h = .ok (.py (.int i)) h := rfl
@[simp] theorem E_bl (i : Bool) : (ev F (.bl i)).E env h = .ok (.py (.bool i)) h := rfl
@[simp] theorem E_non : (ev F .non).E env h = .ok (.py .none) h := rfl
@[simp] theorem E_str (x : Str) : (ev F (.str x)).E env h = .ok (.py (.str x)) h := rfl
@[simp] theorem E_var (i : Nat) : (ev F (.var i)).E env h = lift (look env i) h := rfl
@[simp] theorem E_varV (i : Nat) : (ev F (.varV i)).E env h = lift (lookV env i) h := rfl
@[simp] theorem E_bin (o : BOp) (a b : K) : (ev F (.bin o a b)).E env h = ((ev F a).E env h).bind fun x h1 => ((ev F b).E env h1).bind fun y h2 => lift (binF o h2 x y) h2 := rfl
@[simp] theorem E_neg (a : K) : (ev F (.neg a)).E env h = ((ev F a).E env h).bind fun x h1 => lift (negD h1 x) h1 := rfl
@[simp] theorem E_no (a : K) : (ev F (.no a)).E env h = (((ev F a).E env h).bind fun x h1 => lift (truD h1 x) h1).bind fun b h1 => .ok (.py (.bool (!b))) h1 := by
  show bE (notT (semV (ev F a).E)) env h = _
  unfold bE notT semV
  cases (ev F a).E env h with
  | ok x h1 => simp only [bind_ok]; cases truD h1 x <;> rfl
  | exc c fs h1 => rfl
  | bad => rfl
@[simp] theorem E_and (a b : K) : (ev F (.and a b)).E env h = ((ev F a).E env h).bind fun x h1 => (lift (truD h1 x) h1).bind fun t h2 => if t = true then (ev F b).E env h2 else .ok x h2 := rfl
@[simp] theorem E_or (a b : K) : (ev F (.or a b)).E env h = ((ev F a).E env h).bind fun x h1 => (lift (truD h1 x) h1).bind fun t h2 => if t = true then .ok x h2 else (ev F b).E env h2 := rfl
@[simp] theorem E_ifx (t a b : K) : (ev F (.ifx t a b)).E env h = ((ev F t).T env h).bind fun t h1 => if t = true then (ev F a).E env h1 else (ev F b).E env h1 := rfl
@[simp] theorem E_cmp (o : COp) (a b : K) : (ev F (.cmp o a b)).E env h = ((ev F (.cmp o a b)).T env h).bind fun b h1 => .ok (.py (.bool b)) h1 := rfl
@[simp] theorem E_chn (o o' : COp) (a b c : K) : (ev F (.chn o o' a b c)).E env h = ((ev F (.chn o o' a b c)).T env h).bind fun b h1 => .ok (.py (.bool b)) h1 := rfl
@[simp] theorem E_tup (es : K) : (ev F (.tup es)).E env h = ((ev F es).A env h).bind fun ds h1 => lift (mkTup ds) h1 := rfl
@[simp] theorem E_lst (es : K) : (ev F (.lst es)).E env h = ((ev F es).A env h).bind fun ds h1 => lift (mkLst ds) h1 := rfl
@[simp] theorem E_lstL (es : K) : (ev F (.lstL es)).E env h = ((ev F es).A env h).bind fun ds h1 => if fits ds.length = true then .ok (.loc h1.length) (h1 ++ [.lst ds]) else .bad := rfl
@[simp] theorem E_prom (a : K) : (ev F (.prom a)).E env h = ((ev F a).E env h).bind promO := rfl
@[simp] theorem E_ix (a b : K) : (ev F (.ix a b)).E env h = ((ev F a).E env h).bind fun x h1 => ((ev F b).E env h1).bind fun y h2 => lift (ixU h2 x y) h2 := rfl
@[simp] theorem E_slc (a lo hi : K) : (ev F (.slc a lo hi)).E env h = ((ev F a).E env h).bind fun x h1 => ((ev F lo).O env h1).bind fun lo h2 => ((ev F hi).O env h2).bind fun hi h3 => lift (cutU x lo hi) h3 := rfl
@[simp] theorem E_rev (a : K) : (ev F (.rev a)).E env h = ((ev F a).E env h).bind fun x h1 => lift (revT h1 x) h1 := rfl
@[simp] theorem E_lc (vs : List Nat) (g it t e : K) : (ev F (.lc vs g it t e)).E env h = ((ev F it).I env h).bind fun xs h1 => match wipeE env vs with
  | none => .bad
  | some ew => (lcF (ev F g).G (ev F t).T (ev F e).E ew xs h1).nx mkL := rfl
@[simp] theorem E_fn (i : Nat) (es : K) : (ev F (.fn i es)).E env h = ((ev F es).A env h).bind fun ds h1 => F i ds h1 := rfl
@[simp] theorem E_bi (b : BI) (es : K) : (ev F (.bi b es)).E env h = ((ev F es).A env h).bind fun ds h1 => lift (biF b h1 ds) h1 := rfl
@[simp] theorem E_isi (t : String) (a : K) : (ev F (.isi t a)).E env h = ((ev F a).E env h).bind fun x h1 => lift (isiD t h1 x) h1 := rfl
@[simp] theorem A_nil : (ev F .nil).A env h = .ok [] h := rfl
@[simp] theorem A_cons (a r : K) : (ev F (.cons a r)).A env h = ((ev F a).E env h).bind fun x h1 => ((ev F r).A env h1).bind fun xs h2 => .ok (x :: xs) h2 := rfl
@[simp] theorem O_nil : (ev F .nil).O env h = .ok none h := rfl
theorem O_e {a : K} (p : plainT a = true) : (ev F a).O env h = ((ev F a).E env h).bind fun x h1 => lift (asI x) h1 := by
  rw [(plainT_ok p).2]; rfl
@[simp] theorem O_int (i : Int) : (ev F (.int i)).O env h = .ok (some i) h := rfl
@[simp] theorem O_var (i : Nat) : (ev F (.var i)).O env h = (lift (look env i) h).bind fun x h1 => lift (asI x) h1 := rfl
@[simp] theorem O_bin (o : BOp) (a b : K) : (ev F (.bin o a b)).O env h = ((ev F (.bin o a b)).E env h).bind fun x h1 => lift (asI x) h1 := rfl
@[simp] theorem O_bi (b : BI) (es : K) : (ev F (.bi b es)).O env h = ((ev F (.bi b es)).E env h).bind fun x h1 => lift (asI x) h1 := rfl
@[simp] theorem O_neg (a : K) : (ev F (.neg a)).O env h = ((ev F (.neg a)).E env h).bind fun x h1 => lift (asI x) h1 := rfl
@[simp] theorem O_fn (i : Nat) (es : K) : (ev F (.fn i es)).O env h = ((ev F (.fn i es)).E env h).bind fun x h1 => lift (asI x) h1 := rfl
@[simp] theorem T_no (a : K) : (ev F (.no a)).T env h = ((ev F a).T env h).bind fun b h1 => .ok (!b) h1 := rfl
@[simp] theorem T_and (a b : K) : (ev F (.and a b)).T env h = ((ev F a).T env h).bind fun t h1 => if t = true then (ev F b).T env h1 else .ok false h1 := rfl
@[simp] theorem T_or (a b : K) : (ev F (.or a b)).T env h = ((ev F a).T env h).bind fun t h1 => if t = true then .ok true h1 else (ev F b).T env h1 := rfl
@[simp] theorem T_cmp (o : COp) (a b : K) : (ev F (.cmp o a b)).T env h = ((ev F a).E env h).bind fun x h1 => ((ev F b).E env h1).bind fun y h2 => lift (cmpF o h2 x y) h2 := rfl
@[simp] theorem T_chn (o o' : COp) (a b c : K) : (ev F (.chn o o' a b c)).T env h = ((ev F a).E env h).bind fun x h1 => ((ev F b).E env h1).bind fun y h2 => (lift (cmpF o h2 x y) h2).bind fun k h3 => if k = true then ((ev F c).E env h3).bind fun z h4 => lift (cmpF o' h4 y z) h4 else .ok false h3 := rfl
@[simp] theorem T_yes : (ev F .yes).T env h = .ok true h := rfl
@[simp] theorem T_var (i : Nat) : (ev F (.var i)).T env h = (lift (look env i) h).bind fun x h1 => lift (truD h1 x) h1 := rfl
@[simp] theorem T_fn (i : Nat) (es : K) : (ev F (.fn i es)).T env h = ((ev F (.fn i es)).E env h).bind fun x h1 => lift (truD h1 x) h1 := rfl
@[simp] theorem T_isi (t : String) (a : K) : (ev F (.isi t a)).T env h = ((ev F (.isi t a)).E env h).bind fun x h1 => lift (truD h1 x) h1 := rfl
@[simp] theorem T_bi (b : BI) (es : K) : (ev F (.bi b es)).T env h = ((ev F (.bi b es)).E env h).bind fun x h1 => lift (truD h1 x) h1 := rfl
@[simp] theorem T_bin (o : BOp) (a b : K) : (ev F (.bin o a b)).T env h = ((ev F (.bin o a b)).E env h).bind fun x h1 => lift (truD h1 x) h1 := rfl
@[simp] theorem T_lc (vs : List Nat) (g it t e : K) : (ev F (.lc vs g it t e)).T env h = ((ev F (.lc vs g it t e)).E env h).bind fun x h1 => lift (truD h1 x) h1 := rfl
@[simp] theorem T_bl (b : Bool) : (ev F (.bl b)).T env h = .ok b h := rfl
@[simp] theorem I_rng1 (es : K) : (ev F (.rng1 es)).I env h = ((ev F es).A env h).bind fun ds h1 => lift (rng1 ds) h1 := rfl
@[simp] theorem I_rng2 (es : K) : (ev F (.rng2 es)).I env h = ((ev F es).A env h).bind fun ds h1 => lift (rng2 ds) h1 := rfl
@[simp] theorem I_enu (es : K) : (ev F (.enu es)).I env h = ((ev F es).A env h).bind fun ds h1 => lift (enumO ds) h1 := rfl
@[simp] theorem E_sset (a : K) : (ev F (.sset a)).E env h = ((ev F a).E env h).bind fun x h1 => lift (ssO h1 x) h1 := rfl
@[simp] theorem E_idx (a es : K) : (ev F (.idx a es)).E env h = ((ev F a).E env h).bind fun x h1 => if isLst h1 x = true then ((ev F es).A env h1).bind fun ds h2 => lift (idxO h2 x ds) h2 else .bad := rfl
@[simp] theorem E_lset (a : K) : (ev F (.lset a)).E env h = ((ev F a).E env h).bind fun x h1 => lift (lsO h1 x) h1 := rfl
@[simp] theorem E_dnew : (ev F .dnew).E env h = .ok (.loc h.length) (h ++ [.dct []]) := rfl
@[simp] theorem E_dget (a k x : K) : (ev F (.dget a k x)).E env h = ((ev F a).E env h).bind fun d h1 => match dctAt h1 d with
  | none => .bad
  | some _ => ((ev F k).E env h1).bind fun k h2 => ((ev F x).E env h2).bind fun x h3 => lift (getX h3 d k x) h3 := rfl
@[simp] theorem I_seq (a : K) : (ev F (.seq a)).I env h = ((ev F a).E env h).bind fun d h1 => lift (itU d) h1 := rfl
@[simp] theorem G_tn (i : Nat) (d : D) : (ev F (.tn i)).G d env = if i < env.length then some (env.set i (.v d)) else none := rfl
@[simp] theorem G_tt (n : Nat) (es : K) (d : D) : (ev F (.tt n es)).G d env = match d with
  | .py (.tuple ds) => if ds.length = n then (ev F es).Gs ds env else none
  | _ => none := rfl
@[simp] theorem Gs_nil : (ev F .nil).Gs [] env = some env := rfl
@[simp] theorem Gs_cons (a r : K) (d : PyData) (ds : List PyData) : (ev F (.cons a r)).Gs (d :: ds) env = ((ev F a).G (.py d) env).bind ((ev F r).Gs ds) := rfl
@[simp] theorem S_skip : (ev F .skip).S env h = .nx env h := rfl
@[simp] theorem S_sq (a b : K) : (ev F (.sq a b)).S env h = ((ev F a).S env h).thn (ev F b).S := rfl
@[simp] theorem S_ret (a : K) : (ev F (.ret a)).S env h = ((ev F a).E env h).toS env fun d h1 => .rt d h1 := rfl
@[simp] theorem S_exp (a : K) : (ev F (.exp a)).S env h = ((ev F a).E env h).toS env fun _ h1 => .nx env h1 := rfl
@[simp] theorem S_ite (t a b : K) : (ev F (.ite t a b)).S env h = ((ev F t).T env h).toS env fun t h1 => if t = true then (ev F a).S env h1 else (ev F b).S env h1 := rfl
@[simp] theorem S_asg (g e : K) : (ev F (.asg g e)).S env h = ((ev F e).E env h).toS env fun d h1 => match (ev F g).G d env with
  | some env' => .nx env' h1
  | none => .bad := rfl
@[simp] theorem S_sto (i : Nat) (e : K) : (ev F (.sto i e)).S env h = ((ev F e).E env h).toS env fun d h1 => match stoE i d env with
  | some env' => .nx env' h1
  | none => .bad := rfl
@[simp] theorem S_par2 (i j : Nat) (a b : K) : (ev F (.par2 i j a b)).S env h = ((ev F a).E env h).toS env fun d h1 => ((ev F b).E env h1).toS env fun e h2 => if i < env.length then match stoE j e (env.set i (.v d)) with
  | some env' => .nx env' h2
  | none => .bad
  else .bad := rfl
@[simp] theorem S_par3 (i j l : Nat) (c : Int) : (ev F (.par3 i j l c)).S env h = if i < env.length ∧ j < env.length ∧ l < env.length then .nx (((env.set i (.o [])).set j (.o [])).set l (.v (.py (.int c)))) h else .bad := rfl
@[simp] theorem S_parN (i j : Nat) (es : K) : (ev F (.parN i j es)).S env h = ((ev F es).A env h).toS env fun ds h1 => match ds with
  | [d, e] => if i < env.length ∧ j < env.length then .nx ((env.set i (.v d)).set j (.v e)) h1 else .bad
  | _ => .bad := rfl
@[simp] theorem S_aug (i : Nat) (o : BOp) (e : K) : (ev F (.aug i o e)).S env h = match lookV env i with
  | some x => ((ev F e).E env h).toS env fun y h1 => match augF o h1 x y with
    | some z => .nx (env.set i (.v z)) h1
    | none => .bad
  | none => .bad := rfl
@[simp] theorem S_put (i : Nat) (k e : K) : (ev F (.put i k e)).S env h = ((ev F e).E env h).toS env fun d h1 => match env[i]? with
  | some (.o xs) => ((ev F k).E env h1).toS env fun k h2 => match putO i xs env k d with
    | some env' => .nx env' h2
    | none => .bad
  | some (.v r) => ((ev F k).E env h1).toS env fun k h2 => match putU h2 r k d with
    | some h' => .nx env h'
    | none => .bad
  | _ => .bad := rfl
@[simp] theorem S_app (i : Nat) (e : K) : (ev F (.app i e)).S env h = match env[i]? with
  | some (.o xs) => ((ev F e).E env h).toS env fun d h1 => match d with
    | .py y => if fits (xs.length + 1) = true then .nx (env.set i (.o (xs ++ [y]))) h1 else .bad
    | _ => .bad
  | _ => .bad := rfl
@[simp] theorem S_ext (i : Nat) (e : K) : (ev F (.ext i e)).S env h = match env[i]? with
  | some (.o xs) => ((ev F e).E env h).toS env fun d h1 => match d with
    | .py (.list ys) => if fits (xs.length + ys.length) = true then .nx (env.set i (.o (xs ++ ys))) h1 else .bad
    | _ => .bad
  | _ => .bad := rfl
@[simp] theorem S_fr (g it b : K) : (ev F (.fr g it b)).S env h = ((ev F it).I env h).toS env fun xs h1 => forF (ev F g).G (ev F b).S xs env h1 := rfl
@[simp] theorem S_whl (t b : K) : (ev F (.whl t b)).S env h = whileF (ev F t).T (ev F b).S turns env h := by
  show (Den.s (whileF (ev F t).T (ev F b).S turns)).S env h = _
  rfl
@[simp] theorem S_frz (i : Nat) : (ev F (.frz i)).S env h = match frzE i env with
  | some env' => .nx env' h
  | none => .bad := rfl
@[simp] theorem S_parL (i j : Nat) : (ev F (.parL i j)).S env h = if i < env.length ∧ j < env.length then .nx ((env.set i (.o [])).set j (.o [])) h else .bad := rfl
@[simp] theorem I_dk (i : Nat) : (ev F (.dk i)).I env h = match lckAt h (look env i) with
  | some (_, kvs) => if sKs kvs = true then .ok (keysL kvs) h else .bad
  | none => .bad := rfl
@[simp] theorem E_lk (i : Nat) (k : K) : (ev F (.lk i k)).E env h = match dctO h (look env i) with
  | some (n, kvs) => unlkE n ((ev F k).E env (h.set n (.lck kvs)))
  | none => .bad := rfl
@[simp] theorem T_lk (i : Nat) (k : K) : (ev F (.lk i k)).T env h = ((ev F (.lk i k)).E env h).bind fun x h1 => lift (truD h1 x) h1 := rfl
@[simp] theorem S_lk (i : Nat) (k : K) : (ev F (.lk i k)).S env h = match dctO h (look env i) with
  | some (n, kvs) => unlkS n ((ev F k).S env (h.set n (.lck kvs)))
  | none => .bad := rfl
@[simp] theorem E_lc2 (vs vs1 : List Nat) (g it g1 it1 t e : K) : (ev F (.lc2 vs vs1 g it g1 it1 t e)).E env h = ((ev F it).I env h).bind fun xs h1 => match wipeE env vs with
  | none => .bad
  | some ew => (lc2F (ev F g).G (ev F it1).I (ev F g1).G vs1 (ev F t).T (ev F e).E ew xs h1).nx mkL := rfl
@[simp] theorem S_never : (ev F .never).S env h = .bad := rfl
end
@[simp] theorem fits_1 : fits 1 = true := rfl
@[simp] theorem fits_0 : fits 0 = true := rfl
@[simp] theorem fits_2 : fits 2 = true := rfl
@[simp] theorem fits_3 : fits 3 = true := rfl
@[simp] theorem fits_4 : fits 4 = true := rfl
@[simp] theorem fits_5 : fits 5 = true := rfl
end KF
set_option Elab.async false
set_option linter.all false
set_option maxRecDepth 100000
set_option maxHeartbeats 4000000
/-! KF, mathematics of the meaning: what all laws use. -/
namespace KF
open PySem
def iL (xs : List Int) : List PyData := xs.map .int
theorem iL_len (xs : List Int) : (iL xs).length = xs.length := by simp [iL]
theorem iL_app (xs ys : List Int) : iL (xs ++ ys) = iL xs ++ iL ys := by simp [iL]
theorem iL_get (xs : List Int) (i : Nat) : (iL xs)[i]? = (xs[i]?).map .int := by simp [iL]
theorem iL_inj {xs ys : List Int} (h : iL xs = iL ys) : xs = ys := by
  induction xs generalizing ys with
  | nil => cases ys with
    | nil => rfl
    | cons y r => cases h
  | cons x r ih => cases ys with
    | nil => cases h
    | cons y s =>
      have h : PyData.int x :: iL r = PyData.int y :: iL s := h
      injection h with h1 h2
      injection h1 with h1
      rw [h1, ih h2]
theorem eqvAll_ints : ∀ a b : List Int, PyData.eqvAll (iL a) (iL b) = decide (a = b)
  | [], [] => by simp [iL, PyData.eqvAll]
  | [], y :: s => by simp [iL, PyData.eqvAll]
  | x :: r, [] => by simp [iL, PyData.eqvAll]
  | x :: r, y :: s => by
    have := eqvAll_ints r s
    simp only [iL] at this
    simp only [iL, List.map_cons, PyData.eqvAll, PyData.eqv, this]
    by_cases h : x = y
    · subst h; simp
    · simp [h]
theorem eqv_T (a b : List Int) : PyData.eqv (.tuple (iL a)) (.tuple (iL b)) = decide (a = b) := by
  rw [PyData.eqv]; exact eqvAll_ints a b
theorem shal_int (i : Int) (n : Nat) : shal n (.int i) = true := by cases n <;> rfl
theorem shal_T (a : List Int) (n : Nat) : shal (n + 1) (.tuple (iL a)) = true := by
  simp only [shal, List.all_eq_true, iL, List.mem_map]
  rintro d ⟨i, _, rfl⟩
  exact shal_int i n
theorem lcF_pure {g : TgF} {ft : EvF Bool} {fe : EvF D} {env : KF.Env} {h : MH} (t : D → Bool) (f : D → PyData) : ∀ {xs : List D}, (∀ x ∈ xs, ∃ env1, g x env = some env1 ∧ ft env1 h = .ok (t x) h ∧ (t x = true → fe env1 h = .ok (.py (f x)) h)) → lcF g ft fe env xs h = .ok ((xs.filter t).map f) h
  | [], _ => rfl
  | x :: r, H => by
    obtain ⟨env1, e1, e2, e3⟩ := H x List.mem_cons_self
    have ih := lcF_pure (xs := r) t f fun y hy => H y (List.mem_cons_of_mem _ hy)
    unfold lcF
    rw [e1]
    simp only [e2, Out.nx]
    cases ht : t x with
    | true =>
      simp only [if_true, e3 ht, ih, List.filter_cons, ht, List.map_cons]
    | false =>
      simp only [Bool.false_eq_true, if_false, ih, List.filter_cons, ht]
theorem fits_small {n : Nat} (h : n ≤ 1000000) : fits n = true := by
  unfold fits
  exact Nat.ble_eq_true_of_le (by omega)
theorem rOk_small {j : Int} (h : j.natAbs ≤ 1000000) : rOk j = true := Nat.ble_eq_true_of_le (by omega)
theorem rng1_nat (n : Nat) (h : n ≤ 1000000) : rng1 [.py (.int n)] = some (rngL 0 n) := by
  unfold rng1
  simp only
  rw [if_pos (rOk_small (by omega))]
  rfl
theorem atI_nat {α : Type} (xs : List α) (i : Nat) (h : i < xs.length) : L2.atI xs (i : Int) = xs[i]? := by
  unfold L2.atI L2.ixN
  simp [h]
end KF
set_option Elab.async false
set_option linter.all false
set_option maxRecDepth 100000
/-! images of the defs -/
namespace LW
open PySem KF
def k_is_integer : K := .ret (.and (.isi "int" (.var 0)) (.no (.isi "bool" (.var 0))))
def p_is_integer : DefK := ⟨["value"], ["value"], [], k_is_integer⟩
def k_is_from : K := .ret (.and (.fn 0 (.cons (.varV 0) (.nil))) (.chn (.le) (.le) (.var 1) (.var 0) (.var 2)))
def p_is_from : DefK := ⟨["value", "low", "high"], ["value", "low", "high"], [], k_is_from⟩
def k_are_shapes : K := .sq (.ite (.or (.no (.isi "tuple" (.var 0))) (.no (.chn (.le) (.le) (.var 1) (.bi (.len) (.cons (.var 0) (.nil))) (.var 2)))) (.ret (.bl false)) (.skip)) (.sq (.fr (.tn 4) (.seq (.varV 0)) (.ite (.no (.fn 1 (.cons (.varV 4) (.cons (.int 0) (.cons (.varV 3) (.nil)))))) (.ret (.bl false)) (.skip))) (.ret (.bl true)))
def p_are_shapes : DefK := ⟨["value", "least", "most", "high"], ["value", "least", "most", "high", "shape"], [], k_are_shapes⟩
def k_check_ring : K := .ite (.no (.fn 2 (.cons (.varV 0) (.cons (.int 1) (.cons (.int 9) (.cons (.int 8) (.nil))))))) (.never) (.skip)
def p_check_ring : DefK := ⟨["value"], ["value"], [], k_check_ring⟩
def k_check_hold : K := .sq (.ite (.or (.no (.isi "tuple" (.var 1))) (.or (.cmp (.ne) (.bi (.len) (.cons (.var 1) (.nil))) (.int 2)) (.no (.fn 1 (.cons (.ix (.var 1) (.int 0)) (.cons (.int 0) (.cons (.bin (.sub) (.bi (.len) (.cons (.var 0) (.nil))) (.int 1)) (.nil)))))))) (.never) (.skip)) (.ite (.or (.no (.fn 0 (.cons (.ix (.var 1) (.int 1)) (.nil)))) (.cmp (.notin) (.ix (.var 1) (.int 1)) (.tup (.cons (.int 1) (.cons (.neg (.int 1)) (.nil)))))) (.never) (.skip))
def p_check_hold : DefK := ⟨["ring", "value"], ["ring", "value"], [], k_check_hold⟩
def k_check_number : K := .ite (.no (.fn 1 (.cons (.varV 0) (.cons (.varV 1) (.cons (.varV 2) (.nil)))))) (.never) (.skip)
def p_check_number : DefK := ⟨["value", "low", "high"], ["value", "low", "high"], [], k_check_number⟩
def k_shape_at : K := .sq (.asg (.tt 2 (.cons (.tn 3) (.cons (.tn 4) (.nil)))) (.varV 1)) (.ret (.ix (.var 0) (.bin (.mod) (.bin (.add) (.var 3) (.bin (.mul) (.var 4) (.var 2))) (.bi (.len) (.cons (.var 0) (.nil))))))
def p_shape_at : DefK := ⟨["ring", "hold", "far"], ["ring", "hold", "far", "key", "way"], [], k_shape_at⟩
def k_felt_by : K := .ret (.bi (.tup) (.cons (.lc [3] (.tn 3) (.rng1 (.cons (.var 2) (.nil))) (.yes) (.fn 6 (.cons (.varV 0) (.cons (.varV 1) (.cons (.varV 3) (.nil)))))) (.nil)))
def p_felt_by : DefK := ⟨["ring", "hold", "many"], ["ring", "hold", "many", "far"], [], k_felt_by⟩
def k_felt : K := .sq (.exp (.fn 3 (.cons (.varV 0) (.nil)))) (.sq (.exp (.fn 4 (.cons (.varV 0) (.cons (.varV 1) (.nil))))) (.sq (.exp (.fn 5 (.cons (.varV 2) (.cons (.int 0) (.cons (.int 40) (.nil)))))) (.ret (.fn 7 (.cons (.varV 0) (.cons (.varV 1) (.cons (.varV 2) (.nil))))))))
def p_felt : DefK := ⟨["ring", "hold", "many"], ["ring", "hold", "many"], [], k_felt⟩
def k_all_holds : K := .sq (.sto 1 (.lst (.nil))) (.sq (.fr (.tn 2) (.rng1 (.cons (.bi (.len) (.cons (.var 0) (.nil))) (.nil))) (.ext 1 (.lst (.cons (.tup (.cons (.varV 2) (.cons (.neg (.int 1)) (.nil)))) (.cons (.tup (.cons (.varV 2) (.cons (.int 1) (.nil)))) (.nil)))))) (.ret (.var 1)))
def p_all_holds : DefK := ⟨["ring"], ["ring", "found", "key"], [1], k_all_holds⟩
def k_holds_like : K := .sq (.exp (.fn 3 (.cons (.varV 0) (.nil)))) (.sq (.exp (.fn 4 (.cons (.varV 0) (.cons (.varV 1) (.nil))))) (.sq (.asg (.tn 2) (.fn 7 (.cons (.varV 0) (.cons (.varV 1) (.cons (.bi (.len) (.cons (.var 0) (.nil))) (.nil)))))) (.ret (.lc [3] (.tn 3) (.seq (.fn 9 (.cons (.varV 0) (.nil)))) (.cmp (.eq) (.fn 7 (.cons (.varV 0) (.cons (.varV 3) (.cons (.bi (.len) (.cons (.var 0) (.nil))) (.nil))))) (.var 2)) (.varV 3)))))
def p_holds_like : DefK := ⟨["ring", "hold"], ["ring", "hold", "told", "other"], [], k_holds_like⟩
def k__law_mix : K := .sq (.asg (.tn 2) (.varV 1)) (.sq (.fr (.tn 3) (.seq (.varV 0)) (.asg (.tn 2) (.bin (.mod) (.bi (.int) (.cons (.bin (.add) (.bin (.add) (.bin (.mul) (.var 2) (.int 48271)) (.bin (.mod) (.bi (.int) (.cons (.var 3) (.nil))) (.int 2147483629))) (.int 1)) (.nil))) (.int 2147483647)))) (.ret (.lstL (.cons (.varV 2) (.cons (.prom (.bi (.lst) (.cons (.var 0) (.nil)))) (.cons (.int 0) (.nil)))))))
def p__law_mix : DefK := ⟨["_law_script", "_law_seed"], ["_law_script", "_law_seed", "_law_state", "_law_cell"], [], k__law_mix⟩
def k__law_next : K := .sq (.asg (.tn 2) (.ix (.bin (.add) (.ix (.var 0) (.int 1)) (.lst (.cons (.int 0) (.nil)))) (.bin (.mod) (.bi (.int) (.cons (.ix (.var 0) (.int 2)) (.nil))) (.bi (.max2) (.cons (.int 1) (.cons (.bi (.len) (.cons (.ix (.var 0) (.int 1)) (.nil))) (.nil))))))) (.sq (.ite (.cmp (.ge) (.var 2) (.bin (.pow) (.int 10) (.int 18))) (.sq (.asg (.tn 3) (.ix (.var 0) (.int 1))) (.sq (.put 3 (.bin (.mod) (.bi (.int) (.cons (.ix (.var 0) (.int 2)) (.nil))) (.bi (.len) (.cons (.var 3) (.nil)))) (.bin (.div) (.var 2) (.var 1))) (.ret (.bin (.mod) (.bi (.int) (.cons (.var 2) (.nil))) (.var 1))))) (.skip)) (.sq (.put 0 (.int 0) (.bin (.mod) (.bi (.int) (.cons (.bin (.add) (.bin (.add) (.bin (.mul) (.ix (.var 0) (.int 0)) (.int 48271)) (.bin (.mul) (.var 2) (.int 69621))) (.int 11)) (.nil))) (.int 2147483647))) (.sq (.put 0 (.int 2) (.bin (.add) (.ix (.var 0) (.int 2)) (.int 1))) (.ret (.bin (.mod) (.bi (.int) (.cons (.bin (.div) (.ix (.var 0) (.int 0)) (.int 7)) (.nil))) (.var 1))))))
def p__law_next : DefK := ⟨["_law_h", "_law_bound"], ["_law_h", "_law_bound", "_law_cell", "_law_cells"], [], k__law_next⟩
def k__law_ring : K := .sq (.asg (.tt 2 (.cons (.tn 2) (.cons (.tn 3) (.nil)))) (.tup (.cons (.bin (.add) (.int 1) (.fn 12 (.cons (.varV 0) (.cons (.varV 1) (.nil))))) (.cons (.bin (.add) (.int 1) (.fn 12 (.cons (.varV 0) (.cons (.ix (.lst (.cons (.int 2) (.cons (.int 3) (.cons (.int 9) (.nil))))) (.fn 12 (.cons (.varV 0) (.cons (.int 3) (.nil))))) (.nil))))) (.nil))))) (.sq (.frz 3) (.sq (.asg (.tn 4) (.bi (.tup) (.cons (.lc [5] (.tn 5) (.rng1 (.cons (.var 2) (.nil))) (.yes) (.fn 12 (.cons (.varV 0) (.cons (.varV 3) (.nil))))) (.nil)))) (.sq (.asg (.tn 6) (.fn 12 (.cons (.varV 0) (.cons (.int 5) (.nil))))) (.sq (.ite (.cmp (.eq) (.var 6) (.int 0)) (.sq (.sto 7 (.slc (.var 4) (.nil) (.bi (.max2) (.cons (.int 1) (.cons (.bin (.div) (.var 2) (.int 2)) (.nil)))))) (.sto 4 (.bin (.add) (.var 7) (.var 7)))) (.skip)) (.sq (.ite (.cmp (.eq) (.var 6) (.int 1)) (.sq (.sto 7 (.slc (.var 4) (.nil) (.bi (.max2) (.cons (.int 1) (.cons (.bin (.div) (.var 2) (.int 2)) (.nil)))))) (.sto 4 (.bin (.add) (.var 7) (.rev (.var 7))))) (.skip)) (.ret (.slc (.var 4) (.nil) (.var 1))))))))
def p__law_ring : DefK := ⟨["_law_h", "_law_most"], ["_law_h", "_law_most", "_law_size", "_law_kinds", "_law_row", "_law_k", "_law_kind", "_law_part"], [2, 3, 4, 7], k__law_ring⟩
def k__law_holds : K := .sq (.sto 1 (.lst (.nil))) (.sq (.fr (.tn 2) (.rng1 (.cons (.bi (.len) (.cons (.var 0) (.nil))) (.nil))) (.sto 1 (.bin (.add) (.var 1) (.lst (.cons (.tup (.cons (.varV 2) (.cons (.neg (.int 1)) (.nil)))) (.cons (.tup (.cons (.varV 2) (.cons (.int 1) (.nil)))) (.nil))))))) (.ret (.var 1)))
def p__law_holds : DefK := ⟨["_law_ring_here"], ["_law_ring_here", "_law_found", "_law_key"], [1], k__law_holds⟩
def k__law_felt : K := .sq (.par2 3 4 (.ix (.var 1) (.int 0)) (.lst (.nil))) (.sq (.fr (.tn 5) (.rng1 (.cons (.var 2) (.nil))) (.sq (.app 4 (.ix (.var 0) (.var 3))) (.sq (.sto 3 (.bin (.add) (.var 3) (.ix (.var 1) (.int 1)))) (.sq (.frz 3) (.asg (.tn 3) (.ifx (.cmp (.eq) (.var 3) (.bi (.len) (.cons (.var 0) (.nil)))) (.int 0) (.ifx (.cmp (.lt) (.var 3) (.int 0)) (.bin (.sub) (.bi (.len) (.cons (.var 0) (.nil))) (.int 1)) (.varV 3)))))))) (.ret (.bi (.tup) (.cons (.var 4) (.nil)))))
def p__law_felt : DefK := ⟨["_law_ring_here", "_law_hold", "_law_many"], ["_law_ring_here", "_law_hold", "_law_many", "_law_key", "_law_found", "_law_k"], [3, 4], k__law_felt⟩
def k__law_unlike : K := .ret (.or (.cmp (.ne) (.ix (.var 0) (.int 0)) (.ix (.var 1) (.int 0))) (.and (.cmp (.eq) (.var 2) (.str "hold")) (.cmp (.ne) (.var 0) (.var 1))))
def p__law_unlike : DefK := ⟨["_law_one", "_law_other", "_law_aim"], ["_law_one", "_law_other", "_law_aim"], [], k__law_unlike⟩
def k_check_aim : K := .ite (.or (.no (.isi "str" (.var 0))) (.cmp (.notin) (.var 0) (.tup (.cons (.str "key") (.cons (.str "hold") (.nil)))))) (.never) (.skip)
def p_check_aim : DefK := ⟨["value"], ["value"], [], k_check_aim⟩
def k_is_known : K := .sq (.ite (.cmp (.eq) (.var 1) (.str "hold")) (.ret (.cmp (.eq) (.bi (.len) (.cons (.var 0) (.nil))) (.int 1))) (.skip)) (.ret (.cmp (.eq) (.lset (.lc [2, 3] (.tt 2 (.cons (.tn 2) (.cons (.tn 3) (.nil)))) (.seq (.varV 0)) (.yes) (.varV 2))) (.int 1)))
def p_is_known : DefK := ⟨["holds", "aim"], ["holds", "aim", "key", "way"], [], k_is_known⟩
def b_least_by_1 : K := .sq (.asg (.tn 5) (.fn 7 (.cons (.varV 0) (.cons (.varV 4) (.cons (.varV 2) (.nil)))))) (.put 3 (.var 5) (.bin (.add) (.dget (.varV 3) (.var 5) (.lst (.nil))) (.lst (.cons (.varV 4) (.nil)))))
def t_least_by_1 : K := .no (.fn 20 (.cons (.ix (.var 3) (.var 5)) (.cons (.varV 1) (.nil))))
def b_least_by_2 : K := .sq (.asg (.tn 3) (.dnew)) (.sq (.fr (.tn 4) (.seq (.fn 9 (.cons (.varV 0) (.nil)))) (b_least_by_1)) (.ite (.no (.lk 3 (.lc [5] (.tn 5) (.dk 3) (t_least_by_1) (.varV 5)))) (.ret (.var 2)) (.skip)))
def k_least_by : K := .sq (.fr (.tn 2) (.rng1 (.cons (.bin (.add) (.bi (.len) (.cons (.var 0) (.nil))) (.int 1)) (.nil))) (b_least_by_2)) (.ret (.non))
def p_least_by : DefK := ⟨["ring", "aim"], ["ring", "aim", "many", "groups", "hold", "told"], [1003], k_least_by⟩
def k_least_felt : K := .sq (.exp (.fn 3 (.cons (.varV 0) (.nil)))) (.sq (.exp (.fn 19 (.cons (.varV 1) (.nil)))) (.ret (.fn 21 (.cons (.varV 0) (.cons (.varV 1) (.nil))))))
def p_least_felt : DefK := ⟨["ring", "aim"], ["ring", "aim"], [], k_least_felt⟩
def b_alike_pair_1 : K := .ite (.no (.fn 20 (.cons (.lst (.cons (.varV 4) (.cons (.varV 5) (.nil)))) (.cons (.varV 1) (.nil))))) (.ite (.cmp (.eq) (.fn 7 (.cons (.varV 0) (.cons (.varV 4) (.cons (.bi (.len) (.cons (.var 0) (.nil))) (.nil))))) (.fn 7 (.cons (.varV 0) (.cons (.varV 5) (.cons (.bi (.len) (.cons (.var 0) (.nil))) (.nil)))))) (.ret (.tup (.cons (.varV 4) (.cons (.varV 5) (.nil))))) (.skip)) (.skip)
def b_alike_pair_2 : K := .fr (.tn 5) (.seq (.slc (.var 2) (.bin (.add) (.var 3) (.int 1)) (.nil))) (b_alike_pair_1)
def k_alike_pair : K := .sq (.exp (.fn 3 (.cons (.varV 0) (.nil)))) (.sq (.exp (.fn 19 (.cons (.varV 1) (.nil)))) (.sq (.asg (.tn 2) (.fn 9 (.cons (.varV 0) (.nil)))) (.sq (.fr (.tt 2 (.cons (.tn 3) (.cons (.tn 4) (.nil)))) (.enu (.cons (.varV 2) (.nil))) (b_alike_pair_2)) (.ret (.non)))))
def p_alike_pair : DefK := ⟨["ring", "aim"], ["ring", "aim", "holds", "place", "one", "other"], [], k_alike_pair⟩
def t__law_pairs_1 : K := .fn 17 (.cons (.ix (.var 2) (.var 4)) (.cons (.varV 5) (.cons (.varV 1) (.nil))))
def e__law_pairs_1 : K := .tup (.cons (.ix (.var 2) (.var 4)) (.cons (.varV 5) (.nil)))
def b__law_pairs_1 : K := .sto 3 (.bin (.add) (.var 3) (.lc [5] (.tn 5) (.seq (.slc (.var 2) (.bin (.add) (.var 4) (.int 1)) (.nil))) (t__law_pairs_1) (e__law_pairs_1)))
def k__law_pairs : K := .sq (.asg (.tt 2 (.cons (.tn 2) (.cons (.tn 3) (.nil)))) (.tup (.cons (.fn 14 (.cons (.varV 0) (.nil))) (.cons (.lst (.nil)) (.nil))))) (.sq (.fr (.tn 4) (.rng1 (.cons (.bi (.len) (.cons (.var 2) (.nil))) (.nil))) (b__law_pairs_1)) (.ret (.var 3)))
def p__law_pairs : DefK := ⟨["_law_ring_here", "_law_aim"], ["_law_ring_here", "_law_aim", "_law_holds_here", "_law_found", "_law_k", "_law_other"], [3], k__law_pairs⟩
def b__law_first_1 : K := .ite (.cmp (.ne) (.fn 15 (.cons (.varV 0) (.cons (.varV 1) (.cons (.varV 3) (.nil))))) (.fn 15 (.cons (.varV 0) (.cons (.varV 2) (.cons (.varV 3) (.nil)))))) (.ret (.var 3)) (.skip)
def k__law_first : K := .sq (.fr (.tn 3) (.rng1 (.cons (.int 20) (.nil))) (b__law_first_1)) (.ret (.non))
def p__law_first : DefK := ⟨["_law_ring_here", "_law_one", "_law_other"], ["_law_ring_here", "_law_one", "_law_other", "_law_many"], [], k__law_first⟩
def e_with_caps_1 : K := .bin (.add) (.bin (.mul) (.int 2) (.var 3)) (.bi (.int) (.cons (.cmp (.isin) (.var 2) (.var 1)) (.nil)))
def k_with_caps : K := .ret (.bi (.tup) (.cons (.lc [2, 3] (.tt 2 (.cons (.tn 2) (.cons (.tn 3) (.nil)))) (.enu (.cons (.varV 0) (.nil))) (.yes) (e_with_caps_1)) (.nil)))
def p_with_caps : DefK := ⟨["ring", "caps"], ["ring", "caps", "key", "shape"], [], k_with_caps⟩
def i_subsets_1 : K := .rng1 (.cons (.var 0) (.nil))
def t_subsets_1 : K := .or (.no (.var 4)) (.cmp (.gt) (.var 5) (.ix (.var 4) (.neg (.int 1))))
def e_subsets_1 : K := .bin (.add) (.var 4) (.tup (.cons (.varV 5) (.nil)))
def b_subsets_1 : K := .sq (.frz 2) (.sto 2 (.lc2 [4, 5] [5] (.tn 4) (.seq (.varV 2)) (.tn 5) (i_subsets_1) (t_subsets_1) (e_subsets_1)))
def k_subsets : K := .sq (.sto 2 (.lst (.cons (.tup (.nil)) (.nil)))) (.sq (.fr (.tn 3) (.rng1 (.cons (.var 1) (.nil))) (b_subsets_1)) (.ret (.var 2)))
def p_subsets : DefK := ⟨["many", "size"], ["many", "size", "found", "turn", "some", "key"], [2], k_subsets⟩
def b_smallest_1 : K := .sq (.asg (.tn 6) (.fn 21 (.cons (.fn 64 (.cons (.varV 0) (.cons (.varV 5) (.nil)))) (.cons (.varV 1) (.nil))))) (.ite (.and (.cmp (.notN) (.var 6) (.non)) (.cmp (.le) (.var 6) (.var 2))) (.app 4 (.varV 5)) (.skip))
def b_smallest_2 : K := .sq (.sto 4 (.lst (.nil))) (.sq (.fr (.tn 5) (.seq (.fn 65 (.cons (.bi (.len) (.cons (.var 0) (.nil))) (.cons (.varV 3) (.nil))))) (b_smallest_1)) (.ite (.var 4) (.ret (.var 4)) (.skip)))
def k_smallest : K := .sq (.fr (.tn 3) (.rng1 (.cons (.bin (.add) (.bi (.len) (.cons (.var 0) (.nil))) (.int 1)) (.nil))) (b_smallest_2)) (.ret (.lst (.nil)))
def p_smallest : DefK := ⟨["ring", "aim", "many"], ["ring", "aim", "many", "size", "found", "caps", "least"], [4], k_smallest⟩
def k_fewest_caps : K := .sq (.exp (.fn 3 (.cons (.varV 0) (.nil)))) (.sq (.exp (.fn 19 (.cons (.varV 1) (.nil)))) (.ret (.fn 66 (.cons (.varV 0) (.cons (.varV 1) (.cons (.bi (.len) (.cons (.var 0) (.nil))) (.nil)))))))
def p_fewest_caps : DefK := ⟨["ring", "aim"], ["ring", "aim"], [], k_fewest_caps⟩
def k_caps_within : K := .sq (.exp (.fn 3 (.cons (.varV 0) (.nil)))) (.sq (.exp (.fn 19 (.cons (.varV 1) (.nil)))) (.sq (.exp (.fn 5 (.cons (.varV 2) (.cons (.int 0) (.cons (.int 20) (.nil)))))) (.ret (.fn 66 (.cons (.varV 0) (.cons (.varV 1) (.cons (.varV 2) (.nil))))))))
def p_caps_within : DefK := ⟨["ring", "aim", "many"], ["ring", "aim", "many"], [], k_caps_within⟩
def b__law_told_by_1 : K := .sq (.asg (.tn 6) (.fn 15 (.cons (.varV 0) (.cons (.varV 5) (.cons (.varV 3) (.nil)))))) (.put 4 (.var 6) (.bin (.add) (.dget (.varV 4) (.var 6) (.lst (.nil))) (.lst (.cons (.varV 5) (.nil)))))
def t__law_told_by_1 : K := .fn 17 (.cons (.ix (.ix (.var 4) (.var 6)) (.int 0)) (.cons (.varV 8) (.cons (.varV 1) (.nil))))
def t__law_told_by_2 : K := .cmp (.ne) (.lc [8] (.tn 8) (.seq (.ix (.var 4) (.var 6))) (t__law_told_by_1) (.varV 8)) (.lst (.nil))
def b__law_told_by_2 : K := .sq (.asg (.tn 4) (.dnew)) (.sq (.fr (.tn 5) (.seq (.varV 2)) (b__law_told_by_1)) (.sq (.lk 4 (.sto 7 (.lc [6] (.tn 6) (.dk 4) (t__law_told_by_2) (.varV 6)))) (.ite (.cmp (.eq) (.var 7) (.lst (.nil))) (.ret (.var 3)) (.skip))))
def k__law_told_by : K := .sq (.asg (.tn 2) (.fn 14 (.cons (.varV 0) (.nil)))) (.sq (.fr (.tn 3) (.rng1 (.cons (.bin (.add) (.bi (.len) (.cons (.var 0) (.nil))) (.int 1)) (.nil))) (b__law_told_by_2)) (.ret (.non)))
def p__law_told_by : DefK := ⟨["_law_ring_here", "_law_aim"], ["_law_ring_here", "_law_aim", "_law_holds_here", "_law_many", "_law_groups", "_law_hold", "_law_told", "_law_bad", "_law_one"], [7, 1004], k__law_told_by⟩
def e_least_of_v2_1 : K := .fn 7 (.cons (.varV 0) (.cons (.varV 1) (.cons (.bi (.len) (.cons (.var 0) (.nil))) (.nil))))
def k_least_of_v2 : K := .ret (.bi (.min1) (.cons (.lc [1] (.tn 1) (.seq (.fn 9 (.cons (.varV 0) (.nil)))) (.yes) (e_least_of_v2_1)) (.nil)))
def p_least_of_v2 : DefK := ⟨["ring"], ["ring", "hold"], [], k_least_of_v2⟩
def k_check_counts : K := .ite (.or (.no (.fn 2 (.cons (.varV 0) (.cons (.int 1) (.cons (.int 9) (.cons (.int 40) (.nil))))))) (.no (.chn (.le) (.le) (.int 1) (.bi (.sum) (.cons (.var 0) (.nil))) (.int 40)))) (.never) (.skip)
def p_check_counts : DefK := ⟨["value"], ["value"], [], k_check_counts⟩
def b_all_rows_1 : K := .ite (.cmp (.gt) (.var 7) (.int 0)) (.app 3 (.tup (.cons (.bin (.add) (.var 4) (.tup (.cons (.varV 6) (.nil)))) (.cons (.bin (.add) (.bin (.add) (.slc (.var 5) (.nil) (.var 6)) (.tup (.cons (.bin (.sub) (.var 7) (.int 1)) (.nil)))) (.slc (.var 5) (.bin (.add) (.var 6) (.int 1)) (.nil))) (.nil))))) (.skip)
def b_all_rows_2 : K := .fr (.tt 2 (.cons (.tn 6) (.cons (.tn 7) (.nil)))) (.enu (.cons (.varV 5) (.nil))) (b_all_rows_1)
def b_all_rows_3 : K := .sq (.sto 3 (.lst (.nil))) (.sq (.frz 1) (.sq (.fr (.tt 2 (.cons (.tn 4) (.cons (.tn 5) (.nil)))) (.seq (.varV 1)) (b_all_rows_2)) (.sq (.frz 3) (.asg (.tn 1) (.varV 3)))))
def k_all_rows : K := .sq (.sto 1 (.lst (.cons (.tup (.cons (.tup (.nil)) (.cons (.varV 0) (.nil)))) (.nil)))) (.sq (.fr (.tn 2) (.rng1 (.cons (.bi (.sum) (.cons (.var 0) (.nil))) (.nil))) (b_all_rows_3)) (.sq (.frz 1) (.ret (.lc [4, 5] (.tt 2 (.cons (.tn 4) (.cons (.tn 5) (.nil)))) (.seq (.varV 1)) (.yes) (.varV 4)))))
def p_all_rows : DefK := ⟨["counts"], ["counts", "found", "turn", "longer", "row", "left", "shape", "count"], [1, 3], k_all_rows⟩
def e_all_rings_1 : K := .fn 71 (.cons (.varV 1) (.nil))
def k_all_rings : K := .sq (.exp (.fn 74 (.cons (.varV 0) (.nil)))) (.sq (.ite (.cmp (.gt) (.bi (.sum) (.cons (.var 0) (.nil))) (.int 8)) (.never) (.skip)) (.ret (.sset (.lc [1] (.tn 1) (.seq (.fn 81 (.cons (.varV 0) (.nil)))) (.yes) (e_all_rings_1)))))
def p_all_rings : DefK := ⟨["counts"], ["counts", "row"], [], k_all_rings⟩
def b__law_turned_1 : K := .sq (.sto 3 (.bin (.add) (.slc (.var 0) (.var 2) (.nil)) (.slc (.var 0) (.nil) (.var 2)))) (.sq (.frz 3) (.sto 1 (.bin (.add) (.var 1) (.lst (.cons (.varV 3) (.cons (.rev (.var 3)) (.nil)))))))
def k__law_turned : K := .sq (.sto 1 (.lst (.nil))) (.sq (.fr (.tn 2) (.rng1 (.cons (.bi (.len) (.cons (.var 0) (.nil))) (.nil))) (b__law_turned_1)) (.ret (.var 1)))
def p__law_turned : DefK := ⟨["_law_ring_here"], ["_law_ring_here", "_law_found", "_law_k", "_law_row"], [1, 3], k__law_turned⟩
def e__law_rows_1 : K := .bin (.add) (.tup (.cons (.varV 2) (.nil))) (.var 4)
def b__law_rows_1 : K := .ite (.cmp (.gt) (.ix (.var 0) (.var 2)) (.int 0)) (.sq (.sto 3 (.bin (.add) (.bin (.add) (.slc (.var 0) (.nil) (.var 2)) (.tup (.cons (.bin (.sub) (.ix (.var 0) (.var 2)) (.int 1)) (.nil)))) (.slc (.var 0) (.bin (.add) (.var 2) (.int 1)) (.nil)))) (.sq (.frz 3) (.sto 1 (.bin (.add) (.var 1) (.lc [4] (.tn 4) (.seq (.fn 84 (.cons (.varV 3) (.nil)))) (.yes) (e__law_rows_1)))))) (.skip)
def k__law_rows : K := .sq (.ite (.cmp (.eq) (.bi (.sum) (.cons (.var 0) (.nil))) (.int 0)) (.ret (.lst (.cons (.tup (.nil)) (.nil)))) (.skip)) (.sq (.sto 1 (.lst (.nil))) (.sq (.fr (.tn 2) (.rng1 (.cons (.bi (.len) (.cons (.var 0) (.nil))) (.nil))) (b__law_rows_1)) (.ret (.var 1))))
def p__law_rows : DefK := ⟨["_law_counts"], ["_law_counts", "_law_found", "_law_shape", "_law_left", "_law_row"], [1, 3], k__law_rows⟩
def k_check_seen : K := .ite (.no (.fn 2 (.cons (.varV 0) (.cons (.varV 1) (.cons (.varV 1) (.cons (.int 8) (.nil))))))) (.never) (.skip)
def p_check_seen : DefK := ⟨["value", "many"], ["value", "many"], [], k_check_seen⟩
def k_same_round : K := .sq (.ite (.no (.var 0)) (.ret (.no (.var 1))) (.skip)) (.ret (.cmp (.eq) (.fn 71 (.cons (.varV 0) (.nil))) (.fn 71 (.cons (.varV 1) (.nil)))))
def p_same_round : DefK := ⟨["row", "other"], ["row", "other"], [], k_same_round⟩
def t_lost_from_1 : K := .fn 90 (.cons (.bin (.add) (.slc (.var 0) (.nil) (.var 2)) (.slc (.var 0) (.bin (.add) (.var 2) (.int 1)) (.nil))) (.cons (.varV 1) (.nil)))
def k_lost_from : K := .sq (.exp (.fn 3 (.cons (.varV 0) (.nil)))) (.sq (.exp (.fn 89 (.cons (.varV 1) (.cons (.bin (.sub) (.bi (.len) (.cons (.var 0) (.nil))) (.int 1)) (.nil))))) (.ret (.lc [2] (.tn 2) (.rng1 (.cons (.bi (.len) (.cons (.var 0) (.nil))) (.nil))) (t_lost_from_1) (.varV 2))))
def p_lost_from : DefK := ⟨["ring", "seen"], ["ring", "seen", "key"], [], k_lost_from⟩
def b_put_into_1 : K := .ite (.fn 90 (.cons (.bin (.add) (.bin (.add) (.slc (.var 0) (.nil) (.bin (.add) (.var 3) (.int 1))) (.tup (.cons (.varV 4) (.nil)))) (.slc (.var 0) (.bin (.add) (.var 3) (.int 1)) (.nil))) (.cons (.varV 1) (.nil)))) (.app 2 (.tup (.cons (.varV 3) (.cons (.varV 4) (.nil))))) (.skip)
def b_put_into_2 : K := .fr (.tn 4) (.seq (.sset (.var 1))) (b_put_into_1)
def k_put_into : K := .sq (.exp (.fn 3 (.cons (.varV 0) (.nil)))) (.sq (.exp (.fn 89 (.cons (.varV 1) (.cons (.bin (.add) (.bi (.len) (.cons (.var 0) (.nil))) (.int 1)) (.nil))))) (.sq (.sto 2 (.lst (.nil))) (.sq (.fr (.tn 3) (.rng1 (.cons (.bi (.len) (.cons (.var 0) (.nil))) (.nil))) (b_put_into_2)) (.ret (.var 2)))))
def p_put_into : DefK := ⟨["ring", "seen"], ["ring", "seen", "found", "key", "shape"], [2], k_put_into⟩
def b_check_pieces_1 : K := .ite (.no (.fn 2 (.cons (.varV 2) (.cons (.int 0) (.cons (.int 12) (.cons (.bin (.sub) (.var 1) (.int 1)) (.nil))))))) (.never) (.skip)
def k_check_pieces : K := .sq (.ite (.or (.no (.isi "tuple" (.var 0))) (.cmp (.gt) (.bi (.len) (.cons (.var 0) (.nil))) (.int 8))) (.never) (.skip)) (.fr (.tn 2) (.seq (.varV 0)) (b_check_pieces_1))
def p_check_pieces : DefK := ⟨["value", "shapes"], ["value", "shapes", "piece"], [], k_check_pieces⟩
def e_has_piece_1 : K := .fn 7 (.cons (.varV 0) (.cons (.varV 2) (.cons (.bi (.len) (.cons (.var 1) (.nil))) (.nil))))
def k_has_piece : K := .ret (.cmp (.isin) (.var 1) (.lc [2] (.tn 2) (.seq (.fn 9 (.cons (.varV 0) (.nil)))) (.yes) (e_has_piece_1)))
def p_has_piece : DefK := ⟨["ring", "piece"], ["ring", "piece", "hold"], [], k_has_piece⟩
def i_rings_with_1 : K := .rng1 (.cons (.var 1) (.nil))
def e_rings_with_1 : K := .bin (.add) (.var 5) (.tup (.cons (.varV 6) (.nil)))
def b_rings_with_1 : K := .sq (.frz 3) (.sto 3 (.lc2 [5, 6] [6] (.tn 5) (.seq (.varV 3)) (.tn 6) (i_rings_with_1) (.yes) (e_rings_with_1)))
def t_rings_with_1 : K := .no (.fn 94 (.cons (.varV 5) (.cons (.varV 8) (.nil))))
def b_rings_with_2 : K := .ite (.and (.cmp (.eq) (.fn 71 (.cons (.varV 5) (.nil))) (.var 5)) (.no (.lc [8] (.tn 8) (.seq (.varV 2)) (t_rings_with_1) (.varV 8)))) (.app 7 (.varV 5)) (.skip)
def k_rings_with : K := .sq (.exp (.fn 5 (.cons (.varV 0) (.cons (.int 1) (.cons (.int 6) (.nil)))))) (.sq (.exp (.fn 5 (.cons (.varV 1) (.cons (.int 1) (.cons (.int 3) (.nil)))))) (.sq (.exp (.fn 93 (.cons (.varV 2) (.cons (.varV 1) (.nil))))) (.sq (.sto 3 (.lst (.cons (.tup (.nil)) (.nil)))) (.sq (.fr (.tn 4) (.rng1 (.cons (.var 0) (.nil))) (b_rings_with_1)) (.sq (.sto 7 (.lst (.nil))) (.sq (.frz 3) (.sq (.fr (.tn 5) (.seq (.varV 3)) (b_rings_with_2)) (.ret (.var 7)))))))))
def p_rings_with : DefK := ⟨["keys", "shapes", "pieces"], ["keys", "shapes", "pieces", "rows", "turn", "row", "shape", "found", "piece"], [3, 7], k_rings_with⟩
def b__law_turned_v2_1 : K := .sq (.sto 3 (.bin (.add) (.slc (.var 0) (.var 2) (.nil)) (.slc (.var 0) (.nil) (.var 2)))) (.sq (.frz 3) (.sto 1 (.bin (.add) (.var 1) (.lst (.cons (.varV 3) (.cons (.rev (.var 3)) (.nil)))))))
def k__law_turned_v2 : K := .sq (.sto 1 (.ifx (.cmp (.eq) (.var 0) (.tup (.nil))) (.lst (.cons (.tup (.nil)) (.nil))) (.lst (.nil)))) (.sq (.fr (.tn 2) (.rng1 (.cons (.bi (.len) (.cons (.var 0) (.nil))) (.nil))) (b__law_turned_v2_1)) (.ret (.var 1)))
def p__law_turned_v2 : DefK := ⟨["_law_ring_here"], ["_law_ring_here", "_law_found", "_law_k", "_law_row"], [1, 3], k__law_turned_v2⟩
def t__law_can_feel_1 : K := .cmp (.eq) (.fn 15 (.cons (.varV 0) (.cons (.varV 2) (.cons (.bi (.len) (.cons (.var 1) (.nil))) (.nil))))) (.var 1)
def k__law_can_feel : K := .ret (.cmp (.ne) (.lc [2] (.tn 2) (.seq (.fn 14 (.cons (.varV 0) (.nil)))) (t__law_can_feel_1) (.varV 2)) (.lst (.nil)))
def p__law_can_feel : DefK := ⟨["_law_ring_here", "_law_piece"], ["_law_ring_here", "_law_piece", "_law_hold"], [], k__law_can_feel⟩
def t__law_fits_1 : K := .no (.fn 97 (.cons (.varV 0) (.cons (.varV 2) (.nil))))
def k__law_fits : K := .ret (.and (.cmp (.eq) (.bi (.min1) (.cons (.fn 96 (.cons (.varV 0) (.nil))) (.nil))) (.var 0)) (.cmp (.eq) (.lc [2] (.tn 2) (.seq (.varV 1)) (t__law_fits_1) (.varV 2)) (.lst (.nil))))
def p__law_fits : DefK := ⟨["_law_ring_here", "_law_pieces"], ["_law_ring_here", "_law_pieces", "_law_one"], [], k__law_fits⟩
def e__law_with_1 : K := .fn 12 (.cons (.varV 0) (.cons (.varV 2) (.nil)))
def b__law_with_1 : K := .sq (.asg (.tn 6) (.ix (.fn 14 (.cons (.varV 3) (.nil))) (.fn 12 (.cons (.varV 0) (.cons (.bin (.mul) (.int 2) (.var 1)) (.nil)))))) (.sq (.asg (.tn 7) (.fn 15 (.cons (.varV 3) (.cons (.varV 6) (.cons (.fn 12 (.cons (.varV 0) (.cons (.ix (.lst (.cons (.int 4) (.cons (.int 13) (.nil)))) (.fn 12 (.cons (.varV 0) (.cons (.int 2) (.nil))))) (.nil)))) (.nil)))))) (.sq (.frz 2) (.app 5 (.ifx (.or (.cmp (.gt) (.fn 12 (.cons (.varV 0) (.cons (.int 9) (.nil)))) (.int 0)) (.cmp (.eq) (.var 7) (.tup (.nil)))) (.varV 7) (.bin (.add) (.slc (.var 7) (.int 1) (.nil)) (.tup (.cons (.fn 12 (.cons (.varV 0) (.cons (.varV 2) (.nil)))) (.nil))))))))
def e__law_with_2 : K := .bin (.add) (.var 10) (.tup (.cons (.varV 11) (.nil)))
def b__law_with_2 : K := .sto 9 (.bin (.add) (.var 9) (.lc [11] (.tn 11) (.rng1 (.cons (.var 2) (.nil))) (.yes) (e__law_with_2)))
def b__law_with_3 : K := .sq (.sto 9 (.lst (.nil))) (.sq (.frz 8) (.sq (.fr (.tn 10) (.seq (.varV 8)) (b__law_with_2)) (.sq (.frz 9) (.asg (.tn 8) (.varV 9)))))
def t__law_with_1 : K := .fn 98 (.cons (.varV 10) (.cons (.varV 5) (.nil)))
def k__law_with : K := .sq (.asg (.tt 2 (.cons (.tn 1) (.cons (.tn 2) (.nil)))) (.tup (.cons (.bin (.add) (.int 1) (.fn 12 (.cons (.varV 0) (.cons (.int 6) (.nil))))) (.cons (.bin (.add) (.int 1) (.fn 12 (.cons (.varV 0) (.cons (.int 3) (.nil))))) (.nil))))) (.sq (.frz 2) (.sq (.asg (.tn 3) (.bi (.tup) (.cons (.lc [4] (.tn 4) (.rng1 (.cons (.var 1) (.nil))) (.yes) (e__law_with_1)) (.nil)))) (.sq (.sto 5 (.lst (.nil))) (.sq (.fr (.tn 4) (.rng1 (.cons (.fn 12 (.cons (.varV 0) (.cons (.ix (.lst (.cons (.int 5) (.cons (.int 9) (.nil)))) (.fn 12 (.cons (.varV 0) (.cons (.int 2) (.nil))))) (.nil)))) (.nil))) (b__law_with_1)) (.sq (.sto 8 (.lst (.cons (.tup (.nil)) (.nil)))) (.sq (.fr (.tn 4) (.rng1 (.cons (.var 1) (.nil))) (b__law_with_3)) (.sq (.frz 1) (.sq (.frz 2) (.sq (.frz 8) (.sq (.frz 5) (.ret (.cmp (.eq) (.fn 95 (.cons (.varV 1) (.cons (.varV 2) (.cons (.bi (.tup) (.cons (.var 5) (.nil))) (.nil))))) (.lc [10] (.tn 10) (.seq (.varV 8)) (t__law_with_1) (.varV 10))))))))))))))
def p__law_with : DefK := ⟨["_law_h"], ["_law_h", "_law_keys", "_law_shapes", "_law_ring_here", "_law_k", "_law_pieces", "_law_hold", "_law_one", "_law_rows", "_law_longer", "_law_row", "_law_x"], [1, 2, 5, 8, 9], k__law_with⟩
def k_keys_for : K := .sq (.asg (.tn 4) (.int 0)) (.sq (.asg (.tn 5) (.int 0)) (.sq (.whl (.cmp (.lt) (.var 5) (.var 3)) (.sq (.aug 5 (.add) (.bi (.int) (.cons (.cmp (.ne) (.fn 6 (.cons (.varV 0) (.cons (.varV 1) (.cons (.varV 4) (.nil))))) (.fn 6 (.cons (.varV 0) (.cons (.varV 2) (.cons (.varV 4) (.nil)))))) (.nil)))) (.aug 4 (.add) (.int 1)))) (.ret (.var 4))))
def p_keys_for : DefK := ⟨["ring", "one", "other", "wanted"], ["ring", "one", "other", "wanted", "many", "found"], [], k_keys_for⟩
def e_best_rings_1 : K := .tup (.cons (.fn 21 (.cons (.varV 4) (.cons (.varV 1) (.nil)))) (.cons (.varV 4) (.nil)))
def t_best_rings_1 : K := .cmp (.notN) (.var 5) (.non)
def e_best_rings_2 : K := .tup (.cons (.varV 5) (.cons (.varV 4) (.nil)))
def t_best_rings_2 : K := .cmp (.eq) (.var 5) (.var 6)
def k_best_rings : K := .sq (.asg (.tn 2) (.fn 82 (.cons (.varV 0) (.nil)))) (.sq (.exp (.fn 19 (.cons (.varV 1) (.nil)))) (.sq (.sto 3 (.lc [4] (.tn 4) (.seq (.varV 2)) (.yes) (e_best_rings_1))) (.sq (.frz 3) (.sq (.sto 3 (.lc [5, 4] (.tt 2 (.cons (.tn 5) (.cons (.tn 4) (.nil)))) (.seq (.varV 3)) (t_best_rings_1) (e_best_rings_2))) (.sq (.ite (.no (.var 3)) (.ret (.non)) (.skip)) (.sq (.asg (.tn 6) (.ix (.bi (.min1) (.cons (.var 3) (.nil))) (.int 0))) (.sq (.frz 3) (.ret (.tup (.cons (.varV 6) (.cons (.lc [5, 4] (.tt 2 (.cons (.tn 5) (.cons (.tn 4) (.nil)))) (.seq (.varV 3)) (t_best_rings_2) (.varV 4)) (.nil))))))))))))
def p_best_rings : DefK := ⟨["counts", "aim"], ["counts", "aim", "every", "told", "ring", "many", "least"], [3], k_best_rings⟩
def b_told_rings_1 : K := .sq (.asg (.tn 6) (.fn 21 (.cons (.varV 5) (.cons (.varV 3) (.nil))))) (.ite (.and (.cmp (.notN) (.var 6) (.non)) (.cmp (.le) (.var 6) (.var 2))) (.app 4 (.varV 5)) (.skip))
def k_told_rings : K := .sq (.exp (.fn 5 (.cons (.varV 0) (.cons (.int 1) (.cons (.int 6) (.nil)))))) (.sq (.exp (.fn 5 (.cons (.varV 1) (.cons (.int 1) (.cons (.int 3) (.nil)))))) (.sq (.exp (.fn 5 (.cons (.varV 2) (.cons (.int 0) (.cons (.int 20) (.nil)))))) (.sq (.exp (.fn 19 (.cons (.varV 3) (.nil)))) (.sq (.sto 4 (.lst (.nil))) (.sq (.fr (.tn 5) (.seq (.fn 95 (.cons (.varV 0) (.cons (.varV 1) (.cons (.tup (.nil)) (.nil)))))) (b_told_rings_1)) (.ret (.var 4)))))))
def p_told_rings : DefK := ⟨["keys", "shapes", "many", "aim"], ["keys", "shapes", "many", "aim", "found", "ring", "least"], [4], k_told_rings⟩
def b__law_told_by_v2_1 : K := .sq (.asg (.tn 5) (.fn 15 (.cons (.varV 0) (.cons (.varV 4) (.cons (.varV 2) (.nil)))))) (.put 3 (.var 5) (.bin (.add) (.dget (.varV 3) (.var 5) (.lst (.nil))) (.lst (.cons (.varV 4) (.nil)))))
def t__law_told_by_v2_1 : K := .fn 17 (.cons (.varV 7) (.cons (.varV 8) (.cons (.varV 1) (.nil))))
def b__law_told_by_v2_2 : K := .sq (.asg (.tn 7) (.ix (.ix (.var 3) (.var 5)) (.int 0))) (.sto 6 (.bin (.add) (.var 6) (.bi (.len) (.cons (.lc [8] (.tn 8) (.seq (.ix (.var 3) (.var 5))) (t__law_told_by_v2_1) (.varV 8)) (.nil)))))
def b__law_told_by_v2_3 : K := .sq (.asg (.tn 3) (.dnew)) (.sq (.fr (.tn 4) (.seq (.fn 14 (.cons (.varV 0) (.nil)))) (b__law_told_by_v2_1)) (.sq (.asg (.tn 6) (.int 0)) (.sq (.lk 3 (.fr (.tn 5) (.dk 3) (b__law_told_by_v2_2))) (.ite (.cmp (.eq) (.var 6) (.int 0)) (.ret (.var 2)) (.skip)))))
def k__law_told_by_v2 : K := .sq (.fr (.tn 2) (.rng1 (.cons (.bin (.add) (.bi (.len) (.cons (.var 0) (.nil))) (.int 1)) (.nil))) (b__law_told_by_v2_3)) (.ret (.non))
def p__law_told_by_v2 : DefK := ⟨["_law_ring_here", "_law_aim"], ["_law_ring_here", "_law_aim", "_law_many", "_law_groups", "_law_hold", "_law_told", "_law_bad", "_law_first", "_law_one"], [6, 1003], k__law_told_by_v2⟩
def e_law18_1 : K := .bin (.add) (.var 9) (.tup (.cons (.varV 10) (.nil)))
def b_law18_1 : K := .sto 8 (.bin (.add) (.var 8) (.lc [10] (.tn 10) (.rng1 (.cons (.var 4) (.nil))) (.yes) (e_law18_1)))
def b_law18_2 : K := .sq (.sto 8 (.lst (.nil))) (.sq (.frz 6) (.sq (.fr (.tn 9) (.seq (.varV 6)) (b_law18_1)) (.sq (.frz 8) (.asg (.tn 6) (.varV 8)))))
def b_law18_3 : K := .ite (.cmp (.eq) (.bi (.min1) (.cons (.fn 83 (.cons (.varV 9) (.nil))) (.nil))) (.var 9)) (.sq (.asg (.tn 12) (.fn 193 (.cons (.varV 9) (.cons (.varV 2) (.nil))))) (.sto 11 (.bin (.add) (.var 11) (.ifx (.and (.cmp (.notN) (.var 12) (.non)) (.cmp (.le) (.var 12) (.var 5))) (.lst (.cons (.varV 9) (.nil))) (.lst (.nil)))))) (.skip)
def e_law18_2 : K := .fn 12 (.cons (.varV 1) (.cons (.int 3) (.nil)))
def t_law18_1 : K := .cmp (.gt) (.bi (.sum) (.cons (.var 13) (.nil))) (.int 6)
def b_law18_4 : K := .put 13 (.idx (.var 13) (.cons (.bi (.max1) (.cons (.var 13) (.nil))) (.nil))) (.bin (.sub) (.bi (.max1) (.cons (.var 13) (.nil))) (.int 1))
def e_law18_3 : K := .bi (.min1) (.cons (.fn 83 (.cons (.varV 9) (.nil))) (.nil))
def b_law18_5 : K := .sq (.asg (.tn 12) (.fn 193 (.cons (.varV 15) (.cons (.varV 2) (.nil))))) (.sto 14 (.bin (.add) (.var 14) (.ifx (.cmp (.notN) (.var 12) (.non)) (.lst (.cons (.tup (.cons (.varV 12) (.cons (.varV 15) (.nil)))) (.nil))) (.lst (.nil)))))
def t_law18_2 : K := .cmp (.eq) (.var 5) (.var 12)
def k_law18 : K := .sq (.asg (.tn 1) (.fn 11 (.cons (.varV 0) (.cons (.int 18) (.nil))))) (.sq (.asg (.tn 2) (.ix (.lst (.cons (.str "key") (.cons (.str "hold") (.nil)))) (.fn 12 (.cons (.varV 1) (.cons (.int 2) (.nil)))))) (.sq (.ite (.cmp (.eq) (.fn 12 (.cons (.varV 1) (.cons (.int 3) (.nil)))) (.int 0)) (.sq (.par2 3 4 (.bin (.add) (.int 1) (.fn 12 (.cons (.varV 1) (.cons (.int 6) (.nil))))) (.bin (.add) (.int 1) (.fn 12 (.cons (.varV 1) (.cons (.int 3) (.nil)))))) (.sq (.par2 5 6 (.fn 12 (.cons (.varV 1) (.cons (.ix (.lst (.cons (.int 7) (.cons (.int 21) (.nil)))) (.fn 12 (.cons (.varV 1) (.cons (.int 2) (.nil))))) (.nil)))) (.lst (.cons (.tup (.nil)) (.nil)))) (.sq (.fr (.tn 7) (.rng1 (.cons (.var 3) (.nil))) (b_law18_2)) (.sq (.sto 11 (.lst (.nil))) (.sq (.frz 6) (.sq (.fr (.tn 9) (.seq (.varV 6)) (b_law18_3)) (.sq (.frz 3) (.sq (.frz 4) (.ret (.cmp (.eq) (.fn 192 (.cons (.varV 3) (.cons (.varV 4) (.cons (.varV 5) (.cons (.varV 2) (.nil)))))) (.var 11))))))))))) (.skip)) (.sq (.sto 13 (.lc [7] (.tn 7) (.rng1 (.cons (.bin (.add) (.int 1) (.fn 12 (.cons (.varV 1) (.cons (.int 4) (.nil))))) (.nil))) (.yes) (e_law18_2))) (.sq (.ite (.cmp (.eq) (.bi (.sum) (.cons (.var 13) (.nil))) (.int 0)) (.put 13 (.int 0) (.bin (.add) (.int 1) (.fn 12 (.cons (.varV 1) (.cons (.int 3) (.nil)))))) (.skip)) (.sq (.whl (t_law18_1) (b_law18_4)) (.sq (.sto 14 (.lst (.nil))) (.sq (.fr (.tn 15) (.seq (.sset (.lc [9] (.tn 9) (.seq (.fn 84 (.cons (.bi (.tup) (.cons (.var 13) (.nil))) (.nil)))) (.yes) (e_law18_3)))) (b_law18_5)) (.sq (.ite (.cmp (.eq) (.var 14) (.lst (.nil))) (.ret (.cmp (.isN) (.fn 191 (.cons (.bi (.tup) (.cons (.var 13) (.nil))) (.cons (.varV 2) (.nil)))) (.non))) (.skip)) (.sq (.asg (.tn 12) (.ix (.bi (.min1) (.cons (.var 14) (.nil))) (.int 0))) (.sq (.frz 14) (.sq (.sto 11 (.lc [5, 15] (.tt 2 (.cons (.tn 5) (.cons (.tn 15) (.nil)))) (.seq (.varV 14)) (t_law18_2) (.varV 15))) (.sq (.frz 11) (.ret (.cmp (.eq) (.fn 191 (.cons (.bi (.tup) (.cons (.var 13) (.nil))) (.cons (.varV 2) (.nil)))) (.tup (.cons (.varV 12) (.cons (.varV 11) (.nil))))))))))))))))))
def p_law18 : DefK := ⟨["_law_script"], ["_law_script", "_law_h", "_law_aim", "_law_keys", "_law_shapes", "_law_many", "_law_rows_here", "_law_k", "_law_longer", "_law_row", "_law_x", "_law_due", "_law_least", "_law_counts", "_law_told", "_law_ring_here"], [3, 4, 6, 8, 11, 13, 14], k_law18⟩
end LW
set_option Elab.async false
set_option linter.all false
set_option maxRecDepth 100000
set_option maxHeartbeats 4000000
namespace LW
open PySem KF
variable {P : Prog}
theorem run_of {i : Nat} {d : DefK} (e : findD P i = some d) (n : Nat) (ds : List D) (h : MH) : runF P (n + 1) i ds h = callD (runF P n) d ds h := by
  show (match findD P i with
    | none => Out.bad
    | some d => callD (runF P n) d ds h) = _
  rw [e]
/-- the source of draws stands at the places 0 and 1 -/
def HS (h : MH) : Prop := ∃ (cs : List Int) (st ix : Int), cs.length ≤ 63 ∧ h[0]? = some (.lst (cs.map fun c => .py (.int c))) ∧ h[1]? = some (.lst [.py (.int st), .loc 0, .py (.int ix)])
/-- all but the source stands as it was -/
def Rest (h h' : MH) : Prop := h'.length = h.length ∧ ∀ j, 2 ≤ j → h'[j]? = h[j]?
theorem Rest.refl (h : MH) : Rest h h := ⟨rfl, fun _ _ => rfl⟩
theorem Rest.trans {h h1 h2 : MH} (a : Rest h h1) (b : Rest h1 h2) : Rest h h2 := ⟨b.1.trans a.1, fun j hj => (b.2 j hj).trans (a.2 j hj)⟩
theorem allPy_ints (cs : List Int) : allPy (cs.map fun c => D.py (.int c)) = some (iL cs) := by
  induction cs with
  | nil => rfl
  | cons c r ih =>
    show (allPy (r.map fun c => D.py (.int c))).map _ = _
    rw [ih]
    rfl
theorem next_ok (H : findD P 12 = some p__law_next) (n : Nat) {h : MH} {b : Int} (hs : HS h) (b0 : 0 < b) (b1 : b < 1073741824) :
    ∃ r h', runF P (n + 1) 12 [.loc 1, .py (.int b)] h = .ok (.py (.int r)) h' ∧ 0 ≤ r ∧ r < b ∧ HS h' ∧ Rest h h' := by
  obtain ⟨cs, st, ix, hl, e0, e1⟩ := hs
  have hf : fits (cs.length + 1) = true := fits_small (by omega)
  have l1 : 1 < h.length := (List.getElem?_eq_some_iff.mp e1).1
  have l0 : 0 < h.length := by omega
  rw [run_of H]
  have g1 : ∀ x, (List.set h 1 x)[1]? = some x := fun x => by simp [List.getElem?_set, l1]
  have g0 : ∀ x, (List.set h 1 x)[0]? = h[0]? := fun x => by simp [List.getElem?_set]
  have g3 : ∀ x, (List.set h 0 x)[0]? = some x := fun x => by simp [List.getElem?_set, l0]
  have g4 : ∀ x, (List.set h 0 x)[1]? = h[1]? := fun x => by simp [List.getElem?_set]
  have fin : ∀ (st v : Int) (cs' : List Int), cs'.length ≤ 63 → h[0]? = some (.lst (cs'.map fun c => .py (.int c))) →
      HS (h.set 1 (.lst [.py (.int st), .loc 0, .py (.int v)])) ∧ Rest h (h.set 1 (.lst [.py (.int st), .loc 0, .py (.int v)])) := fun st v cs' hl' e => by
    refine ⟨⟨cs', st, v, hl', ?_, g1 _⟩, ?_, fun j hj => ?_⟩
    · rw [g0]; exact e
    · simp
    · have : (1 : Nat) ≠ j := by omega
      simp [List.getElem?_set, this]
  by_cases hc : cs = []
  · subst hc
    refine ⟨((st * 48271 + 11) % 2147483647 / 7) % b, _, ?_, ?_, ?_, (fin ((st * 48271 + 11) % 2147483647) (ix + 1) [] (by simp) e0).1, (fin _ (ix + 1) [] (by simp) e0).2⟩
    · simp [callD, startE, look, lookV, Sl.get, Sl.getV, frzE, stoE, binF, addO, catL, iop, gAdd, gSub, gMul, gDiv, gMod, gPow, KF.listOf, ixU, dctAt, inUD, ninUD, inK, putU, ixO, ixD, L2.atI, L2.ixN, negD, truD, cmpF, icmp, isND, notND, isN, biF, fLen, lenD, fInt, fMax2, fMin2, fAbs, fTup, fLst, allPy, mkTup, mkLst, asI, revT, isiD, tyD, isTy, putO, putL, augF, promO, wipeE, itU, p__law_next, k__law_next, e0, e1, allPy_ints, List.length_map, iL_len, hf, b0, b1, iL, g0, g1]
    · exact Int.emod_nonneg _ (by omega)
    · exact Int.emod_lt_of_pos _ b0
  · have hp : 0 < cs.length := List.length_pos_iff.mpr hc
    have m1 : (if (1 : Int) < (cs.length : Int) then (cs.length : Int) else 1) = cs.length := by split <;> omega
    have i0 : 0 ≤ ix % (cs.length : Int) := Int.emod_nonneg _ (by omega)
    have i1 : ix % (cs.length : Int) < cs.length := Int.emod_lt_of_pos _ (by omega)
    have i2 : ix % (cs.length : Int) < (cs.length : Int) + 1 := by omega
    have hp2 : (0 : Int) < cs.length := by omega
    obtain ⟨c, hcc⟩ : ∃ c, cs[(ix % (cs.length : Int)).toNat]? = some c := ⟨_, List.getElem?_eq_getElem (by omega)⟩
    have hcc2 : (iL cs ++ [PyData.int 0])[(ix % (cs.length : Int)).toNat]? = some (.int c) := by
      rw [List.getElem?_append_left (by rw [iL_len]; omega), iL_get, hcc]; rfl
    have hcc3 : ∀ pf, (iL cs)[(ix % (cs.length : Int)).toNat]'pf = .int c := fun pf => by
      have e := iL_get cs (ix % (cs.length : Int)).toNat
      rw [hcc, List.getElem?_eq_getElem pf] at e
      exact Option.some.inj e
    by_cases hbig : (1000000000000000000 : Int) ≤ c
    · refine ⟨c % b, h.set 0 (.lst ((cs.set (ix % (cs.length : Int)).toNat (c / b)).map fun c => .py (.int c))), ?_, Int.emod_nonneg _ (by omega), Int.emod_lt_of_pos _ b0, ⟨cs.set (ix % (cs.length : Int)).toNat (c / b), st, ix, ?_, ?_, ?_⟩, ?_, fun j hj => ?_⟩
      · simp [callD, startE, look, lookV, Sl.get, Sl.getV, frzE, stoE, binF, addO, catL, iop, gAdd, gSub, gMul, gDiv, gMod, gPow, KF.listOf, ixU, dctAt, inUD, ninUD, inK, putU, ixO, ixD, L2.atI, L2.ixN, negD, truD, cmpF, icmp, isND, notND, isN, biF, fLen, lenD, fInt, fMax2, fMin2, fAbs, fTup, fLst, allPy, mkTup, mkLst, asI, revT, isiD, tyD, isTy, putO, putL, augF, promO, wipeE, itU, p__law_next, k__law_next, e0, e1, allPy_ints, List.length_map, iL_len, hf, b0, b1, hp, hp2, m1, i0, i1, i2, hcc2, hcc3, hbig, g3, g4, List.map_set]
      · simpa using hl
      · simp [List.getElem?_set, l0]
      · simp [List.getElem?_set, e1]
      · simp
      · have : (0 : Nat) ≠ j := by omega
        simp [List.getElem?_set, this]
    · refine ⟨((st * 48271 + c * 69621 + 11) % 2147483647 / 7) % b, _, ?_, ?_, ?_, (fin ((st * 48271 + c * 69621 + 11) % 2147483647) (ix + 1) cs hl e0).1, (fin _ (ix + 1) cs hl e0).2⟩
      · simp [callD, startE, look, lookV, Sl.get, Sl.getV, frzE, stoE, binF, addO, catL, iop, gAdd, gSub, gMul, gDiv, gMod, gPow, KF.listOf, ixU, dctAt, inUD, ninUD, inK, putU, ixO, ixD, L2.atI, L2.ixN, negD, truD, cmpF, icmp, isND, notND, isN, biF, fLen, lenD, fInt, fMax2, fMin2, fAbs, fTup, fLst, allPy, mkTup, mkLst, asI, revT, isiD, tyD, isTy, putO, putL, augF, promO, wipeE, itU, p__law_next, k__law_next, e0, e1, allPy_ints, List.length_map, iL_len, hf, b0, b1, hp, hp2, m1, i0, i1, i2, hcc2, hcc3, hbig, g0, g1]
      · exact Int.emod_nonneg _ (by omega)
      · exact Int.emod_lt_of_pos _ b0
end LW
set_option Elab.async false
set_option linter.all false
set_option maxRecDepth 100000
set_option maxHeartbeats 4000000
namespace LW
open PySem KF
variable {P : Prog}
/-! ### the script mixed -/
theorem mix_loop {F : FnS} {h : MH} {a b : Sl} : ∀ (xs : List Int) (st : Int) (s3 : Sl), ∃ st' s3', forF (ev F (.tn 3)).G (ev F (.asg (.tn 2) (.bin (.mod) (.bi (.int) (.cons (.bin (.add) (.bin (.add) (.bin (.mul) (.var 2) (.int 48271)) (.bin (.mod) (.bi (.int) (.cons (.var 3) (.nil))) (.int 2147483629))) (.int 1)) (.nil))) (.int 2147483647)))).S
    (xs.map fun i => .py (.int i)) [a, b, .v (.py (.int st)), s3] h = .nx [a, b, .v (.py (.int st')), s3'] h
  | [], st, s3 => ⟨st, s3, rfl⟩
  | x :: r, st, s3 => by
    obtain ⟨st', s3', e⟩ := mix_loop (F := F) (h := h) (a := a) (b := b) r ((st * 48271 + x % 2147483629 + 1) % 2147483647) (.v (.py (.int x)))
    refine ⟨st', s3', ?_⟩
    rw [List.map_cons, forF]
    simp [callD, startE, look, lookV, Sl.get, Sl.getV, frzE, stoE, binF, addO, catL, iop, gAdd, gSub, gMul, gDiv, gMod, gPow, KF.listOf, ixU, dctAt, inUD, ninUD, inK, putU, ixO, ixD, L2.atI, L2.ixN, negD, truD, cmpF, icmp, isND, notND, isN, biF, fLen, lenD, fInt, fMax2, fMin2, fAbs, fTup, fLst, allPy, mkTup, mkLst, asI, revT, isiD, tyD, isTy, putO, putL, augF, promO, wipeE, itU]
    exact e
theorem mix_ok (H : findD P 11 = some p__law_mix) (n : Nat) (ns : List Int) (seed : Int) (hl : ns.length ≤ 63) :
    ∃ h', runF P (n + 1) 11 [.scr ns, .py (.int seed)] [] = .ok (.loc 1) h' ∧ HS h' ∧ h'.length = 2 := by
  obtain ⟨st', s3', e⟩ := mix_loop (F := runF P n) (h := []) (a := .v (.scr ns)) (b := .v (.py (.int seed))) ns seed .u
  refine ⟨[.lst (ns.map fun c => .py (.int c)), .lst [.py (.int st'), .loc 0, .py (.int 0)]], ?_, ⟨ns, st', 0, hl, rfl, rfl⟩, rfl⟩
  rw [run_of H]
  simp [callD, startE, look, lookV, Sl.get, Sl.getV, frzE, stoE, binF, addO, catL, iop, gAdd, gSub, gMul, gDiv, gMod, gPow, KF.listOf, ixU, dctAt, inUD, ninUD, inK, putU, ixO, ixD, L2.atI, L2.ixN, negD, truD, cmpF, icmp, isND, notND, isN, biF, fLen, lenD, fInt, fMax2, fMin2, fAbs, fTup, fLst, allPy, mkTup, mkLst, asI, revT, isiD, tyD, isTy, putO, putL, augF, promO, wipeE, itU, p__law_mix, k__law_mix, e]
/-! ### draws in a comprehension -/
theorem lcF_draw {g : TgF} {ft : EvF Bool} {fe : EvF D} {env : KF.Env} {Q : Int → Prop} (H : ∀ x h, HS h → ∃ env1 r h', g x env = some env1 ∧ ft env1 h = .ok true h ∧ fe env1 h = .ok (.py (.int r)) h' ∧ Q r ∧ HS h' ∧ Rest h h') :
    ∀ (xs : List D) (h : MH), HS h → ∃ ys h', lcF g ft fe env xs h = .ok (iL ys) h' ∧ ys.length = xs.length ∧ (∀ y ∈ ys, Q y) ∧ HS h' ∧ Rest h h'
  | [], h, hs => ⟨[], h, rfl, rfl, fun _ z => (by cases z), hs, Rest.refl h⟩
  | x :: r, h, hs => by
    obtain ⟨env1, v, h1, e1, e2, e3, q, hs1, r1⟩ := H x h hs
    obtain ⟨ys, h2, e4, l, qs, hs2, r2⟩ := lcF_draw H r h1 hs1
    refine ⟨v :: ys, h2, ?_, by simp [l], fun y hy => ?_, hs2, r1.trans r2⟩
    · unfold lcF
      rw [e1]
      simp [e2, e3, e4, iL]
    · rcases List.mem_cons.mp hy with z | z
      · rw [z]; exact q
      · exact qs y z
/-! ### slices -/
theorem cut_to {α : Type} (xs : List α) (k : Int) (h : 0 ≤ k) : cut xs none (some k) = xs.take k.toNat := by
  unfold cut HT.sIx
  have : ¬ k < 0 := by omega
  simp [this]
theorem cut_from {α : Type} (xs : List α) (k : Int) (h : 0 ≤ k) : cut xs (some k) none = xs.drop k.toNat := by
  unfold cut HT.sIx
  have : ¬ k < 0 := by omega
  simp [this]
  rcases Nat.le_total k.toNat xs.length with q | q
  · rw [Nat.min_eq_left q, List.take_of_length_le (by simp)]
  · rw [Nat.min_eq_right q, List.drop_of_length_le (by omega), List.drop_of_length_le q]
    simp
def Ring (m : Nat) (r : List Int) : Prop := 1 ≤ r.length ∧ r.length ≤ m ∧ ∀ x ∈ r, 0 ≤ x ∧ x ≤ 8
theorem rngL_len (lo : Int) (n : Nat) : (rngL lo n).length = n := by simp [rngL]
theorem ring_ok (H : findD P 12 = some p__law_next) (H2 : findD P 13 = some p__law_ring) (n : Nat) {h : MH} (hs : HS h) (m : Nat) (m1 : 1 ≤ m) (m2 : m ≤ 9) :
    ∃ r h', runF P (n + 2) 13 [.loc 1, .py (.int m)] h = .ok (.py (.tuple (iL r))) h' ∧ Ring m r ∧ HS h' ∧ Rest h h' := by
  obtain ⟨v1, h1, e1, p1, q1, s1, r1⟩ := next_ok H n (b := m) hs (by omega) (by omega)
  obtain ⟨v2, h2, e2, p2, q2, s2, r2⟩ := next_ok H n (b := 3) s1 (by omega) (by omega)
  obtain ⟨b3, hb, b31, b32⟩ : ∃ b3 : Int, [PyData.int 2, .int 3, .int 9][v2.toNat]? = some (.int b3) ∧ 0 < b3 ∧ b3 ≤ 9 := by
    have : v2.toNat = 0 ∨ v2.toNat = 1 ∨ v2.toNat = 2 := by omega
    rcases this with z | z | z <;> rw [z]
    · exact ⟨2, rfl, by omega, by omega⟩
    · exact ⟨3, rfl, by omega, by omega⟩
    · exact ⟨9, rfl, by omega, by omega⟩
  obtain ⟨v3, h3, e3, p3, q3, s3, r3⟩ := next_ok H n (b := b3) s2 (by omega) (by omega)
  obtain ⟨ys, h4, e4, l4, q4, s4, r4⟩ := lcF_draw (g := (ev (runF P (n + 1)) (.tn 5)).G) (ft := (ev (runF P (n + 1)) .yes).T) (fe := (ev (runF P (n + 1)) (.fn 12 (.cons (.varV 0) (.cons (.varV 3) (.nil))))).E)
    (env := [.v (.loc 1), .v (.py (.int m)), .v (.py (.int (1 + v1))), .v (.py (.int (1 + v3))), .u, .u, .u, .u]) (Q := fun y => 0 ≤ y ∧ y < 1 + v3) (fun x h hs => by
      obtain ⟨v, h', e, p, q, s, r⟩ := next_ok H n (b := 1 + v3) hs (by omega) (by omega)
      exact ⟨_, v, h', rfl, rfl, by simp [callD, startE, look, lookV, Sl.get, Sl.getV, frzE, stoE, binF, addO, catL, iop, gAdd, gSub, gMul, gDiv, gMod, gPow, KF.listOf, ixU, dctAt, inUD, ninUD, inK, putU, ixO, ixD, L2.atI, L2.ixN, negD, truD, cmpF, icmp, isND, notND, isN, biF, fLen, lenD, fInt, fMax2, fMin2, fAbs, fTup, fLst, allPy, mkTup, mkLst, asI, revT, isiD, tyD, isTy, putO, putL, augF, promO, wipeE, itU, e], ⟨p, q⟩, s, r⟩) (rngL 0 (1 + v1).toNat) h3 s3
  rw [rngL_len] at l4
  obtain ⟨v5, h5, e5, p5, q5, s5, r5⟩ := next_ok H n (b := 5) s4 (by omega) (by omega)
  have rall := ((((r1.trans r2).trans r3).trans r4).trans r5)
  have qy : ∀ y ∈ ys, 0 ≤ y ∧ y ≤ 8 := fun y hy => by have := q4 y hy; omega
  have hd : 0 ≤ (1 + v1) / 2 := by omega
  generalize hk : (if (1 : Int) < (1 + v1) / 2 then (1 + v1) / 2 else 1) = kk
  have hk0 : 0 ≤ kk := by rw [← hk]; split <;> omega
  have hk1 : 1 ≤ kk := by rw [← hk]; split <;> omega
  have hv1 : (0 : Int) ≤ v1 := p1
  have f4 : fits ys.length = true := fits_small (by omega)
  have z1 : rOk (1 + v1) = true := rOk_small (by omega)
  have z3 : v2 < 3 := q2
  have base : ∀ (row : List Int), (∀ y ∈ row, 0 ≤ y ∧ y ≤ 8) → 1 ≤ row.length → Ring m (row.take m) := fun row hr hl => ⟨by rw [List.length_take]; omega, by rw [List.length_take]; omega, fun x hx => hr x (List.mem_of_mem_take hx)⟩
  have hb2 : ∀ pf, [PyData.int 2, .int 3, .int 9][v2.toNat]'pf = .int b3 := fun pf => by
    rw [List.getElem?_eq_getElem pf] at hb
    exact Option.some.inj hb
  have f5 : fits (min kk.toNat ys.length + min kk.toNat ys.length) = true := fits_small (by omega)
  have hm0 : (0 : Int) ≤ (m : Int) := by omega
  have iT : ∀ (k : Nat) (zs : List Int), (iL zs).take k = iL (zs.take k) := fun k zs => by unfold iL; rw [List.map_take]
  have iA : ∀ (zs ws : List Int), iL zs ++ iL ws = iL (zs ++ ws) := fun zs ws => by unfold iL; rw [List.map_append]
  have iR : ∀ (zs : List Int), (iL zs).reverse = iL zs.reverse := fun zs => by unfold iL; rw [List.map_reverse]
  rw [run_of H2]
  by_cases c0 : v5 = 0
  · refine ⟨(ys.take kk.toNat ++ ys.take kk.toNat).take m, h5, ?_, base _ (fun y hy => ?_) ?_, s5, rall⟩
    · simp [callD, startE, look, lookV, Sl.get, Sl.getV, frzE, stoE, binF, addO, catL, iop, gAdd, gSub, gMul, gDiv, gMod, gPow, KF.listOf, ixU, dctAt, inUD, ninUD, inK, putU, ixO, ixD, L2.atI, L2.ixN, negD, truD, cmpF, icmp, isND, notND, isN, biF, fLen, lenD, fInt, fMax2, fMin2, fAbs, fTup, fLst, allPy, mkTup, mkLst, asI, revT, isiD, tyD, isTy, putO, putL, augF, promO, wipeE, itU, p__law_ring, k__law_ring, e1, e2, hb2, p2, z3, e3, rng1, z1, e4, mkL, f4, f5, iL_len, e5, c0, eqD, shal_int, PyData.eqv, hk, cutU, cut_to _ _ hk0, cut_to _ _ hm0, hd, iT, iA, iR]
    · rcases List.mem_append.mp hy with z | z <;> exact qy y (List.mem_of_mem_take z)
    · rw [List.length_append, List.length_take]; omega
  · by_cases c1 : v5 = 1
    · refine ⟨(ys.take kk.toNat ++ (ys.take kk.toNat).reverse).take m, h5, ?_, base _ (fun y hy => ?_) ?_, s5, rall⟩
      · simp [callD, startE, look, lookV, Sl.get, Sl.getV, frzE, stoE, binF, addO, catL, iop, gAdd, gSub, gMul, gDiv, gMod, gPow, KF.listOf, ixU, dctAt, inUD, ninUD, inK, putU, ixO, ixD, L2.atI, L2.ixN, negD, truD, cmpF, icmp, isND, notND, isN, biF, fLen, lenD, fInt, fMax2, fMin2, fAbs, fTup, fLst, allPy, mkTup, mkLst, asI, revT, isiD, tyD, isTy, putO, putL, augF, promO, wipeE, itU, p__law_ring, k__law_ring, e1, e2, hb2, p2, z3, e3, rng1, z1, e4, mkL, f4, f5, iL_len, e5, c1, eqD, shal_int, PyData.eqv, hk, cutU, cut_to _ _ hk0, cut_to _ _ hm0, hd, iT, iA, iR]
      · rcases List.mem_append.mp hy with z | z
        · exact qy y (List.mem_of_mem_take z)
        · exact qy y (List.mem_of_mem_take (List.mem_reverse.mp z))
      · rw [List.length_append, List.length_take]; omega
    · refine ⟨ys.take m, h5, ?_, base _ qy (by omega), s5, rall⟩
      simp [callD, startE, look, lookV, Sl.get, Sl.getV, frzE, stoE, binF, addO, catL, iop, gAdd, gSub, gMul, gDiv, gMod, gPow, KF.listOf, ixU, dctAt, inUD, ninUD, inK, putU, ixO, ixD, L2.atI, L2.ixN, negD, truD, cmpF, icmp, isND, notND, isN, biF, fLen, lenD, fInt, fMax2, fMin2, fAbs, fTup, fLst, allPy, mkTup, mkLst, asI, revT, isiD, tyD, isTy, putO, putL, augF, promO, wipeE, itU, p__law_ring, k__law_ring, e1, e2, hb2, p2, z3, e3, rng1, z1, e4, mkL, f4, f5, iL_len, e5, c0, c1, eqD, shal_int, PyData.eqv, hk, cutU, cut_to _ _ hk0, cut_to _ _ hm0, hd, iT, iA, iR]
end LW
set_option Elab.async false
set_option linter.all false
set_option maxRecDepth 100000
set_option maxHeartbeats 4000000
namespace LW
open PySem KF
variable {P : Prog}
/-! ### holds and what is felt -/
abbrev TI (r : List Int) : D := .py (.tuple (iL r))
def hP (p : Int × Int) : PyData := .tuple [.int p.1, .int p.2]
def hdL (n : Nat) : List (Int × Int) := (List.range n).flatMap fun (k : Nat) => [((k : Int), (-1 : Int)), ((k : Int), (1 : Int))]
def feltZ (r : List Int) (p : Int × Int) (j : Int) : Int := r.getD ((p.1 + p.2 * j) % (r.length : Int)).toNat 0
def feltL (r : List Int) (p : Int × Int) (n : Nat) : List Int := (List.range n).map fun j => feltZ r p (j : Nat)
/-- a hold that may be taken -/
def HdOk (n : Nat) (p : Int × Int) : Prop := 0 ≤ p.1 ∧ p.1 < n ∧ (p.2 = -1 ∨ p.2 = 1)
theorem hdL_ok {n : Nat} {p : Int × Int} (h : p ∈ hdL n) : HdOk n p := by
  unfold hdL at h
  obtain ⟨k, hk, h⟩ := List.mem_flatMap.mp h
  have := List.mem_range.mp hk
  simp only [List.mem_cons, List.not_mem_nil, or_false] at h
  rcases h with e | e <;> subst e
  · exact ⟨by simp, by simpa using this, Or.inl rfl⟩
  · exact ⟨by simp, by simpa using this, Or.inr rfl⟩
theorem hdL_succ (n : Nat) : hdL (n + 1) = hdL n ++ [((n : Int), -1), ((n : Int), 1)] := by
  unfold hdL
  rw [List.range_succ, List.flatMap_append]
  simp
theorem hdL_len (n : Nat) : (hdL n).length = 2 * n := by
  induction n with
  | zero => rfl
  | succ n ih => rw [hdL_succ, List.length_append, ih]; simp; omega
theorem rngL_succ (n : Nat) : rngL 0 (n + 1) = rngL 0 n ++ [.py (.int n)] := by
  unfold rngL
  rw [List.range_succ, List.map_append]
  simp
theorem forF_app {g : TgF} {b : EvS} : ∀ (xs ys : List D) (env : KF.Env) (h : MH), forF g b (xs ++ ys) env h = (forF g b xs env h).thn (forF g b ys)
  | [], ys, env, h => rfl
  | x :: r, ys, env, h => by
    show (match g x env with
      | some env1 => (b env1 h).thn (forF g b (r ++ ys))
      | none => OutS.bad) = (match g x env with
      | some env1 => (b env1 h).thn (forF g b r)
      | none => OutS.bad).thn (forF g b ys)
    cases g x env with
    | none => rfl
    | some env1 =>
      show (b env1 h).thn (forF g b (r ++ ys)) = ((b env1 h).thn (forF g b r)).thn (forF g b ys)
      cases b env1 h <;> first | rfl | exact forF_app r ys _ _
/-- a loop over the numbers below n -/
theorem forF_rng {g : TgF} {b : EvS} {h : MH} (st : Nat → KF.Env) (H : ∀ k : Nat, ∃ e, g (.py (.int k)) (st k) = some e ∧ b e h = .nx (st (k + 1)) h) : ∀ n : Nat, forF g b (rngL 0 n) (st 0) h = .nx (st n) h
  | 0 => rfl
  | n + 1 => by
    rw [rngL_succ, forF_app, forF_rng st H n, thn_nx]
    obtain ⟨e, e1, e2⟩ := H n
    show (match g (.py (.int n)) (st n) with
      | some env1 => (b env1 h).thn (forF g b [])
      | none => OutS.bad) = _
    rw [e1]
    show (b e h).thn _ = _
    rw [e2]
    rfl
theorem forF_rngB {g : TgF} {b : EvS} {h : MH} (st : Nat → KF.Env) : ∀ n : Nat, (∀ k : Nat, k < n → ∃ e, g (.py (.int k)) (st k) = some e ∧ b e h = .nx (st (k + 1)) h) → forF g b (rngL 0 n) (st 0) h = .nx (st n) h
  | 0, _ => rfl
  | n + 1, H => by
    rw [rngL_succ, forF_app, forF_rngB st n (fun k hk => H k (by omega)), thn_nx]
    obtain ⟨e, e1, e2⟩ := H n (by omega)
    show (match g (.py (.int n)) (st n) with
      | some env1 => (b env1 h).thn (forF g b [])
      | none => OutS.bad) = _
    rw [e1]
    show (b e h).thn _ = _
    rw [e2]
    rfl
theorem holds_ok (H : findD P 14 = some p__law_holds) (n : Nat) (h : MH) (r : List Int) (hr : r.length ≤ 9) :
    runF P (n + 1) 14 [TI r] h = .ok (.py (.list ((hdL r.length).map hP))) h := by
  rw [run_of H]
  have L := forF_rngB (g := (ev (runF P n) (.tn 2)).G) (b := (ev (runF P n) (.sto 1 (.bin (.add) (.var 1) (.lst (.cons (.tup (.cons (.varV 2) (.cons (.neg (.int 1)) (.nil)))) (.cons (.tup (.cons (.varV 2) (.cons (.int 1) (.nil)))) (.nil))))))).S) (h := h)
    (fun k => [.v (TI r), .o ((hdL k).map hP), if k = 0 then .u else .v (.py (.int (k - 1 : Nat)))]) r.length (fun k hk => by
      have f5 : fits (2 * k + 2) = true := fits_small (by omega)
      refine ⟨[.v (TI r), .o ((hdL k).map hP), .v (.py (.int k))], ?_, ?_⟩
      · split <;> rfl
      · simp [callD, startE, look, lookV, Sl.get, Sl.getV, frzE, stoE, binF, addO, catL, iop, gAdd, gSub, gMul, gDiv, gMod, gPow, KF.listOf, ixU, dctAt, inUD, ninUD, inK, putU, ixO, ixD, L2.atI, L2.ixN, negD, truD, cmpF, icmp, isND, notND, isN, biF, fLen, lenD, fInt, fMax2, fMin2, fAbs, fTup, fLst, allPy, mkTup, mkLst, asI, revT, isiD, tyD, isTy, putO, putL, augF, promO, wipeE, itU, hdL_len, f5, hdL_succ, hP])
  have f4 : fits (2 * r.length) = true := fits_small (by omega)
  simp [callD, startE, look, lookV, Sl.get, Sl.getV, frzE, stoE, binF, addO, catL, iop, gAdd, gSub, gMul, gDiv, gMod, gPow, KF.listOf, ixU, dctAt, inUD, ninUD, inK, putU, ixO, ixD, L2.atI, L2.ixN, negD, truD, cmpF, icmp, isND, notND, isN, biF, fLen, lenD, fInt, fMax2, fMin2, fAbs, fTup, fLst, allPy, mkTup, mkLst, asI, revT, isiD, tyD, isTy, putO, putL, augF, promO, wipeE, itU, p__law_holds, k__law_holds, iL_len, rng1_nat _ (show r.length ≤ 1000000 by omega)]
  have Lq : forF (ev (runF P n) (.tn 2)).G (ev (runF P n) (.sto 1 (.bin (.add) (.var 1) (.lst (.cons (.tup (.cons (.varV 2) (.cons (.neg (.int 1)) (.nil)))) (.cons (.tup (.cons (.varV 2) (.cons (.int 1) (.nil)))) (.nil))))))).S (rngL 0 r.length) [.v (TI r), .o [], .u] h = _ := L
  rw [Lq]
  simp [callD, startE, look, lookV, Sl.get, Sl.getV, frzE, stoE, binF, addO, catL, iop, gAdd, gSub, gMul, gDiv, gMod, gPow, KF.listOf, ixU, dctAt, inUD, ninUD, inK, putU, ixO, ixD, L2.atI, L2.ixN, negD, truD, cmpF, icmp, isND, notND, isN, biF, fLen, lenD, fInt, fMax2, fMin2, fAbs, fTup, fLst, allPy, mkTup, mkLst, asI, revT, isiD, tyD, isTy, putO, putL, augF, promO, wipeE, itU]
end LW
set_option Elab.async false
set_option linter.all false
set_option maxRecDepth 100000
set_option maxHeartbeats 4000000
namespace LW
open PySem KF
variable {P : Prog}
theorem allholds_ok (H : findD P 9 = some p_all_holds) (n : Nat) (h : MH) (r : List Int) (hr : r.length ≤ 9) :
    runF P (n + 1) 9 [TI r] h = .ok (.py (.list ((hdL r.length).map hP))) h := by
  rw [run_of H]
  have L := forF_rngB (g := (ev (runF P n) (.tn 2)).G) (b := (ev (runF P n) (.ext 1 (.lst (.cons (.tup (.cons (.varV 2) (.cons (.neg (.int 1)) (.nil)))) (.cons (.tup (.cons (.varV 2) (.cons (.int 1) (.nil)))) (.nil)))))).S) (h := h)
    (fun k => [.v (TI r), .o ((hdL k).map hP), if k = 0 then .u else .v (.py (.int (k - 1 : Nat)))]) r.length (fun k hk => by
      have f5 : fits (2 * k + 2) = true := fits_small (by omega)
      refine ⟨[.v (TI r), .o ((hdL k).map hP), .v (.py (.int k))], ?_, ?_⟩
      · split <;> rfl
      · simp [callD, startE, look, lookV, Sl.get, Sl.getV, frzE, stoE, binF, addO, catL, iop, gAdd, gSub, gMul, gDiv, gMod, gPow, KF.listOf, ixU, dctAt, inUD, ninUD, inK, putU, ixO, ixD, L2.atI, L2.ixN, negD, truD, cmpF, icmp, isND, notND, isN, biF, fLen, lenD, fInt, fMax2, fMin2, fAbs, fTup, fLst, allPy, mkTup, mkLst, asI, revT, isiD, tyD, isTy, putO, putL, augF, promO, wipeE, itU, hdL_len, f5, hdL_succ, hP])
  simp [callD, startE, look, lookV, Sl.get, Sl.getV, frzE, stoE, binF, addO, catL, iop, gAdd, gSub, gMul, gDiv, gMod, gPow, KF.listOf, ixU, dctAt, inUD, ninUD, inK, putU, ixO, ixD, L2.atI, L2.ixN, negD, truD, cmpF, icmp, isND, notND, isN, biF, fLen, lenD, fInt, fMax2, fMin2, fAbs, fTup, fLst, allPy, mkTup, mkLst, asI, revT, isiD, tyD, isTy, putO, putL, augF, promO, wipeE, itU, p_all_holds, k_all_holds, iL_len, rng1_nat _ (show r.length ≤ 1000000 by omega)]
  have Lq : forF (ev (runF P n) (.tn 2)).G (ev (runF P n) (.ext 1 (.lst (.cons (.tup (.cons (.varV 2) (.cons (.neg (.int 1)) (.nil)))) (.cons (.tup (.cons (.varV 2) (.cons (.int 1) (.nil)))) (.nil)))))).S (rngL 0 r.length) [.v (TI r), .o [], .u] h = _ := L
  rw [Lq]
  simp [callD, startE, look, lookV, Sl.get, Sl.getV, frzE, stoE, binF, addO, catL, iop, gAdd, gSub, gMul, gDiv, gMod, gPow, KF.listOf, ixU, dctAt, inUD, ninUD, inK, putU, ixO, ixD, L2.atI, L2.ixN, negD, truD, cmpF, icmp, isND, notND, isN, biF, fLen, lenD, fInt, fMax2, fMin2, fAbs, fTup, fLst, allPy, mkTup, mkLst, asI, revT, isiD, tyD, isTy, putO, putL, augF, promO, wipeE, itU]
theorem modIx {r : List Int} (h : 1 ≤ r.length) (x : Int) : 0 ≤ x % (r.length : Int) ∧ x % (r.length : Int) < r.length := ⟨Int.emod_nonneg _ (by omega), Int.emod_lt_of_pos _ (by omega)⟩
theorem getIx {r : List Int} {x : Int} (h1 : x.toNat < r.length) : ∀ pf, (iL r)[x.toNat]'pf = .int (r.getD x.toNat 0) := fun pf => by
  have e := iL_get r x.toNat
  rw [List.getElem?_eq_getElem pf] at e
  have e2 : r[x.toNat]? = some (r.getD x.toNat 0) := by
    rw [List.getD_eq_getElem?_getD, List.getElem?_eq_getElem h1]; rfl
  rw [e2] at e
  exact Option.some.inj e
theorem shape_ok (H : findD P 6 = some p_shape_at) (n : Nat) (h : MH) (r : List Int) (hr : 1 ≤ r.length) (p : Int × Int) (j : Int) (hw : p.2.natAbs ≤ 1) :
    runF P (n + 1) 6 [TI r, .py (hP p), .py (.int j)] h = .ok (.py (.int (feltZ r p j))) h := by
  rw [run_of H]
  obtain ⟨m0, m1⟩ := modIx hr (p.1 + p.2 * j)
  have hn : (r.length : Int) ≠ 0 := by omega
  have hg := getIx (r := r) (x := (p.1 + p.2 * j) % (r.length : Int)) (by omega)
  have hp : 0 < r.length := by omega
  have hw2 : p.2.natAbs < 18446744073709551616 := by omega
  simp [callD, startE, look, lookV, Sl.get, Sl.getV, frzE, stoE, binF, addO, catL, iop, gAdd, gSub, gMul, gDiv, gMod, gPow, KF.listOf, ixU, dctAt, inUD, ninUD, inK, putU, ixO, ixD, L2.atI, L2.ixN, negD, truD, cmpF, icmp, isND, notND, isN, biF, fLen, lenD, fInt, fMax2, fMin2, fAbs, fTup, fLst, allPy, mkTup, mkLst, asI, revT, isiD, tyD, isTy, putO, putL, augF, promO, wipeE, itU, p_shape_at, k_shape_at, hP, iL_len, m0, m1, hg, feltZ, hn, hp, hw2]
theorem iL_map (f : Nat → Int) (n : Nat) : iL ((List.range n).map f) = (List.range n).map fun k => PyData.int (f k) := by
  unfold iL; rw [List.map_map]; rfl
theorem filter_true {α : Type} (xs : List α) : xs.filter (fun _ => true) = xs := by induction xs <;> simp_all
theorem feltby_ok (H : findD P 6 = some p_shape_at) (H7 : findD P 7 = some p_felt_by) (n : Nat) (h : MH) (r : List Int) (hr : 1 ≤ r.length) (p : Int × Int) (hw : p.2.natAbs ≤ 1) (k : Nat) (hk : k ≤ 100000) :
    runF P (n + 2) 7 [TI r, .py (hP p), .py (.int k)] h = .ok (.py (.tuple (iL (feltL r p k)))) h := by
  rw [run_of H7]
  have L := lcF_pure (g := (ev (runF P (n + 1)) (.tn 3)).G) (ft := (ev (runF P (n + 1)) .yes).T) (fe := (ev (runF P (n + 1)) (.fn 6 (.cons (.varV 0) (.cons (.varV 1) (.cons (.varV 3) (.nil)))))).E)
    (env := [.v (TI r), .v (.py (hP p)), .v (.py (.int k)), .u]) (h := h) (fun _ => true) (fun d => match d with | .py (.int j) => .int (feltZ r p j) | _ => .none) (xs := rngL 0 k) (fun x hx => by
      unfold rngL at hx
      obtain ⟨j, hj, e⟩ := List.mem_map.mp hx
      subst e
      refine ⟨_, rfl, rfl, fun _ => ?_⟩
      have := shape_ok H n h r hr p (0 + (j : Nat)) hw
      simp [callD, startE, look, lookV, Sl.get, Sl.getV, frzE, stoE, binF, addO, catL, iop, gAdd, gSub, gMul, gDiv, gMod, gPow, KF.listOf, ixU, dctAt, inUD, ninUD, inK, putU, ixO, ixD, L2.atI, L2.ixN, negD, truD, cmpF, icmp, isND, notND, isN, biF, fLen, lenD, fInt, fMax2, fMin2, fAbs, fTup, fLst, allPy, mkTup, mkLst, asI, revT, isiD, tyD, isTy, putO, putL, augF, promO, wipeE, itU] at this ⊢
      exact this)
  rw [filter_true] at L
  have e : (rngL 0 k).map (fun d => match d with | .py (.int j) => PyData.int (feltZ r p j) | _ => .none) = iL (feltL r p k) := by
    unfold feltL rngL
    rw [iL_map, List.map_map]
    apply List.map_congr_left
    intro a _
    show PyData.int (feltZ r p (0 + a)) = _
    rw [Int.zero_add]
  rw [e] at L
  have f4 : fits k = true := fits_small (by omega)
  have l4 : (feltL r p k).length = k := by simp [feltL]
  simp [callD, startE, look, lookV, Sl.get, Sl.getV, frzE, stoE, binF, addO, catL, iop, gAdd, gSub, gMul, gDiv, gMod, gPow, KF.listOf, ixU, dctAt, inUD, ninUD, inK, putU, ixO, ixD, L2.atI, L2.ixN, negD, truD, cmpF, icmp, isND, notND, isN, biF, fLen, lenD, fInt, fMax2, fMin2, fAbs, fTup, fLst, allPy, mkTup, mkLst, asI, revT, isiD, tyD, isTy, putO, putL, augF, promO, wipeE, itU, p_felt_by, k_felt_by, rng1_nat _ (show k ≤ 1000000 by omega), L, mkL, iL_len, l4, f4]
theorem feltL_succ (r : List Int) (p : Int × Int) (k : Nat) : feltL r p (k + 1) = feltL r p k ++ [feltZ r p k] := by
  unfold feltL
  rw [List.range_succ, List.map_append]
  rfl
theorem step_mod {n a w : Int} (hn : 1 ≤ n) (hw : w = -1 ∨ w = 1) : (if a % n + w = n then (0 : Int) else if a % n + w < 0 then n - 1 else a % n + w) = (a + w) % n := by
  have h0 : 0 ≤ a % n := Int.emod_nonneg _ (by omega)
  have h1 : a % n < n := Int.emod_lt_of_pos _ (by omega)
  have e : (a + w) % n = (a % n + w) % n := by
    have q : a + w = (a % n + w) + n * (a / n) := by have := Int.emod_add_mul_ediv a n; omega
    rw [q, Int.add_mul_emod_self_left]
  rw [e]
  by_cases c1 : a % n + w = n
  · rw [if_pos c1, c1, Int.emod_self]
  · rw [if_neg c1]
    by_cases c2 : a % n + w < 0
    · rw [if_pos c2, ← Int.add_emod_right, Int.emod_eq_of_lt (by omega) (by omega)]
      omega
    · rw [if_neg c2, Int.emod_eq_of_lt (a := a % n + w) (by omega) (by omega)]
theorem iL_one (x : Int) : iL [x] = [.int x] := rfl
theorem lawfelt_ok (H : findD P 15 = some p__law_felt) (n : Nat) (h : MH) (r : List Int) (hr : 1 ≤ r.length) (p : Int × Int) (hp : HdOk r.length p) (k : Nat) (hk : k ≤ 100000) :
    runF P (n + 1) 15 [TI r, .py (hP p), .py (.int k)] h = .ok (.py (.tuple (iL (feltL r p k)))) h := by
  rw [run_of H]
  have L := forF_rngB (g := (ev (runF P n) (.tn 5)).G) (b := (ev (runF P n) (.sq (.app 4 (.ix (.var 0) (.var 3))) (.sq (.sto 3 (.bin (.add) (.var 3) (.ix (.var 1) (.int 1)))) (.sq (.frz 3) (.asg (.tn 3) (.ifx (.cmp (.eq) (.var 3) (.bi (.len) (.cons (.var 0) (.nil)))) (.int 0) (.ifx (.cmp (.lt) (.var 3) (.int 0)) (.bin (.sub) (.bi (.len) (.cons (.var 0) (.nil))) (.int 1)) (.varV 3)))))))).S) (h := h)
    (fun j => [.v (TI r), .v (.py (hP p)), .v (.py (.int k)), .v (.py (.int ((p.1 + p.2 * j) % (r.length : Int)))), .o (iL (feltL r p j)), if j = 0 then .u else .v (.py (.int (j - 1 : Nat)))]) k (fun j hj => by
      have f5 : fits (j + 1) = true := fits_small (by omega)
      have l5 : (feltL r p j).length = j := by simp [feltL]
      obtain ⟨m0, m1⟩ := modIx hr (p.1 + p.2 * j)
      have hg := getIx (r := r) (x := (p.1 + p.2 * j) % (r.length : Int)) (by omega)
      refine ⟨[.v (TI r), .v (.py (hP p)), .v (.py (.int k)), .v (.py (.int ((p.1 + p.2 * j) % (r.length : Int)))), .o (iL (feltL r p j)), .v (.py (.int j))], ?_, ?_⟩
      · split <;> rfl
      · have key : (if (p.1 + p.2 * j) % (r.length : Int) + p.2 = r.length then (0 : Int) else if (p.1 + p.2 * j) % (r.length : Int) + p.2 < 0 then (r.length : Int) - 1 else (p.1 + p.2 * j) % (r.length : Int) + p.2) = (p.1 + p.2 * (j + 1)) % (r.length : Int) := by
          have e1 : p.1 + p.2 * ((j : Int) + 1) = (p.1 + p.2 * j) + p.2 := by rw [Int.mul_add, Int.mul_one, Int.add_assoc]
          rw [e1]
          exact step_mod (by omega) hp.2.2
        by_cases q1 : (p.1 + p.2 * j) % (r.length : Int) + p.2 = r.length
        · rw [if_pos q1] at key
          simp [callD, startE, look, lookV, Sl.get, Sl.getV, frzE, stoE, binF, addO, catL, iop, gAdd, gSub, gMul, gDiv, gMod, gPow, KF.listOf, ixU, dctAt, inUD, ninUD, inK, putU, ixO, ixD, L2.atI, L2.ixN, negD, truD, cmpF, icmp, isND, notND, isN, biF, fLen, lenD, fInt, fMax2, fMin2, fAbs, fTup, fLst, allPy, mkTup, mkLst, asI, revT, isiD, tyD, isTy, putO, putL, augF, promO, wipeE, itU, iL_len, l5, f5, hP, m0, m1, hg, feltL_succ, iL_app, eqD, shal_int, PyData.eqv, q1, key.symm, iL_one, feltZ]
        · rw [if_neg q1] at key
          by_cases q2 : (p.1 + p.2 * j) % (r.length : Int) + p.2 < 0
          · rw [if_pos q2] at key
            simp [callD, startE, look, lookV, Sl.get, Sl.getV, frzE, stoE, binF, addO, catL, iop, gAdd, gSub, gMul, gDiv, gMod, gPow, KF.listOf, ixU, dctAt, inUD, ninUD, inK, putU, ixO, ixD, L2.atI, L2.ixN, negD, truD, cmpF, icmp, isND, notND, isN, biF, fLen, lenD, fInt, fMax2, fMin2, fAbs, fTup, fLst, allPy, mkTup, mkLst, asI, revT, isiD, tyD, isTy, putO, putL, augF, promO, wipeE, itU, iL_len, l5, f5, hP, m0, m1, hg, feltL_succ, iL_app, eqD, shal_int, PyData.eqv, q1, q2, key.symm, iL_one, feltZ]
          · rw [if_neg q2] at key
            simp [callD, startE, look, lookV, Sl.get, Sl.getV, frzE, stoE, binF, addO, catL, iop, gAdd, gSub, gMul, gDiv, gMod, gPow, KF.listOf, ixU, dctAt, inUD, ninUD, inK, putU, ixO, ixD, L2.atI, L2.ixN, negD, truD, cmpF, icmp, isND, notND, isN, biF, fLen, lenD, fInt, fMax2, fMin2, fAbs, fTup, fLst, allPy, mkTup, mkLst, asI, revT, isiD, tyD, isTy, putO, putL, augF, promO, wipeE, itU, iL_len, l5, f5, hP, m0, m1, hg, feltL_succ, iL_app, eqD, shal_int, PyData.eqv, q1, q2, key.symm, iL_one, feltZ])
  have e0 : (p.1 + p.2 * ((0 : Nat) : Int)) % (r.length : Int) = p.1 := by
    rw [show p.1 + p.2 * ((0 : Nat) : Int) = p.1 by simp, Int.emod_eq_of_lt hp.1 hp.2.1]
  have f4 : fits k = true := fits_small (by omega)
  have l4 : (feltL r p k).length = k := by simp [feltL]
  simp only [e0] at L
  have Lq : forF (ev (runF P n) (.tn 5)).G (ev (runF P n) (.sq (.app 4 (.ix (.var 0) (.var 3))) (.sq (.sto 3 (.bin (.add) (.var 3) (.ix (.var 1) (.int 1)))) (.sq (.frz 3) (.asg (.tn 3) (.ifx (.cmp (.eq) (.var 3) (.bi (.len) (.cons (.var 0) (.nil)))) (.int 0) (.ifx (.cmp (.lt) (.var 3) (.int 0)) (.bin (.sub) (.bi (.len) (.cons (.var 0) (.nil))) (.int 1)) (.varV 3)))))))).S (rngL 0 k) [.v (TI r), .v (.py (.tuple [.int p.1, .int p.2])), .v (.py (.int k)), .v (.py (.int p.1)), .o [], .u] h = _ := L
  simp [callD, startE, look, lookV, Sl.get, Sl.getV, frzE, stoE, binF, addO, catL, iop, gAdd, gSub, gMul, gDiv, gMod, gPow, KF.listOf, ixU, dctAt, inUD, ninUD, inK, putU, ixO, ixD, L2.atI, L2.ixN, negD, truD, cmpF, icmp, isND, notND, isN, biF, fLen, lenD, fInt, fMax2, fMin2, fAbs, fTup, fLst, allPy, mkTup, mkLst, asI, revT, isiD, tyD, isTy, putO, putL, augF, promO, wipeE, itU, p__law_felt, k__law_felt, hP, rng1_nat _ (show k ≤ 1000000 by omega)]
  rw [Lq]
  simp [callD, startE, look, lookV, Sl.get, Sl.getV, frzE, stoE, binF, addO, catL, iop, gAdd, gSub, gMul, gDiv, gMod, gPow, KF.listOf, ixU, dctAt, inUD, ninUD, inK, putU, ixO, ixD, L2.atI, L2.ixN, negD, truD, cmpF, icmp, isND, notND, isN, biF, fLen, lenD, fInt, fMax2, fMin2, fAbs, fTup, fLst, allPy, mkTup, mkLst, asI, revT, isiD, tyD, isTy, putO, putL, augF, promO, wipeE, itU, l4, f4, iL_len]
/-! ### what repeats -/
theorem feltZ_per (r : List Int) (p : Int × Int) (j : Int) : feltZ r p (j % (r.length : Int)) = feltZ r p j := by
  unfold feltZ
  have q : p.1 + p.2 * (j % (r.length : Int)) = (p.1 + p.2 * j) + r.length * (-(p.2 * (j / (r.length : Int)))) := by
    have := Int.emod_add_mul_ediv j r.length
    have e : j % (r.length : Int) = j - r.length * (j / (r.length : Int)) := by omega
    rw [e, Int.mul_sub, Int.mul_neg, ← Int.mul_assoc, ← Int.mul_assoc, Int.mul_comm p.2 (r.length : Int)]
    omega
  rw [q, Int.add_mul_emod_self_left]
theorem felt_eq (r : List Int) (p q : Int × Int) (n : Nat) : feltL r p n = feltL r q n ↔ ∀ j : Nat, j < n → feltZ r p j = feltZ r q j := by
  unfold feltL
  constructor
  · intro h j hj
    have := congrArg (fun l => l[j]?) h
    simpa [hj] using this
  · intro h
    exact List.map_congr_left fun j hj => h j (List.mem_range.mp hj)
theorem felt_more (r : List Int) (hr : 1 ≤ r.length) (p q : Int × Int) {n m : Nat} (hn : r.length ≤ n) (hm : r.length ≤ m) : feltL r p n = feltL r q n ↔ feltL r p m = feltL r q m := by
  have key : ∀ n, r.length ≤ n → (feltL r p n = feltL r q n ↔ ∀ j : Int, feltZ r p j = feltZ r q j) := fun n hn => by
    rw [felt_eq]
    constructor
    · intro h j
      rw [← feltZ_per r p, ← feltZ_per r q]
      obtain ⟨a, b⟩ := modIx hr j
      have := h (j % (r.length : Int)).toNat (by omega)
      rwa [Int.toNat_of_nonneg a] at this
    · exact fun h j _ => h j
  rw [key n hn, key m hm]
end LW
set_option Elab.async false
set_option linter.all false
set_option maxRecDepth 100000
set_option maxHeartbeats 4000000
namespace LW
open PySem KF
variable {P : Prog}
/-! ### the checks -/
structure Chk (P : Prog) : Prop where
  a0 : findD P 0 = some p_is_integer
  a1 : findD P 1 = some p_is_from
  a2 : findD P 2 = some p_are_shapes
theorem isint_ok (C : Chk P) (n : Nat) (h : MH) (i : Int) : runF P (n + 1) 0 [.py (.int i)] h = .ok (.py (.bool true)) h := by
  rw [run_of C.a0]
  simp [callD, startE, look, lookV, Sl.get, Sl.getV, frzE, stoE, binF, addO, catL, iop, gAdd, gSub, gMul, gDiv, gMod, gPow, KF.listOf, ixU, dctAt, inUD, ninUD, inK, putU, ixO, ixD, L2.atI, L2.ixN, negD, truD, cmpF, icmp, isND, notND, isN, biF, fLen, lenD, fInt, fMax2, fMin2, fAbs, fTup, fLst, allPy, mkTup, mkLst, asI, revT, isiD, tyD, isTy, putO, putL, augF, promO, wipeE, itU, p_is_integer, k_is_integer]
theorem from_ok (C : Chk P) (n : Nat) (h : MH) (i lo hi : Int) (h1 : lo ≤ i) (h2 : i ≤ hi) : runF P (n + 2) 1 [.py (.int i), .py (.int lo), .py (.int hi)] h = .ok (.py (.bool true)) h := by
  rw [run_of C.a1]
  simp [callD, startE, look, lookV, Sl.get, Sl.getV, frzE, stoE, binF, addO, catL, iop, gAdd, gSub, gMul, gDiv, gMod, gPow, KF.listOf, ixU, dctAt, inUD, ninUD, inK, putU, ixO, ixD, L2.atI, L2.ixN, negD, truD, cmpF, icmp, isND, notND, isN, biF, fLen, lenD, fInt, fMax2, fMin2, fAbs, fTup, fLst, allPy, mkTup, mkLst, asI, revT, isiD, tyD, isTy, putO, putL, augF, promO, wipeE, itU, p_is_from, k_is_from, isint_ok C n h i, h1, h2]
theorem shapes_ok (C : Chk P) (n : Nat) (h : MH) (r : List Int) (lo m hi : Int) (h1 : lo ≤ r.length) (h2 : r.length ≤ m) (h3 : ∀ x ∈ r, 0 ≤ x ∧ x ≤ hi) : runF P (n + 3) 2 [TI r, .py (.int lo), .py (.int m), .py (.int hi)] h = .ok (.py (.bool true)) h := by
  rw [run_of C.a2]
  have L : ∀ (xs : List Int) (s : Sl), (∀ x ∈ xs, 0 ≤ x ∧ x ≤ hi) → ∃ s', forF (ev (runF P (n + 2)) (.tn 4)).G (ev (runF P (n + 2)) (.ite (.no (.fn 1 (.cons (.varV 4) (.cons (.int 0) (.cons (.varV 3) (.nil)))))) (.ret (.bl false)) (.skip))).S (xs.map fun i => .py (.int i)) [.v (TI r), .v (.py (.int lo)), .v (.py (.int m)), .v (.py (.int hi)), s] h = .nx [.v (TI r), .v (.py (.int lo)), .v (.py (.int m)), .v (.py (.int hi)), s'] h := by
    intro xs
    induction xs with
    | nil => exact fun s _ => ⟨s, rfl⟩
    | cons x r ih =>
      intro s hx
      obtain ⟨s', e⟩ := ih (.v (.py (.int x))) fun y hy => hx y (List.mem_cons_of_mem _ hy)
      obtain ⟨x1, x2⟩ := hx x List.mem_cons_self
      refine ⟨s', ?_⟩
      rw [List.map_cons, forF]
      simp [callD, startE, look, lookV, Sl.get, Sl.getV, frzE, stoE, binF, addO, catL, iop, gAdd, gSub, gMul, gDiv, gMod, gPow, KF.listOf, ixU, dctAt, inUD, ninUD, inK, putU, ixO, ixD, L2.atI, L2.ixN, negD, truD, cmpF, icmp, isND, notND, isN, biF, fLen, lenD, fInt, fMax2, fMin2, fAbs, fTup, fLst, allPy, mkTup, mkLst, asI, revT, isiD, tyD, isTy, putO, putL, augF, promO, wipeE, itU, from_ok C n h x 0 hi x1 x2, e]
  obtain ⟨s', e⟩ := L r .u h3
  have e2 : (iL r).map D.py = r.map fun i => D.py (.int i) := by unfold iL; rw [List.map_map]; rfl
  simp [callD, startE, look, lookV, Sl.get, Sl.getV, frzE, stoE, binF, addO, catL, iop, gAdd, gSub, gMul, gDiv, gMod, gPow, KF.listOf, ixU, dctAt, inUD, ninUD, inK, putU, ixO, ixD, L2.atI, L2.ixN, negD, truD, cmpF, icmp, isND, notND, isN, biF, fLen, lenD, fInt, fMax2, fMin2, fAbs, fTup, fLst, allPy, mkTup, mkLst, asI, revT, isiD, tyD, isTy, putO, putL, augF, promO, wipeE, itU, p_are_shapes, k_are_shapes, iL_len, h1, h2, e2, e]
theorem chkring_ok (C : Chk P) (a3 : findD P 3 = some p_check_ring) (n : Nat) (h : MH) (r : List Int) (hr : Ring 9 r) : runF P (n + 4) 3 [TI r] h = .ok (.py .none) h := by
  rw [run_of a3]
  have := shapes_ok C n h r 1 9 8 (by have := hr.1; omega) (by have := hr.2.1; omega) hr.2.2
  simp [callD, startE, look, lookV, Sl.get, Sl.getV, frzE, stoE, binF, addO, catL, iop, gAdd, gSub, gMul, gDiv, gMod, gPow, KF.listOf, ixU, dctAt, inUD, ninUD, inK, putU, ixO, ixD, L2.atI, L2.ixN, negD, truD, cmpF, icmp, isND, notND, isN, biF, fLen, lenD, fInt, fMax2, fMin2, fAbs, fTup, fLst, allPy, mkTup, mkLst, asI, revT, isiD, tyD, isTy, putO, putL, augF, promO, wipeE, itU, p_check_ring, k_check_ring, this]
theorem chkhold_ok (C : Chk P) (a4 : findD P 4 = some p_check_hold) (n : Nat) (h : MH) (r : List Int) (p : Int × Int) (hp : HdOk r.length p) : runF P (n + 3) 4 [TI r, .py (hP p)] h = .ok (.py .none) h := by
  rw [run_of a4]
  have h1 := from_ok C n h p.1 0 ((r.length : Int) - 1) hp.1 (by have := hp.2.1; omega)
  have h2 := isint_ok C (n + 1) h p.2
  rcases hp.2.2 with q | q <;> rw [q] at h2
  · simp [callD, startE, look, lookV, Sl.get, Sl.getV, frzE, stoE, binF, addO, catL, iop, gAdd, gSub, gMul, gDiv, gMod, gPow, KF.listOf, ixU, dctAt, inUD, ninUD, inK, putU, ixO, ixD, L2.atI, L2.ixN, negD, truD, cmpF, icmp, isND, notND, isN, biF, fLen, lenD, fInt, fMax2, fMin2, fAbs, fTup, fLst, allPy, mkTup, mkLst, asI, revT, isiD, tyD, isTy, putO, putL, augF, promO, wipeE, itU, p_check_hold, k_check_hold, hP, iL_len, h1, h2, q, eqD, neD, shal_int, PyData.eqv, inD, ninD, seqD]
  · simp [callD, startE, look, lookV, Sl.get, Sl.getV, frzE, stoE, binF, addO, catL, iop, gAdd, gSub, gMul, gDiv, gMod, gPow, KF.listOf, ixU, dctAt, inUD, ninUD, inK, putU, ixO, ixD, L2.atI, L2.ixN, negD, truD, cmpF, icmp, isND, notND, isN, biF, fLen, lenD, fInt, fMax2, fMin2, fAbs, fTup, fLst, allPy, mkTup, mkLst, asI, revT, isiD, tyD, isTy, putO, putL, augF, promO, wipeE, itU, p_check_hold, k_check_hold, hP, iL_len, h1, h2, q, eqD, neD, shal_int, PyData.eqv, inD, ninD, seqD]
theorem chknum_ok (C : Chk P) (a5 : findD P 5 = some p_check_number) (n : Nat) (h : MH) (i lo hi : Int) (h1 : lo ≤ i) (h2 : i ≤ hi) : runF P (n + 3) 5 [.py (.int i), .py (.int lo), .py (.int hi)] h = .ok (.py .none) h := by
  rw [run_of a5]
  simp [callD, startE, look, lookV, Sl.get, Sl.getV, frzE, stoE, binF, addO, catL, iop, gAdd, gSub, gMul, gDiv, gMod, gPow, KF.listOf, ixU, dctAt, inUD, ninUD, inK, putU, ixO, ixD, L2.atI, L2.ixN, negD, truD, cmpF, icmp, isND, notND, isN, biF, fLen, lenD, fInt, fMax2, fMin2, fAbs, fTup, fLst, allPy, mkTup, mkLst, asI, revT, isiD, tyD, isTy, putO, putL, augF, promO, wipeE, itU, p_check_number, k_check_number, from_ok C n h i lo hi h1 h2]
theorem felt_ok (C : Chk P) (a3 : findD P 3 = some p_check_ring) (a4 : findD P 4 = some p_check_hold) (a5 : findD P 5 = some p_check_number) (a6 : findD P 6 = some p_shape_at) (a7 : findD P 7 = some p_felt_by) (H : findD P 8 = some p_felt) (n : Nat) (h : MH) (r : List Int) (hr : Ring 9 r) (p : Int × Int) (hp : HdOk r.length p) (k : Nat) (hk : k ≤ 40) :
    runF P (n + 5) 8 [TI r, .py (hP p), .py (.int k)] h = .ok (TI (feltL r p k)) h := by
  rw [run_of H]
  have h1 := chkring_ok C a3 n h r hr
  have h2 := chkhold_ok C a4 (n + 1) h r p hp
  have h3 := chknum_ok C a5 (n + 1) h k 0 40 (by omega) (by omega)
  have h4 := feltby_ok a6 a7 (n + 2) h r hr.1 p (by rcases hp.2.2 with q | q <;> omega) k (by omega)
  simp [callD, startE, look, lookV, Sl.get, Sl.getV, frzE, stoE, binF, addO, catL, iop, gAdd, gSub, gMul, gDiv, gMod, gPow, KF.listOf, ixU, dctAt, inUD, ninUD, inK, putU, ixO, ixD, L2.atI, L2.ixN, negD, truD, cmpF, icmp, isND, notND, isN, biF, fLen, lenD, fInt, fMax2, fMin2, fAbs, fTup, fLst, allPy, mkTup, mkLst, asI, revT, isiD, tyD, isTy, putO, putL, augF, promO, wipeE, itU, p_felt, k_felt, h1, h2, h3, h4]
theorem hP_inj {p q : Int × Int} (h : hP p = hP q) : p = q := by
  obtain ⟨a, b⟩ := p
  obtain ⟨c, d⟩ := q
  unfold hP at h
  injection h with h
  injection h with h1 h2
  injection h2 with h2 _
  injection h1 with h1
  injection h2 with h2
  exact Prod.ext h1 h2
theorem lcF_pureA {α : Type} {g : TgF} {ft : EvF Bool} {fe : EvF D} {env : KF.Env} {h : MH} (c : α → D) (t : α → Bool) (f : α → PyData) : ∀ {xs : List α}, (∀ x ∈ xs, ∃ env1, g (c x) env = some env1 ∧ ft env1 h = .ok (t x) h ∧ (t x = true → fe env1 h = .ok (.py (f x)) h)) → lcF g ft fe env (xs.map c) h = .ok ((xs.filter t).map f) h
  | [], _ => rfl
  | x :: r, H => by
    obtain ⟨env1, e1, e2, e3⟩ := H x List.mem_cons_self
    have ih := lcF_pureA (xs := r) c t f fun y hy => H y (List.mem_cons_of_mem _ hy)
    rw [List.map_cons]
    unfold lcF
    rw [e1]
    simp only [e2, Out.nx]
    cases ht : t x with
    | true =>
      simp only [if_true, e3 ht, ih, List.filter_cons, ht, List.map_cons]
    | false =>
      simp only [Bool.false_eq_true, if_false, ih, List.filter_cons, ht]
theorem like_ok (C : Chk P) (a3 : findD P 3 = some p_check_ring) (a4 : findD P 4 = some p_check_hold) (a6 : findD P 6 = some p_shape_at) (a7 : findD P 7 = some p_felt_by) (H9 : findD P 9 = some p_all_holds) (H : findD P 10 = some p_holds_like) (n : Nat) (h : MH) (r : List Int) (hr : Ring 9 r) (p : Int × Int) (hp : HdOk r.length p) :
    runF P (n + 5) 10 [TI r, .py (hP p)] h = .ok (.py (.list (((hdL r.length).filter fun q => feltL r q r.length = feltL r p r.length).map hP))) h := by
  rw [run_of H]
  have h1 := chkring_ok C a3 n h r hr
  have h2 := chkhold_ok C a4 (n + 1) h r p hp
  have hl := hr.2.1
  have h4 : ∀ q, HdOk r.length q → runF P (n + 4) 7 [TI r, .py (hP q), .py (.int r.length)] h = .ok (TI (feltL r q r.length)) h := fun q hq => feltby_ok a6 a7 (n + 2) h r hr.1 q (by rcases hq.2.2 with q | q <;> omega) r.length (by omega)
  have h5 := allholds_ok H9 (n + 3) h r hr.2.1
  have L := lcF_pureA (g := (ev (runF P (n + 4)) (.tn 3)).G) (ft := (ev (runF P (n + 4)) (.cmp (.eq) (.fn 7 (.cons (.varV 0) (.cons (.varV 3) (.cons (.bi (.len) (.cons (.var 0) (.nil))) (.nil))))) (.var 2))).T) (fe := (ev (runF P (n + 4)) (.varV 3)).E)
    (env := [.v (TI r), .v (.py (hP p)), .v (TI (feltL r p r.length)), .u]) (h := h) (D.py ∘ hP) (fun q => decide (feltL r q r.length = feltL r p r.length)) hP (xs := hdL r.length) (fun q hq => by
      refine ⟨_, rfl, ?_, fun _ => rfl⟩
      have := h4 q (hdL_ok hq)
      simp [callD, startE, look, lookV, Sl.get, Sl.getV, frzE, stoE, binF, addO, catL, iop, gAdd, gSub, gMul, gDiv, gMod, gPow, KF.listOf, ixU, dctAt, inUD, ninUD, inK, putU, ixO, ixD, L2.atI, L2.ixN, negD, truD, cmpF, icmp, isND, notND, isN, biF, fLen, lenD, fInt, fMax2, fMin2, fAbs, fTup, fLst, allPy, mkTup, mkLst, asI, revT, isiD, tyD, isTy, putO, putL, augF, promO, wipeE, itU, iL_len, this, eqD, shal_T, eqv_T])
  have h40 := h4 p hp
  have f4 : fits ((hdL r.length).filter fun q => feltL r q r.length = feltL r p r.length).length = true := fits_small (Nat.le_trans (List.length_filter_le _ _) (by rw [hdL_len]; omega))
  simp [callD, startE, look, lookV, Sl.get, Sl.getV, frzE, stoE, binF, addO, catL, iop, gAdd, gSub, gMul, gDiv, gMod, gPow, KF.listOf, ixU, dctAt, inUD, ninUD, inK, putU, ixO, ixD, L2.atI, L2.ixN, negD, truD, cmpF, icmp, isND, notND, isN, biF, fLen, lenD, fInt, fMax2, fMin2, fAbs, fTup, fLst, allPy, mkTup, mkLst, asI, revT, isiD, tyD, isTy, putO, putL, augF, promO, wipeE, itU, p_holds_like, k_holds_like, h1, h2, iL_len, h40, h5, L, mkL, f4]
end LW
set_option Elab.async false
set_option linter.all false
set_option maxRecDepth 100000
set_option maxHeartbeats 4000000
namespace LW
open PySem KF
variable {P : Prog}
/-! ### aims; holds that are told apart -/
def aimS (a : Bool) : Str := if a = true then "hold" else "key"
abbrev AimD (a : Bool) : D := .py (.str (aimS a))
theorem eqv_kh : PyData.eqv (.str "key") (.str "hold") = false := by decide +kernel
theorem eqv_hh : PyData.eqv (.str "hold") (.str "hold") = true := by decide +kernel
theorem eqv_hk : PyData.eqv (.str "hold") (.str "key") = false := by decide +kernel
theorem eqv_kk : PyData.eqv (.str "key") (.str "key") = true := by decide +kernel
theorem eqv_ii (a b : Int) : PyData.eqv (.int a) (.int b) = decide (a = b) := by
  rw [PyData.eqv]; by_cases h : a = b <;> simp [h]
theorem aim_ok (H : findD P 19 = some p_check_aim) (n : Nat) (h : MH) (a : Bool) : runF P (n + 1) 19 [AimD a] h = .ok (.py .none) h := by
  rw [run_of H]
  cases a <;> simp [callD, startE, look, lookV, Sl.get, Sl.getV, frzE, stoE, binF, addO, catL, iop, gAdd, gSub, gMul, gDiv, gMod, gPow, KF.listOf, ixU, dctAt, inUD, ninUD, inK, putU, ixO, ixD, L2.atI, L2.ixN, negD, truD, cmpF, icmp, isND, notND, isN, biF, fLen, lenD, fInt, fMax2, fMin2, fAbs, fTup, fLst, allPy, mkTup, mkLst, asI, revT, isiD, tyD, isTy, putO, putL, augF, promO, wipeE, itU, p_check_aim, k_check_aim, aimS, ninD, inD, seqD, shal, eqv_kh, eqv_hh, eqv_hk, eqv_kk]
def unlike (a : Bool) (p q : Int × Int) : Bool := decide (p.1 ≠ q.1) || (a && decide (p ≠ q))
theorem unlike_ok (H : findD P 17 = some p__law_unlike) (n : Nat) (h : MH) (a : Bool) (p q : Int × Int) : runF P (n + 1) 17 [.py (hP p), .py (hP q), AimD a] h = .ok (.py (.bool (unlike a p q))) h := by
  rw [run_of H]
  obtain ⟨p1, p2⟩ := p
  obtain ⟨q1, q2⟩ := q
  have e := eqv_T [p1, p2] [q1, q2]
  have e : ∀ a b c d : Int, PyData.eqv (.tuple [.int a, .int b]) (.tuple [.int c, .int d]) = decide ([a, b] = [c, d]) := fun a b c d => eqv_T [a, b] [c, d]
  have s : ∀ n i j, shal (n + 1) (.tuple [.int i, .int j]) = true := fun n i j => shal_T [i, j] n
  cases a <;> by_cases c : p1 = q1 <;> simp [callD, startE, look, lookV, Sl.get, Sl.getV, frzE, stoE, binF, addO, catL, iop, gAdd, gSub, gMul, gDiv, gMod, gPow, KF.listOf, ixU, dctAt, inUD, ninUD, inK, putU, ixO, ixD, L2.atI, L2.ixN, negD, truD, cmpF, icmp, isND, notND, isN, biF, fLen, lenD, fInt, fMax2, fMin2, fAbs, fTup, fLst, allPy, mkTup, mkLst, asI, revT, isiD, tyD, isTy, putO, putL, augF, promO, wipeE, itU, p__law_unlike, k__law_unlike, aimS, hP, neD, eqD, shal_int, s, shal, eqv_kh, eqv_hh, e, eqv_ii, c, unlike]
theorem isknown2 (H : findD P 20 = some p_is_known) (n : Nat) (h : MH) (a : Bool) (p q : Int × Int) : runF P (n + 1) 20 [.py (.list [hP p, hP q]), AimD a] h = .ok (.py (.bool (!a && decide (p.1 = q.1)))) h := by
  rw [run_of H]
  obtain ⟨p1, p2⟩ := p
  obtain ⟨q1, q2⟩ := q
  cases a
  · simp [callD, startE, look, lookV, Sl.get, Sl.getV, frzE, stoE, binF, addO, catL, iop, gAdd, gSub, gMul, gDiv, gMod, gPow, KF.listOf, ixU, dctAt, inUD, ninUD, inK, putU, ixO, ixD, L2.atI, L2.ixN, negD, truD, cmpF, icmp, isND, notND, isN, biF, fLen, lenD, fInt, fMax2, fMin2, fAbs, fTup, fLst, allPy, mkTup, mkLst, asI, revT, isiD, tyD, isTy, putO, putL, augF, promO, wipeE, itU, p_is_known, k_is_known, aimS, hP, eqD, shal, eqv_kh, lcF, mkL, lsO, intsOf]
    rw [eqv_ii]
    unfold ddI PyProof.Rows.firstMet
    by_cases c : p1 = q1
    · subst c
      simp [List.range_succ, PyProof.Rows.step_dedup]
    · have c' : ¬ q1 = p1 := fun z => c z.symm
      simp [List.range_succ, PyProof.Rows.step_dedup, c, c']
  · simp [callD, startE, look, lookV, Sl.get, Sl.getV, frzE, stoE, binF, addO, catL, iop, gAdd, gSub, gMul, gDiv, gMod, gPow, KF.listOf, ixU, dctAt, inUD, ninUD, inK, putU, ixO, ixD, L2.atI, L2.ixN, negD, truD, cmpF, icmp, isND, notND, isN, biF, fLen, lenD, fInt, fMax2, fMin2, fAbs, fTup, fLst, allPy, mkTup, mkLst, asI, revT, isiD, tyD, isTy, putO, putL, augF, promO, wipeE, itU, p_is_known, k_is_known, aimS, hP, eqD, shal, shal_int, eqv_hh, eqv_ii]
theorem eqv_hP (p q : Int × Int) : PyData.eqv (hP p) (hP q) = decide (p = q) := by
  obtain ⟨a, b⟩ := p
  obtain ⟨c, d⟩ := q
  have := eqv_T [a, b] [c, d]
  have e : PyData.eqv (hP (a, b)) (hP (c, d)) = decide ([a, b] = [c, d]) := this
  rw [e]
  simp
theorem eqvAll_hP : ∀ xs : List (Int × Int), PyData.eqvAll (xs.map hP) (xs.map hP) = true
  | [] => rfl
  | x :: r => by
    rw [List.map_cons, PyData.eqvAll, eqv_hP, eqvAll_hP r]
    simp
theorem shal_hP (p : Int × Int) (n : Nat) : shal (n + 1) (hP p) = true := shal_T [p.1, p.2] n
theorem shal_L {xs : List PyData} {n : Nat} (h : ∀ x ∈ xs, shal n x = true) : shal (n + 1) (.list xs) = true := by
  simp only [shal, List.all_eq_true]
  exact h
theorem getD_mem {α : Type} {xs : List α} {i : Nat} (h : i < xs.length) (d : α) : ∃ x, xs[i]? = some x ∧ x ∈ xs := ⟨xs[i], List.getElem?_eq_getElem h, List.getElem_mem h⟩
theorem pick {xs : List PyData} {v : Int} (Q : PyData → Prop) (h0 : 0 ≤ v) (h1 : v < xs.length) (hQ : ∀ x ∈ xs, Q x) : ∃ x, Q x ∧ ∀ pf, xs[v.toNat]'pf = x := by
  have hl : v.toNat < xs.length := by omega
  exact ⟨xs[v.toNat], hQ _ (List.getElem_mem hl), fun _ => rfl⟩
theorem hsh (xs : List (Int × Int)) : shal 64 (.list (xs.map hP)) = true := shal_L fun x hx => by
  obtain ⟨q, _, e⟩ := List.mem_map.mp hx
  subst e
  exact shal_hP q 62
theorem Ring.le {m n : Nat} {r : List Int} (h : Ring m r) (l : m ≤ n) : Ring n r := ⟨h.1, Nat.le_trans h.2.1 l, h.2.2⟩
theorem felt_shp {m : Nat} {r : List Int} (hr : Ring m r) (p : Int × Int) (n : Nat) : ∀ x ∈ feltL r p n, 0 ≤ x ∧ x ≤ 8 := fun x hx => by
  unfold feltL at hx
  obtain ⟨j, _, e⟩ := List.mem_map.mp hx
  subst e
  unfold feltZ
  rw [List.getD_eq_getElem?_getD]
  cases q : r[((p.1 + p.2 * (j : Nat)) % (r.length : Int)).toNat]? with
  | none => simp
  | some y => exact hr.2.2 y (List.mem_of_getElem? q)
/-! ### places at which two feelings differ -/
def dif (r : List Int) (p q : Int × Int) (j : Nat) : Bool := decide (feltZ r p j ≠ feltZ r q j)
def cnt (d : Nat → Bool) (m : Nat) : Nat := ((List.range m).filter d).length
theorem cnt_succ (d : Nat → Bool) (m : Nat) : cnt d (m + 1) = cnt d m + if d m = true then 1 else 0 := by
  unfold cnt
  rw [List.range_succ, List.filter_append, List.length_append]
  cases h : d m <;> simp [h]
theorem cnt_mono (d : Nat → Bool) {a b : Nat} (h : a ≤ b) : cnt d a ≤ cnt d b := by
  induction b with
  | zero => rw [Nat.le_zero.mp h]; exact Nat.le_refl _
  | succ b ih =>
    rcases Nat.lt_or_ge a (b + 1) with q | q
    · have := ih (by omega)
      rw [cnt_succ]; omega
    · rw [show a = b + 1 by omega]; exact Nat.le_refl _
theorem spot_get (d : Nat → Bool) : ∀ (n k j : Nat), ((List.range n).filter d)[k]? = some j → d j = true ∧ cnt d j = k ∧ j < n
  | 0, k, j, h => by simp at h
  | n + 1, k, j, h => by
    rw [List.range_succ, List.filter_append] at h
    by_cases hk : k < ((List.range n).filter d).length
    · rw [List.getElem?_append_left hk] at h
      obtain ⟨a, b, c⟩ := spot_get d n k j h
      exact ⟨a, b, by omega⟩
    · rw [List.getElem?_append_right (by omega)] at h
      cases q : d n with
      | false => simp [q] at h
      | true =>
        simp only [List.filter_cons, q, if_true, List.filter_nil] at h
        have e : k - ((List.range n).filter d).length = 0 := by
          cases z : k - ((List.range n).filter d).length with
          | zero => rfl
          | succ m => rw [z] at h; simp at h
        rw [e] at h
        simp at h
        subst h
        exact ⟨q, by unfold cnt; omega, by omega⟩
/-- the first number of keys with so many differences -/
structure Fst (d : Nat → Bool) (k t : Nat) : Prop where
  at' : k ≤ cnt d t
  low : ∀ m, m < t → cnt d m < k
theorem Fst.of_spot {d : Nat → Bool} {n k j : Nat} (h : ((List.range n).filter d)[k]? = some j) : Fst d (k + 1) (j + 1) := by
  obtain ⟨a, b, c⟩ := spot_get d n k j h
  refine ⟨by rw [cnt_succ, a]; simp; omega, fun m hm => ?_⟩
  have := cnt_mono d (show m ≤ j by omega)
  omega
theorem many_dif (d : Nat → Bool) (L j0 : Nat) (hL : 0 < L) (h0 : d j0 = true) (per : ∀ j, d (j + L) = d j) (i : Nat) : i + 1 ≤ cnt d (j0 + i * L + 1) := by
  have hd : ∀ i, d (j0 + i * L) = true := fun i => by
    induction i with
    | zero => simpa using h0
    | succ i ih => rw [Nat.succ_mul, ← Nat.add_assoc, per]; exact ih
  induction i with
  | zero => rw [cnt_succ]; simp [h0]
  | succ i ih =>
    rw [cnt_succ, hd (i + 1)]
    simp
    have := cnt_mono d (show j0 + i * L + 1 ≤ j0 + (i + 1) * L by rw [Nat.succ_mul]; omega)
    omega
end LW
set_option Elab.async false
set_option linter.all false
set_option maxRecDepth 100000
set_option maxHeartbeats 4000000
namespace LW
open PySem KF
variable {P : Prog}
theorem boolI (b : Bool) : ((if b = true then 1 else 0 : Nat) : Int) = if b = true then 1 else 0 := by cases b <;> rfl
theorem keysfor_loop (H6 : findD P 6 = some p_shape_at) (n : Nat) (h : MH) (r : List Int) (hr : 1 ≤ r.length) (p q : Int × Int) (hp : p.2.natAbs ≤ 1) (hq : q.2.natAbs ≤ 1) (k t : Nat) (ft : Fst (dif r p q) k t) : ∀ (d m fuel : Nat), m + d = t → d < fuel →
    whileF (ev (runF P (n + 1)) (.cmp (.lt) (.var 5) (.var 3))).T (ev (runF P (n + 1)) (.sq (.aug 5 (.add) (.bi (.int) (.cons (.cmp (.ne) (.fn 6 (.cons (.varV 0) (.cons (.varV 1) (.cons (.varV 4) (.nil))))) (.fn 6 (.cons (.varV 0) (.cons (.varV 2) (.cons (.varV 4) (.nil)))))) (.nil)))) (.aug 4 (.add) (.int 1)))).S fuel [.v (TI r), .v (.py (hP p)), .v (.py (hP q)), .v (.py (.int k)), .v (.py (.int m)), .v (.py (.int (cnt (dif r p q) m)))] h
     = .nx [.v (TI r), .v (.py (hP p)), .v (.py (hP q)), .v (.py (.int k)), .v (.py (.int t)), .v (.py (.int (cnt (dif r p q) t)))] h
  | 0, m, fuel + 1, hm, _ => by
    have hm : m = t := hm
    subst hm
    have := ft.at'
    have c : ¬ ((cnt (dif r p q) m : Int) < (k : Int)) := by omega
    unfold whileF
    simp [callD, startE, look, lookV, Sl.get, Sl.getV, frzE, stoE, binF, addO, catL, iop, gAdd, gSub, gMul, gDiv, gMod, gPow, KF.listOf, ixU, dctAt, inUD, ninUD, inK, putU, ixO, ixD, L2.atI, L2.ixN, negD, truD, cmpF, icmp, isND, notND, isN, biF, fLen, lenD, fInt, fMax2, fMin2, fAbs, fTup, fLst, allPy, mkTup, mkLst, asI, revT, isiD, tyD, isTy, putO, putL, augF, promO, wipeE, itU, c]
  | d + 1, m, fuel + 1, hm, hf => by
    have c0 := ft.low m (by omega)
    have c : ((cnt (dif r p q) m : Int) < (k : Int)) := by omega
    have ih := keysfor_loop H6 n h r hr p q hp hq k t ft d (m + 1) fuel (by omega) (by omega)
    have e1 := shape_ok H6 n h r hr p m hp
    have e2 := shape_ok H6 n h r hr q m hq
    have e3 := cnt_succ (dif r p q) m
    unfold whileF
    by_cases z : feltZ r p m = feltZ r q m
    · have z' : dif r p q m = false := by simp [dif, z]
      rw [e3, z'] at ih
      simp [callD, startE, look, lookV, Sl.get, Sl.getV, frzE, stoE, binF, addO, catL, iop, gAdd, gSub, gMul, gDiv, gMod, gPow, KF.listOf, ixU, dctAt, inUD, ninUD, inK, putU, ixO, ixD, L2.atI, L2.ixN, negD, truD, cmpF, icmp, isND, notND, isN, biF, fLen, lenD, fInt, fMax2, fMin2, fAbs, fTup, fLst, allPy, mkTup, mkLst, asI, revT, isiD, tyD, isTy, putO, putL, augF, promO, wipeE, itU, c, e1, e2, neD, eqD, shal_int, eqv_ii, z] at ih ⊢
      exact ih
    · have z' : dif r p q m = true := by simp [dif, z]
      rw [e3, z'] at ih
      simp [callD, startE, look, lookV, Sl.get, Sl.getV, frzE, stoE, binF, addO, catL, iop, gAdd, gSub, gMul, gDiv, gMod, gPow, KF.listOf, ixU, dctAt, inUD, ninUD, inK, putU, ixO, ixD, L2.atI, L2.ixN, negD, truD, cmpF, icmp, isND, notND, isN, biF, fLen, lenD, fInt, fMax2, fMin2, fAbs, fTup, fLst, allPy, mkTup, mkLst, asI, revT, isiD, tyD, isTy, putO, putL, augF, promO, wipeE, itU, c, e1, e2, neD, eqD, shal_int, eqv_ii, z] at ih ⊢
      exact ih
theorem keysfor_ok (H6 : findD P 6 = some p_shape_at) (H : findD P 169 = some p_keys_for) (n : Nat) (h : MH) (r : List Int) (hr : 1 ≤ r.length) (p q : Int × Int) (hp : p.2.natAbs ≤ 1) (hq : q.2.natAbs ≤ 1) (k t : Nat) (ht : t ≤ 1000) (ft : Fst (dif r p q) k t) :
    runF P (n + 2) 169 [TI r, .py (hP p), .py (hP q), .py (.int k)] h = .ok (.py (.int t)) h := by
  rw [run_of H]
  have L := keysfor_loop H6 n h r hr p q hp hq k t ft t 0 turns (by omega) (by unfold turns; omega)
  have c0 : cnt (dif r p q) 0 = 0 := rfl
  rw [c0] at L
  have L' : whileF (ev (runF P (n + 1)) (.cmp (.lt) (.var 5) (.var 3))).T (ev (runF P (n + 1)) (.sq (.aug 5 (.add) (.bi (.int) (.cons (.cmp (.ne) (.fn 6 (.cons (.varV 0) (.cons (.varV 1) (.cons (.varV 4) (.nil))))) (.fn 6 (.cons (.varV 0) (.cons (.varV 2) (.cons (.varV 4) (.nil)))))) (.nil)))) (.aug 4 (.add) (.int 1)))).S turns [.v (TI r), .v (.py (hP p)), .v (.py (hP q)), .v (.py (.int k)), .v (.py (.int 0)), .v (.py (.int 0))] h = _ := L
  simp [callD, startE, look, lookV, Sl.get, Sl.getV, frzE, stoE, binF, addO, catL, iop, gAdd, gSub, gMul, gDiv, gMod, gPow, KF.listOf, ixU, dctAt, inUD, ninUD, inK, putU, ixO, ixD, L2.atI, L2.ixN, negD, truD, cmpF, icmp, isND, notND, isN, biF, fLen, lenD, fInt, fMax2, fMin2, fAbs, fTup, fLst, allPy, mkTup, mkLst, asI, revT, isiD, tyD, isTy, putO, putL, augF, promO, wipeE, itU, p_keys_for, k_keys_for, L']
end LW
set_option Elab.async false
set_option linter.all false
set_option maxRecDepth 100000
set_option maxHeartbeats 4000000
/-! loops by invariants; dicts as lists of pairs; order of data -/
namespace KF
open PySem
/-! ### loops -/
theorem forF_cons (g : TgF) (b : EvS) (x : D) (r : List D) (env : KF.Env) (h : MH) : forF g b (x :: r) env h = match g x env with
  | some env1 => (b env1 h).thn (forF g b r)
  | none => .bad := rfl
theorem forF_rel {α : Type} {g : TgF} {b : EvS} (c : α → D) (I : List α → KF.Env → MH → Prop) (xs : List α)
    (H : ∀ pre x suf env h, xs = pre ++ x :: suf → I pre env h → ∃ e env' h', g (c x) env = some e ∧ b e h = .nx env' h' ∧ I (pre ++ [x]) env' h') :
    ∀ env h, I [] env h → ∃ env' h', forF g b (xs.map c) env h = .nx env' h' ∧ I xs env' h' := by
  have key : ∀ suf pre env h, xs = pre ++ suf → I pre env h → ∃ env' h', forF g b (suf.map c) env h = .nx env' h' ∧ I xs env' h' := by
    intro suf
    induction suf with
    | nil => intro pre env h e i; rw [List.append_nil] at e; subst e; exact ⟨env, h, rfl, i⟩
    | cons x r ih =>
      intro pre env h e i
      obtain ⟨e1, env', h', h1, h2, h3⟩ := H pre x r env h e i
      obtain ⟨env2, h2', h4, h5⟩ := ih (pre ++ [x]) env' h' (by rw [e]; simp) h3
      refine ⟨env2, h2', ?_, h5⟩
      rw [List.map_cons, forF_cons, h1]
      show (b e1 h).thn _ = _
      rw [h2]
      exact h4
  exact fun env h i => key xs [] env h rfl i
/-- a loop that may return -/
theorem forF_exit {α : Type} {g : TgF} {b : EvS} (c : α → D) (I : List α → KF.Env → MH → Prop) (R : D → MH → Prop) (xs : List α)
    (H : ∀ pre x suf env h, xs = pre ++ x :: suf → I pre env h → ∃ e, g (c x) env = some e ∧ ((∃ env' h', b e h = .nx env' h' ∧ I (pre ++ [x]) env' h') ∨ ∃ d h', b e h = .rt d h' ∧ R d h')) :
    ∀ env h, I [] env h → (∃ env' h', forF g b (xs.map c) env h = .nx env' h' ∧ I xs env' h') ∨ ∃ d h', forF g b (xs.map c) env h = .rt d h' ∧ R d h' := by
  have key : ∀ suf pre env h, xs = pre ++ suf → I pre env h → (∃ env' h', forF g b (suf.map c) env h = .nx env' h' ∧ I xs env' h') ∨ ∃ d h', forF g b (suf.map c) env h = .rt d h' ∧ R d h' := by
    intro suf
    induction suf with
    | nil => intro pre env h e i; rw [List.append_nil] at e; subst e; exact .inl ⟨env, h, rfl, i⟩
    | cons x r ih =>
      intro pre env h e i
      obtain ⟨e1, h1, h2⟩ := H pre x r env h e i
      rcases h2 with ⟨env', h', h2, h3⟩ | ⟨d, h', h2, h3⟩
      · rcases ih (pre ++ [x]) env' h' (by rw [e]; simp) h3 with ⟨env2, h2', h4, h5⟩ | ⟨d, h2', h4, h5⟩
        · refine .inl ⟨env2, h2', ?_, h5⟩
          rw [List.map_cons, forF_cons, h1]
          show (b e1 h).thn _ = _
          rw [h2]
          exact h4
        · refine .inr ⟨d, h2', ?_, h5⟩
          rw [List.map_cons, forF_cons, h1]
          show (b e1 h).thn _ = _
          rw [h2]
          exact h4
      · refine .inr ⟨d, h', ?_, h3⟩
        rw [List.map_cons, forF_cons, h1]
        show (b e1 h).thn _ = _
        rw [h2]
        rfl
  exact fun env h i => key xs [] env h rfl i
theorem rngL_map (n : Nat) : rngL 0 n = (List.range n).map fun (k : Nat) => D.py (.int (k : Nat)) := by
  unfold rngL
  apply List.map_congr_left
  intro a _
  simp
/-! ### dicts -/
structure KeyEnc {κ : Type} [DecidableEq κ] (c : κ → PyData) : Prop where
  eq : ∀ a b, keq (c a) (c b) = decide (a = b)
  ok : ∀ (kvs : KVs) (a : κ), (∀ kv ∈ kvs, ∃ b, kv.1 = c b) → kOk kvs (c a) = true
  st : ∀ (a : κ) x, c a ≠ .str x
def lookG {κ β : Type} [DecidableEq κ] (G : List (κ × β)) (k : κ) : Option β := (G.find? fun x => decide (x.1 = k)).map (·.2)
def putG {κ β : Type} [DecidableEq κ] (G : List (κ × β)) (k : κ) (b : β) : List (κ × β) := if (lookG G k).isSome = true then G.map fun x => if x.1 = k then (x.1, b) else x else G ++ [(k, b)]
def encG {κ β : Type} (c : κ → PyData) (v : β → PyData) (G : List (κ × β)) : KVs := G.map fun x => (c x.1, v x.2)
section
variable {κ β : Type} [DecidableEq κ] {c : κ → PyData} {v : β → PyData}
theorem getK_enc (E : KeyEnc c) (G : List (κ × β)) (k : κ) : getK (encG c v G) (c k) = (lookG G k).map v := by
  unfold getK encG lookG
  induction G with
  | nil => rfl
  | cons x r ih =>
    rw [List.map_cons, List.find?_cons, List.find?_cons, E.eq]
    by_cases h : x.1 = k
    · simp [h]
    · simp only [h, decide_false]
      exact ih
theorem putK_enc (E : KeyEnc c) (G : List (κ × β)) (k : κ) (b : β) : putKD (encG c v G) (c k) (v b) = encG c v (putG G k b) := by
  unfold putKD putG
  rw [getK_enc E]
  cases h : lookG G k with
  | none => simp [encG]
  | some b' =>
    simp only [Option.map_some, Option.isSome_some, if_true]
    unfold encG
    rw [List.map_map, List.map_map]
    apply List.map_congr_left
    intro x _
    simp only [Function.comp, E.eq, decide_eq_true_eq]
    split <;> rfl
theorem kOk_enc (E : KeyEnc c) (G : List (κ × β)) (k : κ) : kOk (encG c v G) (c k) = true := E.ok _ _ fun kv h => by
  unfold encG at h
  obtain ⟨x, _, e⟩ := List.mem_map.mp h
  exact ⟨x.1, by rw [← e]⟩
theorem encG_len (G : List (κ × β)) : (encG c v G).length = G.length := by simp [encG]
theorem sKs_enc (E : KeyEnc c) (G : List (κ × β)) : sKs (encG c v G) = true := by
  unfold sKs
  rw [List.all_eq_true]
  intro kv h
  unfold encG at h
  obtain ⟨x, _, e⟩ := List.mem_map.mp h
  subst e
  have := E.st x.1
  dsimp only
  split
  · rename_i q; exact absurd q (this _)
  · rfl
theorem keysL_enc (G : List (κ × β)) : keysL (encG c v G) = G.map fun x => .py (c x.1) := by
  unfold keysL encG
  rw [List.map_map]
  rfl
theorem putG_len (G : List (κ × β)) (k : κ) (b : β) : (putG G k b).length ≤ G.length + 1 := by
  unfold putG
  split <;> simp
theorem lookG_put (G : List (κ × β)) (k k' : κ) (b : β) : lookG (putG G k b) k' = if k = k' then some b else lookG G k' := by
  unfold putG
  by_cases hs : (lookG G k).isSome = true
  · rw [if_pos hs]
    unfold lookG at hs ⊢
    induction G with
    | nil => simp at hs
    | cons x r ih =>
      rw [List.map_cons, List.find?_cons]
      by_cases hx : x.1 = k
      · simp only [hx, if_true]
        by_cases hk : k = k'
        · simp [hk]
        · simp only [hk, decide_false, if_false]
          have hx' : ¬ x.1 = k' := fun z => hk (hx.symm.trans z)
          rw [List.find?_cons]
          simp only [hx', decide_false]
          have e : (r.map fun x => if x.1 = k then (x.1, b) else x).find? (fun x => decide (x.1 = k')) = r.find? fun x => decide (x.1 = k') := by
            clear ih hs
            induction r with
            | nil => rfl
            | cons y s ih2 =>
              rw [List.map_cons, List.find?_cons, List.find?_cons]
              by_cases hy : y.1 = k
              · have hy' : ¬ y.1 = k' := fun z => hk (hy.symm.trans z)
                simp only [hy, if_true, hk, decide_false]
                exact ih2
              · simp only [hy, if_false]
                cases q : decide (y.1 = k') with
                | true => rfl
                | false => exact ih2
          rw [e]
      · simp only [hx, if_false]
        rw [List.find?_cons] at hs
        simp only [hx, decide_false] at hs
        by_cases hk' : x.1 = k'
        · have : ¬ k = k' := fun z => hx (hk'.trans z.symm)
          simp [hk', this]
        · rw [List.find?_cons]
          simp only [hk', decide_false]
          exact ih hs
  · rw [if_neg hs]
    have hn : lookG G k = none := by simpa using hs
    unfold lookG at hn ⊢
    rw [List.find?_append]
    by_cases hk : k = k'
    · subst hk
      have : G.find? (fun x => decide (x.1 = k)) = none := by simpa using hn
      simp [this]
    · simp [hk]
theorem putG_keys (G : List (κ × β)) (k : κ) (b : β) : (putG G k b).map (·.1) = if (lookG G k).isSome = true then G.map (·.1) else G.map (·.1) ++ [k] := by
  unfold putG
  split
  · rw [List.map_map]
    apply List.map_congr_left
    intro x _
    simp only [Function.comp]
    split <;> rfl
  · simp
theorem lookG_none {G : List (κ × β)} {k : κ} : lookG G k = none ↔ k ∉ G.map (·.1) := by
  unfold lookG
  simp only [Option.map_eq_none_iff, List.find?_eq_none, List.mem_map, decide_eq_true_eq]
  constructor
  · rintro h ⟨x, hx, e⟩; exact h x hx e
  · intro h x hx e; exact h ⟨x, hx, e⟩
theorem putG_nodup {G : List (κ × β)} (h : (G.map (·.1)).Nodup) (k : κ) (b : β) : ((putG G k b).map (·.1)).Nodup := by
  rw [putG_keys]
  split
  · exact h
  · rename_i q
    have hn : lookG G k = none := by simpa using q
    refine List.nodup_append.mpr ⟨h, by simp, fun a ha c hc e => ?_⟩
    have : c = k := by simpa using hc
    subst this e
    exact lookG_none.mp hn ha
theorem lookG_mem {G : List (κ × β)} (h : (G.map (·.1)).Nodup) {k : κ} {b : β} : (k, b) ∈ G ↔ lookG G k = some b := by
  unfold lookG
  induction G with
  | nil => simp
  | cons x r ih =>
    rw [List.map_cons, List.nodup_cons] at h
    rw [List.mem_cons, List.find?_cons]
    by_cases hx : x.1 = k
    · simp only [hx, decide_true, Option.map_some, Option.some.injEq]
      constructor
      · rintro (e | e)
        · rw [← e]
        · exact absurd (List.mem_map.mpr ⟨_, e, rfl⟩) (hx ▸ h.1)
      · intro e; exact .inl (by rw [← e, ← hx])
    · simp only [hx, decide_false]
      rw [← ih h.2]
      constructor
      · rintro (e | e)
        · exact absurd (by rw [← e]) hx
        · exact e
      · exact .inr
/-! things put together by their keys -/
def grpG {ν : Type} (xs : List (κ × ν)) : List (κ × List ν) := xs.foldl (fun G x => putG G x.1 ((lookG G x.1).getD [] ++ [x.2])) []
def grpOf {ν : Type} (xs : List (κ × ν)) (k : κ) : List ν := (xs.filter fun x => decide (x.1 = k)).map (·.2)
theorem grp_snoc {ν : Type} (xs : List (κ × ν)) (x : κ × ν) : grpG (xs ++ [x]) = putG (grpG xs) x.1 ((lookG (grpG xs) x.1).getD [] ++ [x.2]) := by
  unfold grpG
  rw [List.foldl_append]
  rfl
theorem snoc_ind {α : Type} {p : List α → Prop} (h0 : p []) (h1 : ∀ xs x, p xs → p (xs ++ [x])) : ∀ xs, p xs := by
  intro xs
  have : ∀ ys : List α, p ys.reverse := by
    intro ys
    induction ys with
    | nil => exact h0
    | cons y r ih => rw [List.reverse_cons]; exact h1 _ _ ih
  have := this xs.reverse
  rwa [List.reverse_reverse] at this
theorem grp_nodup {ν : Type} (xs : List (κ × ν)) : ((grpG xs).map (·.1)).Nodup := by
  induction xs using snoc_ind with
  | h0 => exact List.nodup_nil
  | h1 xs x ih => rw [grp_snoc]; exact putG_nodup ih _ _
theorem grp_look {ν : Type} (xs : List (κ × ν)) (k : κ) : lookG (grpG xs) k = if k ∈ xs.map (·.1) then some (grpOf xs k) else none := by
  induction xs using snoc_ind with
  | h0 => rfl
  | h1 xs x ih =>
    rw [grp_snoc, lookG_put]
    have e : ∀ k, grpOf (xs ++ [x]) k = grpOf xs k ++ if x.1 = k then [x.2] else [] := fun k => by
      unfold grpOf
      rw [List.filter_append, List.map_append]
      by_cases h : x.1 = k <;> simp [h]
    by_cases h : x.1 = k
    · subst h
      have hm2 : x.1 ∈ (xs ++ [x]).map (·.1) := by rw [List.map_append]; exact List.mem_append_right _ List.mem_cons_self
      have e2 : (if x.1 ∈ (xs ++ [x]).map (·.1) then some (grpOf (xs ++ [x]) x.1) else none) = some (grpOf (xs ++ [x]) x.1) := if_pos hm2
      rw [if_pos rfl, ih, e2, e, if_pos rfl]
      by_cases hm : x.1 ∈ xs.map (·.1)
      · rw [if_pos hm]; rfl
      · rw [if_neg hm]
        have : grpOf xs x.1 = [] := by
          unfold grpOf
          rw [List.map_eq_nil_iff, List.filter_eq_nil_iff]
          intro y hy q
          exact hm (List.mem_map.mpr ⟨y, hy, of_decide_eq_true q⟩)
        rw [this]; rfl
    · rw [if_neg h, ih, e, if_neg h, List.append_nil]
      by_cases hm : k ∈ xs.map (·.1)
      · rw [if_pos hm, if_pos (by rw [List.map_append]; exact List.mem_append_left _ hm)]
      · rw [if_neg hm, if_neg]
        rw [List.map_append]
        intro q
        rcases List.mem_append.mp q with q | q
        · exact hm q
        · have q : k = x.1 := by simpa using q
          exact h q.symm
theorem grp_mem {ν : Type} (xs : List (κ × ν)) (k : κ) (b : List ν) : (k, b) ∈ grpG xs ↔ k ∈ xs.map (·.1) ∧ b = grpOf xs k := by
  rw [lookG_mem (grp_nodup xs), grp_look]
  by_cases h : k ∈ xs.map (·.1)
  · rw [if_pos h]; simp [h, eq_comm]
  · rw [if_neg h]; simp [h]
theorem grp_len {ν : Type} (xs : List (κ × ν)) : (grpG xs).length ≤ xs.length := by
  induction xs using snoc_ind with
  | h0 => exact Nat.le_refl _
  | h1 xs x ih =>
    rw [grp_snoc]
    have := putG_len (grpG xs) x.1 ((lookG (grpG xs) x.1).getD [] ++ [x.2])
    simp only [List.length_append, List.length_singleton]
    omega
end
/-! tuples of ints as keys -/
def kTu (k : List Int) : PyData := .tuple (iL k)
theorem nks_ints (k : List Int) : nks (iL k) = some (k.map .num) := by
  induction k with
  | nil => rfl
  | cons x r ih =>
    show ((nk (.int x)).bind fun k => (nks (iL r)).bind fun ks => some (k :: ks)) = _
    rw [ih]
    rfl
theorem depth_ints (k : List Int) : NestedKey.depthAll (k.map .num) = 0 := by
  induction k with
  | nil => simp [NestedKey.depthAll]
  | cons x r ih => simp [NestedKey.depthAll, NestedKey.depth, ih]
theorem num_inj {a b : List Int} (h : a.map NestedKey.num = b.map .num) : a = b := by
  induction a generalizing b with
  | nil => cases b with
    | nil => rfl
    | cons => cases h
  | cons x r ih => cases b with
    | nil => cases h
    | cons y s =>
      rw [List.map_cons, List.map_cons] at h
      injection h with h1 h2
      injection h1 with h1
      rw [h1, ih h2]
theorem encT : KeyEnc kTu where
  eq := fun a b => by
    have e : ∀ k, nk (kTu k) = some (.tup (k.map .num)) := fun k => by
      show (nks (iL k)).map NestedKey.tup = _
      rw [nks_ints]; rfl
    rw [keq_nk (e a) (e b)]
    apply decide_eq_decide.mpr
    constructor
    · intro h; injection h with h; exact num_inj h
    · intro h; rw [h]
  ok := fun kvs a h => by
    show ((match nks (iL a) with
      | some ks => Nat.ble (NestedKey.depthAll ks + 1) 8
      | none => false) && (kvs.all fun kv => isT kv.1)) = true
    rw [nks_ints]
    simp only [depth_ints]
    rw [Bool.and_eq_true]
    refine ⟨rfl, List.all_eq_true.mpr fun kv hk => ?_⟩
    obtain ⟨b, e⟩ := h kv hk
    rw [e]; rfl
  st := fun a x h => by cases h
/-! ### order of data -/
open PySem.W (dataLt alike alikeAll minD)
theorem ltT_cons {x y : PyData} {xs ys : List PyData} (h : alike x y = true) : dataLt (.tuple (x :: xs)) (.tuple (y :: ys)) = if PyData.eqv x y = true then dataLt (.tuple xs) (.tuple ys) else dataLt x y := by
  rw [PySem.W.dataLt_tuple, PySem.W.dataLt_tuple]
  cases e : PyData.eqv x y with
  | true => rw [PySem.W.dataLt_all_yes h e]; rfl
  | false => rw [PySem.W.dataLt_all_no h e]; rfl
theorem ltT_nil : dataLt (.tuple []) (.tuple []) = false := by
  rw [PySem.W.dataLt_tuple]
  decide +kernel
theorem minD_head {x : PyData} : ∀ {xs : List PyData}, (∀ y ∈ xs, dataLt y x = false) → minD x xs = x
  | [], _ => rfl
  | y :: r, h => by
    show r.foldl _ (if dataLt y x = true then y else x) = x
    rw [h y List.mem_cons_self]
    exact minD_head fun z hz => h z (List.mem_cons_of_mem _ hz)
end KF
namespace LW
open PySem KF
open PySem.W (dataLt alike alikeAll minD)
def hLt (p q : Int × Int) : Bool := decide (p.1 < q.1 ∨ (p.1 = q.1 ∧ p.2 < q.2))
theorem alike_ii (a b : Int) : alike (.int a) (.int b) = true := by rw [alike]
theorem lt_hP (p q : Int × Int) : dataLt (hP p) (hP q) = hLt p q := by
  unfold hP hLt
  rw [ltT_cons (alike_ii _ _), ltT_cons (alike_ii _ _), ltT_nil, eqv_ii, eqv_ii, PySem.W.dataLt_int, PySem.W.dataLt_int]
  by_cases h1 : p.1 = q.1
  · by_cases h2 : p.2 = q.2
    · simp [h1, h2]
    · simp [h1, h2]
  · simp [h1]
theorem alike_hP (p q : Int × Int) : alike (hP p) (hP q) = true := by
  unfold hP
  rw [alike, alikeAll, alikeAll, alikeAll, alike_ii, alike_ii]
  rfl
theorem hdL_pw (n : Nat) : (hdL n).Pairwise fun p q => hLt p q = true := by
  induction n with
  | zero => exact .nil
  | succ n ih =>
    rw [hdL_succ, List.pairwise_append]
    refine ⟨ih, ?_, fun a ha b hb => ?_⟩
    · simp [hLt]
    · have h1 := (hdL_ok ha).2.1
      simp only [List.mem_cons, List.not_mem_nil, or_false] at hb
      rcases hb with e | e <;> subst e <;> simp [hLt] <;> omega
theorem hLt_asym {p q : Int × Int} (h : hLt p q = true) : hLt q p = false := by
  unfold hLt at *
  simp only [decide_eq_true_eq, decide_eq_false_iff_not] at *
  omega
theorem hLt_ne {p q : Int × Int} (h : hLt p q = true) : p ≠ q := by
  rintro rfl
  unfold hLt at h
  simp at h
theorem hdL_nodup (n : Nat) : (hdL n).Nodup := (hdL_pw n).imp fun h => hLt_ne h
end LW
set_option Elab.async false
set_option linter.all false
set_option maxRecDepth 100000
set_option maxHeartbeats 4000000
/-! least_by: the fewest keys that tell an aim -/
namespace LW
open PySem KF
variable {P : Prog}
@[simp] theorem get_last {α : Type} (h : List α) (x : α) : (h ++ [x])[h.length]? = some x := by simp
@[simp] theorem set_last {α : Type} (h : List α) (x y : α) : (h ++ [x]).set h.length y = h ++ [y] := by
  rw [List.set_append_right _ _ (Nat.le_refl _)]; simp
theorem range_getD (ns : List Int) : (List.range ns.length).map (fun i => ns.getD i 0) = ns := by
  apply List.ext_getElem?
  intro i
  rw [List.getElem?_map]
  by_cases h : i < ns.length
  · rw [List.getElem?_range h]
    simp [h]
  · rw [List.getElem?_eq_none (by simpa using h), List.getElem?_eq_none (by omega)]
    rfl
theorem dd_spec (ns : List Int) : (ddI ns).Nodup ∧ ∀ x, x ∈ ddI ns ↔ x ∈ ns := by
  unfold ddI PyProof.Rows.firstMet
  rw [range_getD]
  have key : ∀ (ns acc : List Int), acc.Nodup → (ns.foldl PyProof.Rows.step_dedup acc).Nodup ∧ ∀ x, x ∈ ns.foldl PyProof.Rows.step_dedup acc ↔ x ∈ acc ∨ x ∈ ns := by
    intro ns
    induction ns with
    | nil => intro acc h; exact ⟨h, fun x => by simp⟩
    | cons y r ih =>
      intro acc h
      rw [List.foldl_cons]
      by_cases c : acc.any (· == y) = true
      · have e : PyProof.Rows.step_dedup acc y = acc := by unfold PyProof.Rows.step_dedup; rw [if_pos c]
        rw [e]
        obtain ⟨h1, h2⟩ := ih acc h
        refine ⟨h1, fun x => ?_⟩
        rw [h2, List.mem_cons]
        have hy : y ∈ acc := by simpa using c
        constructor
        · rintro (q | q)
          · exact .inl q
          · exact .inr (.inr q)
        · rintro (q | q | q)
          · exact .inl q
          · exact .inl (q ▸ hy)
          · exact .inr q
      · have e : PyProof.Rows.step_dedup acc y = acc ++ [y] := by unfold PyProof.Rows.step_dedup; rw [if_neg c]
        have hy : y ∉ acc := by simpa using c
        rw [e]
        obtain ⟨h1, h2⟩ := ih (acc ++ [y]) (List.nodup_append.mpr ⟨h, by simp, fun a ha b hb e' => by
          have : b = y := by simpa using hb
          exact hy (this ▸ e' ▸ ha)⟩)
        refine ⟨h1, fun x => ?_⟩
        rw [h2, List.mem_cons]
        simp [or_assoc]
  obtain ⟨h1, h2⟩ := key ns [] List.nodup_nil
  exact ⟨h1, fun x => by rw [h2]; simp⟩
theorem nodup_one {α : Type} {l : List α} (nd : l.Nodup) (ne : l ≠ []) : l.length = 1 ↔ ∀ x ∈ l, ∀ y ∈ l, x = y := by
  cases l with
  | nil => exact absurd rfl ne
  | cons a r =>
    cases r with
    | nil => simp
    | cons b s =>
      constructor
      · intro h; simp at h
      · intro h
        have := h a (by simp) b (by simp)
        rw [this] at nd
        simp at nd
def knownB (a : Bool) (ps : List (Int × Int)) : Bool := if a = true then decide (ps.length = 1) else decide ((ddI (ps.map (·.1))).length = 1)
theorem knownB_iff {a : Bool} {ps : List (Int × Int)} (nd : ps.Nodup) (ne : ps ≠ []) : knownB a ps = true ↔ ∀ p ∈ ps, ∀ q ∈ ps, unlike a p q = false := by
  unfold knownB unlike
  cases a
  · obtain ⟨d1, d2⟩ := dd_spec (ps.map (·.1))
    have ne2 : ddI (ps.map (·.1)) ≠ [] := fun z => by
      cases ps with
      | nil => exact ne rfl
      | cons x r =>
        have := (d2 x.1).mpr (by simp)
        rw [z] at this
        cases this
    simp only [Bool.false_eq_true, if_false, decide_eq_true_eq, Bool.false_and, Bool.or_false, decide_eq_false_iff_not, Decidable.not_not]
    rw [nodup_one d1 ne2]
    simp only [d2, List.mem_map]
    constructor
    · intro h p hp q hq; exact h _ ⟨p, hp, rfl⟩ _ ⟨q, hq, rfl⟩
    · rintro h x ⟨p, hp, rfl⟩ y ⟨q, hq, rfl⟩; exact h p hp q hq
  · simp only [if_true, decide_eq_true_eq, Bool.true_and]
    rw [nodup_one nd ne]
    constructor
    · intro h p hp q hq
      have := h p hp q hq
      subst this
      simp
    · intro h p hp q hq
      have := h p hp q hq
      simp only [Bool.or_eq_false_iff, decide_eq_false_iff_not, Decidable.not_not] at this
      exact this.2
theorem intsOf_keys (ps : List (Int × Int)) : intsOf (ps.map fun p => .int p.1) = some (ps.map (·.1)) := by
  induction ps with
  | nil => rfl
  | cons p r ih =>
    show (intsOf (r.map fun p => .int p.1)).map _ = _
    rw [ih]; rfl
theorem isknown_ok (H : findD P 20 = some p_is_known) (n : Nat) (h : MH) (a : Bool) (ps : List (Int × Int)) (hl : ps.length < 60) : runF P (n + 1) 20 [.py (.list (ps.map hP)), AimD a] h = .ok (.py (.bool (knownB a ps))) h := by
  rw [run_of H]
  cases a
  · have L := lcF_pureA (g := (ev (runF P n) (.tt 2 (.cons (.tn 2) (.cons (.tn 3) (.nil))))).G) (ft := (ev (runF P n) .yes).T) (fe := (ev (runF P n) (.varV 2)).E) (env := [.v (.py (.list (ps.map hP))), .v (AimD false), .u, .u]) (h := h) (D.py ∘ hP) (fun _ => true) (fun p => .int p.1) (xs := ps) (fun q hq => by
      refine ⟨[.v (.py (.list (ps.map hP))), .v (AimD false), .v (.py (.int q.1)), .v (.py (.int q.2))], ?_, rfl, fun _ => rfl⟩
      simp [callD, startE, look, lookV, Sl.get, Sl.getV, frzE, stoE, binF, addO, catL, iop, gAdd, gSub, gMul, gDiv, gMod, gPow, KF.listOf, ixU, dctAt, inUD, ninUD, inK, putU, ixO, ixD, L2.atI, L2.ixN, negD, truD, cmpF, icmp, isND, notND, isN, biF, fLen, lenD, fInt, fMax2, fMin2, fAbs, fTup, fLst, allPy, mkTup, mkLst, asI, revT, isiD, tyD, isTy, putO, putL, augF, promO, wipeE, itU, hP])
    rw [filter_true] at L
    have f4 : fits ps.length = true := fits_small (by omega)
    simp [callD, startE, look, lookV, Sl.get, Sl.getV, frzE, stoE, binF, addO, catL, iop, gAdd, gSub, gMul, gDiv, gMod, gPow, KF.listOf, ixU, dctAt, inUD, ninUD, inK, putU, ixO, ixD, L2.atI, L2.ixN, negD, truD, cmpF, icmp, isND, notND, isN, biF, fLen, lenD, fInt, fMax2, fMin2, fAbs, fTup, fLst, allPy, mkTup, mkLst, asI, revT, isiD, tyD, isTy, putO, putL, augF, promO, wipeE, itU, p_is_known, k_is_known, aimS, eqD, shal, eqv_kh, L, mkL, f4, lsO, intsOf_keys, knownB, hl, shal_int, eqv_ii]
    omega
  · simp [callD, startE, look, lookV, Sl.get, Sl.getV, frzE, stoE, binF, addO, catL, iop, gAdd, gSub, gMul, gDiv, gMod, gPow, KF.listOf, ixU, dctAt, inUD, ninUD, inK, putU, ixO, ixD, L2.atI, L2.ixN, negD, truD, cmpF, icmp, isND, notND, isN, biF, fLen, lenD, fInt, fMax2, fMin2, fAbs, fTup, fLst, allPy, mkTup, mkLst, asI, revT, isiD, tyD, isTy, putO, putL, augF, promO, wipeE, itU, p_is_known, k_is_known, aimS, eqD, shal, shal_int, eqv_hh, eqv_ii, knownB]
    omega
/-! ### the groups -/
def gV (ps : List (Int × Int)) : PyData := .list (ps.map hP)
def rowsG (r : List Int) (m : Nat) (ps : List (Int × Int)) : List (List Int × (Int × Int)) := ps.map fun p => (feltL r p m, p)
def fineB (r : List Int) (a : Bool) (m : Nat) : Bool := (grpG (rowsG r m (hdL r.length))).all fun x => knownB a x.2
theorem grpOf_rows (r : List Int) (m : Nat) (ps : List (Int × Int)) (k : List Int) : grpOf (rowsG r m ps) k = ps.filter fun p => decide (feltL r p m = k) := by
  unfold grpOf rowsG
  rw [List.filter_map, List.map_map]
  exact List.map_id' _
theorem fineB_iff (r : List Int) (a : Bool) (m : Nat) : fineB r a m = true ↔ ∀ p ∈ hdL r.length, ∀ q ∈ hdL r.length, feltL r p m = feltL r q m → unlike a p q = false := by
  unfold fineB
  rw [List.all_eq_true]
  have nd := hdL_nodup r.length
  constructor
  · intro h p hp q hq e
    have mem : (feltL r p m, grpOf (rowsG r m (hdL r.length)) (feltL r p m)) ∈ grpG (rowsG r m (hdL r.length)) := (grp_mem _ _ _).mpr ⟨by
      unfold rowsG; rw [List.map_map]; exact List.mem_map.mpr ⟨p, hp, rfl⟩, rfl⟩
    have k := h _ mem
    rw [grpOf_rows] at k
    have m1 : p ∈ (hdL r.length).filter fun x => decide (feltL r x m = feltL r p m) := List.mem_filter.mpr ⟨hp, by simp⟩
    have m2 : q ∈ (hdL r.length).filter fun x => decide (feltL r x m = feltL r p m) := List.mem_filter.mpr ⟨hq, by simp [e]⟩
    exact (knownB_iff (nd.filter _) (fun z => by rw [z] at m1; cases m1)).mp k p m1 q m2
  · rintro h ⟨k, b⟩ hx
    obtain ⟨h1, h2⟩ := (grp_mem _ _ _).mp hx
    subst h2
    show knownB a (grpOf (rowsG r m (hdL r.length)) k) = true
    rw [grpOf_rows]
    unfold rowsG at h1
    rw [List.map_map] at h1
    obtain ⟨p, hp, e⟩ := List.mem_map.mp h1
    have e : feltL r p m = k := e
    refine (knownB_iff (nd.filter _) (fun z => ?_)).mpr fun x hx y hy => ?_
    · have : p ∈ (hdL r.length).filter fun x => decide (feltL r x m = k) := List.mem_filter.mpr ⟨hp, by simp [e]⟩
      rw [z] at this; cases this
    · obtain ⟨x1, x2⟩ := List.mem_filter.mp hx
      obtain ⟨y1, y2⟩ := List.mem_filter.mp hy
      exact h x x1 y y1 ((of_decide_eq_true x2).trans (of_decide_eq_true y2).symm)
theorem lookG_getD (G : List (List Int × List (Int × Int))) (k : List Int) : ((lookG G k).map gV).getD (.list []) = gV ((lookG G k).getD []) := by
  cases lookG G k <;> rfl
theorem groups_loop {F : FnS} {h : MH} {r : List Int} {a : D} {m : Nat} (hr : r.length ≤ 9) (hf : ∀ h q, HdOk r.length q → F 7 [TI r, .py (hP q), .py (.int m)] h = .ok (TI (feltL r q m)) h) (s4 s5 : Sl) (no : ∀ xs, s5 ≠ .o xs) :
    ∃ s4' s5', (∀ xs, s5' ≠ .o xs) ∧ forF (ev F (.tn 4)).G (ev F b_least_by_1).S ((hdL r.length).map (D.py ∘ hP)) [.v (TI r), .v a, .v (.py (.int m)), .v (.loc h.length), s4, s5] (h ++ [.dct []])
      = .nx [.v (TI r), .v a, .v (.py (.int m)), .v (.loc h.length), s4', s5'] (h ++ [.dct (encG kTu gV (grpG (rowsG r m (hdL r.length))))]) := by
  obtain ⟨env', h', e, ⟨s4', s5', i1, i3⟩, i2⟩ := forF_rel (g := (ev F (.tn 4)).G) (b := (ev F b_least_by_1).S) (D.py ∘ hP) (fun pre env h' => (∃ s4 s5, env = [.v (TI r), .v a, .v (.py (.int m)), .v (.loc h.length), s4, s5] ∧ ∀ xs, s5 ≠ .o xs) ∧ h' = h ++ [.dct (encG kTu gV (grpG (rowsG r m pre)))]) (hdL r.length)
    (fun pre x suf env h' e ⟨⟨s4, s5, e1, e5⟩, e2⟩ => by
      subst e1 e2
      have hx : HdOk r.length x := hdL_ok (by rw [e]; simp)
      have fx := hf (h ++ [.dct (encG kTu gV (grpG (rowsG r m pre)))]) x hx
      have hlen : pre.length < 18 := by
        have := congrArg List.length e
        rw [hdL_len] at this
        simp at this
        omega
      have gl := grp_len (rowsG r m pre)
      have gl2 : (rowsG r m pre).length = pre.length := by simp [rowsG]
      have f1 : fits (((lookG (grpG (rowsG r m pre)) (feltL r x m)).getD []).length + 1) = true := by
        rw [grp_look]
        apply fits_small
        split
        · rw [grpOf_rows]
          have := List.length_filter_le (fun p => decide (feltL r p m = feltL r x m)) pre
          show ((some (pre.filter fun p => decide (feltL r p m = feltL r x m))).getD []).length + 1 ≤ _
          simp only [Option.getD_some]
          omega
        · simp
      have f2 : (grpG (rowsG r m pre)).length < 16000000 := by omega
      have kt : PyData.tuple (iL (feltL r x m)) = kTu (feltL r x m) := rfl
      have gv : ∀ ps q, PyData.list (ps.map hP ++ [hP q]) = gV (ps ++ [q]) := fun ps q => by simp [gV]
      have e3 : rowsG r m (pre ++ [x]) = rowsG r m pre ++ [(feltL r x m, x)] := by simp [rowsG]
      refine ⟨_, [.v (TI r), .v a, .v (.py (.int m)), .v (.loc h.length), .v (.py (hP x)), .v (TI (feltL r x m))], _, rfl, ?_, ⟨_, _, rfl, fun _ z => nomatch z⟩, rfl⟩
      rw [e3, grp_snoc, ← putK_enc encT]
      simp [callD, startE, look, lookV, Sl.get, Sl.getV, frzE, stoE, binF, addO, catL, iop, gAdd, gSub, gMul, gDiv, gMod, gPow, KF.listOf, ixU, dctAt, inUD, ninUD, inK, putU, ixO, ixD, L2.atI, L2.ixN, negD, truD, cmpF, icmp, isND, notND, isN, biF, fLen, lenD, fInt, fMax2, fMin2, fAbs, fTup, fLst, allPy, mkTup, mkLst, asI, revT, isiD, tyD, isTy, putO, putL, augF, promO, wipeE, itU, b_least_by_1, fx, getX, dctAt, kt, kOk_enc encT, getK_enc encT, lookG_getD, putD, dctW, encG_len, f2]
      simp only [gV, List.length_map, List.length_singleton]
      rw [if_pos f1]
      simp [callD, startE, look, lookV, Sl.get, Sl.getV, frzE, stoE, binF, addO, catL, iop, gAdd, gSub, gMul, gDiv, gMod, gPow, KF.listOf, ixU, dctAt, inUD, ninUD, inK, putU, ixO, ixD, L2.atI, L2.ixN, negD, truD, cmpF, icmp, isND, notND, isN, biF, fLen, lenD, fInt, fMax2, fMin2, fAbs, fTup, fLst, allPy, mkTup, mkLst, asI, revT, isiD, tyD, isTy, putO, putL, augF, promO, wipeE, itU, kt, kOk_enc encT, putD, dctW, encG_len, f2]) [.v (TI r), .v a, .v (.py (.int m)), .v (.loc h.length), s4, s5] (h ++ [.dct []]) ⟨⟨s4, s5, rfl, no⟩, rfl⟩
  subst i1 i2
  exact ⟨s4', s5', i3, e⟩
theorem look_of {G : List (List Int × List (Int × Int))} (nd : (G.map (·.1)).Nodup) {x : List Int × List (Int × Int)} (hx : x ∈ G) : lookG G x.1 = some x.2 := (lookG_mem nd).mp hx
/-- the groups that tell nothing -/
theorem bad_ok {F : FnS} {h : MH} {r : List Int} {a : Bool} {m : Nat} (hr : r.length ≤ 9) (hf : ∀ h ps, ps.length < 60 → F 20 [.py (.list (ps.map hP)), AimD a] h = .ok (.py (.bool (knownB a ps))) h) (s4 s5 : Sl) (no : ∀ xs, s5 ≠ .o xs) :
    (ev F (.no (.lk 3 (.lc [5] (.tn 5) (.dk 3) (t_least_by_1) (.varV 5))))).T [.v (TI r), .v (AimD a), .v (.py (.int m)), .v (.loc h.length), s4, s5] (h ++ [.dct (encG kTu gV (grpG (rowsG r m (hdL r.length))))])
      = .ok (fineB r a m) (h ++ [.dct (encG kTu gV (grpG (rowsG r m (hdL r.length))))]) := by
  generalize hG : grpG (rowsG r m (hdL r.length)) = G
  have nd : (G.map (·.1)).Nodup := by rw [← hG]; exact grp_nodup _
  have gl : G.length ≤ 18 := by
    rw [← hG]
    refine Nat.le_trans (grp_len _) ?_
    simp [rowsG, hdL_len]; omega
  have pl : ∀ x ∈ G, x.2.length < 60 := fun x hx => by
    rw [← hG] at hx
    obtain ⟨_, e⟩ := (grp_mem _ x.1 x.2).mp hx
    rw [e, grpOf_rows]
    refine Nat.lt_of_le_of_lt (List.length_filter_le _ _) ?_
    rw [hdL_len]; omega
  have L := lcF_pureA (g := (ev F (.tn 5)).G) (ft := (ev F t_least_by_1).T) (fe := (ev F (.varV 5)).E) (env := [.v (TI r), .v (AimD a), .v (.py (.int m)), .v (.loc h.length), s4, .u]) (h := h ++ [.lck (encG kTu gV G)]) (fun x => .py (kTu x.1)) (fun x => !knownB a x.2) (fun x => kTu x.1) (xs := G) (fun x hx => by
    refine ⟨_, rfl, ?_, fun _ => rfl⟩
    have e1 := hf (h ++ [.lck (encG kTu gV G)]) x.2 (pl x hx)
    simp [callD, startE, look, lookV, Sl.get, Sl.getV, frzE, stoE, binF, addO, catL, iop, gAdd, gSub, gMul, gDiv, gMod, gPow, KF.listOf, ixU, dctAt, inUD, ninUD, inK, putU, ixO, ixD, L2.atI, L2.ixN, negD, truD, cmpF, icmp, isND, notND, isN, biF, fLen, lenD, fInt, fMax2, fMin2, fAbs, fTup, fLst, allPy, mkTup, mkLst, asI, revT, isiD, tyD, isTy, putO, putL, augF, promO, wipeE, itU, t_least_by_1, getD', kOk_enc encT, getK_enc encT, look_of nd hx, gV, e1])
  have f4 : fits (G.filter fun x => !knownB a x.2).length = true := fits_small (Nat.le_trans (List.length_filter_le _ _) (by omega))
  have e2 : fineB r a m = (G.filter fun x => !knownB a x.2).isEmpty := by
    unfold fineB
    rw [hG]
    clear L f4 pl gl nd hG
    induction G with
    | nil => rfl
    | cons x q ih =>
      rw [List.all_cons, List.filter_cons, ih]
      cases knownB a x.2 <;> simp
  cases s5 with
  | o xs => exact absurd rfl (no xs)
  | u =>
    simp [callD, startE, look, lookV, Sl.get, Sl.getV, frzE, stoE, binF, addO, catL, iop, gAdd, gSub, gMul, gDiv, gMod, gPow, KF.listOf, ixU, dctAt, inUD, ninUD, inK, putU, ixO, ixD, L2.atI, L2.ixN, negD, truD, cmpF, icmp, isND, notND, isN, biF, fLen, lenD, fInt, fMax2, fMin2, fAbs, fTup, fLst, allPy, mkTup, mkLst, asI, revT, isiD, tyD, isTy, putO, putL, augF, promO, wipeE, itU, dctO, lckAt, sKs_enc encT, keysL_enc, L, mkL, f4, unlkE, freeD]
    rw [e2]
  | v d =>
    simp [callD, startE, look, lookV, Sl.get, Sl.getV, frzE, stoE, binF, addO, catL, iop, gAdd, gSub, gMul, gDiv, gMod, gPow, KF.listOf, ixU, dctAt, inUD, ninUD, inK, putU, ixO, ixD, L2.atI, L2.ixN, negD, truD, cmpF, icmp, isND, notND, isN, biF, fLen, lenD, fInt, fMax2, fMin2, fAbs, fTup, fLst, allPy, mkTup, mkLst, asI, revT, isiD, tyD, isTy, putO, putL, augF, promO, wipeE, itU, dctO, lckAt, sKs_enc encT, keysL_enc, L, mkL, f4, unlkE, freeD]
    rw [e2]
def optI : Option Nat → PyData
  | none => .none
  | some m => .int m
/-- the fewest keys that tell an aim -/
def leastM (r : List Int) (a : Bool) : Option Nat := (List.range (r.length + 1)).find? (fineB r a)
theorem find_snoc {p : Nat → Bool} {n : Nat} (h : (List.range n).find? p = none) : (List.range (n + 1)).find? p = if p n = true then some n else none := by
  rw [List.range_succ, List.find?_append, h]
  cases q : p n <;> simp [q]
theorem find_first {p : Nat → Bool} {n m : Nat} (h : (List.range m).find? p = none) (hm : m < n) (hp : p m = true) : (List.range n).find? p = some m := by
  obtain ⟨k, rfl⟩ : ∃ k, n = m + 1 + k := ⟨n - (m + 1), by omega⟩
  rw [List.range_add, List.find?_append, find_snoc h, if_pos hp]
  rfl
theorem leastby_ok (H6 : findD P 6 = some p_shape_at) (H7 : findD P 7 = some p_felt_by) (H9 : findD P 9 = some p_all_holds) (H20 : findD P 20 = some p_is_known) (H : findD P 21 = some p_least_by) (n : Nat) (h : MH) (r : List Int) (hr : 1 ≤ r.length) (hl : r.length ≤ 9) (a : Bool) :
    ∃ j, runF P (n + 3) 21 [TI r, AimD a] h = .ok (.py (optI (leastM r a))) (h ++ j) := by
  rw [run_of H]
  have f7 : ∀ (m : Nat), m ≤ 9 → ∀ h q, HdOk r.length q → runF P (n + 2) 7 [TI r, .py (hP q), .py (.int m)] h = .ok (TI (feltL r q m)) h := fun m hm h q hq => feltby_ok H6 H7 n h r hr q (by rcases hq.2.2 with z | z <;> omega) m (by omega)
  have f20 : ∀ h ps, ps.length < 60 → runF P (n + 2) 20 [.py (.list (ps.map hP)), AimD a] h = .ok (.py (.bool (knownB a ps))) h := fun h ps hp => isknown_ok H20 (n + 1) h a ps hp
  have f9 : ∀ h, runF P (n + 2) 9 [TI r] h = .ok (.py (.list ((hdL r.length).map hP))) h := fun h => allholds_ok H9 (n + 1) h r hl
  have L := forF_exit (g := (ev (runF P (n + 2)) (.tn 2)).G) (b := (ev (runF P (n + 2)) b_least_by_2).S) (fun (k : Nat) => D.py (.int (k : Nat)))
    (fun pre env h' => (∃ s2 s3 s4 s5, env = [.v (TI r), .v (AimD a), s2, s3, s4, s5] ∧ ∀ xs, s5 ≠ .o xs) ∧ (∃ j, h' = h ++ j) ∧ pre = List.range pre.length ∧ (List.range pre.length).find? (fineB r a) = none)
    (fun d h' => (∃ j, h' = h ++ j) ∧ d = .py (optI (leastM r a))) (List.range (r.length + 1)) (fun pre m suf env h' e ⟨⟨s2, s3, s4, s5, e1, e5⟩, ⟨j, e2⟩, e3, e4⟩ => by
      subst e1 e2
      have hm : m = pre.length ∧ m < r.length + 1 := by
        have q := congrArg (fun l => l[pre.length]?) e
        have hl2 : pre.length < r.length + 1 := by
          have := congrArg List.length e
          simp at this; omega
        simp [hl2] at q
        omega
      obtain ⟨hm1, hm2⟩ := hm
      refine ⟨_, rfl, ?_⟩
      obtain ⟨s4', s5', no5, g1⟩ := groups_loop (F := runF P (n + 2)) (h := h ++ j) (r := r) (a := AimD a) (m := m) hl (f7 m (by omega)) s4 s5 e5
      have g2 := bad_ok (F := runF P (n + 2)) (h := h ++ j) (r := r) (a := a) (m := m) hl f20 s4' s5' no5
      have f9' := f9 (h ++ j ++ [.dct []])
      have pm : pre ++ [m] = List.range (pre ++ [m]).length := by
        rw [List.length_append, List.length_singleton, List.range_succ, ← e3, hm1]
      have key : (ev (runF P (n + 2)) b_least_by_2).S [.v (TI r), .v (AimD a), .v (.py (.int m)), s3, s4, s5] (h ++ j) = if fineB r a m = true then .rt (.py (.int m)) (h ++ j ++ [.dct (encG kTu gV (grpG (rowsG r m (hdL r.length))))]) else .nx [.v (TI r), .v (AimD a), .v (.py (.int m)), .v (.loc (h ++ j).length), s4', s5'] (h ++ j ++ [.dct (encG kTu gV (grpG (rowsG r m (hdL r.length))))]) := by
        unfold b_least_by_2
        rw [S_sq, S_asg, E_dnew, toS_ok]
        simp only [G_tn, List.length_cons, List.length_nil, Nat.reduceAdd, Nat.reduceLT, if_true, List.set_cons_succ, List.set_cons_zero, thn_nx, S_sq, S_fr, I_seq, E_fn, A_cons, A_nil, E_varV, lookV, List.getElem?_cons_zero, Option.bind_some, Sl.getV, lift_some, bind_ok, f9', itU, List.map_map, toS_ok, g1, S_ite, g2]
        cases fineB r a m <;> simp [callD, startE, look, lookV, Sl.get, Sl.getV, frzE, stoE, binF, addO, catL, iop, gAdd, gSub, gMul, gDiv, gMod, gPow, KF.listOf, ixU, dctAt, inUD, ninUD, inK, putU, ixO, ixD, L2.atI, L2.ixN, negD, truD, cmpF, icmp, isND, notND, isN, biF, fLen, lenD, fInt, fMax2, fMin2, fAbs, fTup, fLst, allPy, mkTup, mkLst, asI, revT, isiD, tyD, isTy, putO, putL, augF, promO, wipeE, itU]
      rw [← hm1] at e4
      show (∃ env' h', (ev (runF P (n + 2)) b_least_by_2).S [.v (TI r), .v (AimD a), .v (.py (.int m)), s3, s4, s5] (h ++ j) = .nx env' h' ∧ _) ∨ ∃ d h', (ev (runF P (n + 2)) b_least_by_2).S [.v (TI r), .v (AimD a), .v (.py (.int m)), s3, s4, s5] (h ++ j) = .rt d h' ∧ _
      rw [key]
      cases hf : fineB r a m with
      | true =>
        refine .inr ⟨_, _, rfl, ⟨j ++ [.dct (encG kTu gV (grpG (rowsG r m (hdL r.length))))], by simp⟩, ?_⟩
        unfold leastM
        rw [find_first e4 hm2 hf]
        rfl
      | false =>
        refine .inl ⟨_, _, rfl, ⟨_, _, _, _, rfl, no5⟩, ⟨j ++ [.dct (encG kTu gV (grpG (rowsG r m (hdL r.length))))], by simp⟩, pm, ?_⟩
        rw [List.length_append, List.length_singleton, ← hm1, find_snoc e4, hf]
        rfl) [.v (TI r), .v (AimD a), .u, .u, .u, .u] h ⟨⟨_, _, _, _, rfl, fun _ z => nomatch z⟩, ⟨[], by simp⟩, rfl, rfl⟩
  rw [← rngL_map] at L
  have z1 : rng1 [.py (.int ((r.length : Int) + 1))] = some (rngL 0 (r.length + 1)) := rng1_nat (r.length + 1) (by omega)
  rcases L with ⟨env', h', e, ⟨s2, s3, s4, s5, e1, _⟩, ⟨j, e2⟩, _, e4⟩ | ⟨d, h', e, ⟨j, e2⟩, e3⟩
  · subst e1 e2
    refine ⟨j, ?_⟩
    have : leastM r a = none := by
      unfold leastM
      simpa using e4
    rw [this]
    simp [callD, startE, look, lookV, Sl.get, Sl.getV, frzE, stoE, binF, addO, catL, iop, gAdd, gSub, gMul, gDiv, gMod, gPow, KF.listOf, ixU, dctAt, inUD, ninUD, inK, putU, ixO, ixD, L2.atI, L2.ixN, negD, truD, cmpF, icmp, isND, notND, isN, biF, fLen, lenD, fInt, fMax2, fMin2, fAbs, fTup, fLst, allPy, mkTup, mkLst, asI, revT, isiD, tyD, isTy, putO, putL, augF, promO, wipeE, itU, p_least_by, k_least_by, iL_len, z1, e, optI]
  · subst e2 e3
    refine ⟨j, ?_⟩
    simp [callD, startE, look, lookV, Sl.get, Sl.getV, frzE, stoE, binF, addO, catL, iop, gAdd, gSub, gMul, gDiv, gMod, gPow, KF.listOf, ixU, dctAt, inUD, ninUD, inK, putU, ixO, ixD, L2.atI, L2.ixN, negD, truD, cmpF, icmp, isND, notND, isN, biF, fLen, lenD, fInt, fMax2, fMin2, fAbs, fTup, fLst, allPy, mkTup, mkLst, asI, revT, isiD, tyD, isTy, putO, putL, augF, promO, wipeE, itU, p_least_by, k_least_by, iL_len, z1, e]
end LW
set_option Elab.async false
set_option linter.all false
set_option maxRecDepth 100000
set_option maxHeartbeats 4000000
/-! least_felt, alike_pair; pairs of holds -/
namespace LW
open PySem KF
variable {P : Prog}
theorem leastfelt_ok (C : Chk P) (a3 : findD P 3 = some p_check_ring) (H19 : findD P 19 = some p_check_aim) (H6 : findD P 6 = some p_shape_at) (H7 : findD P 7 = some p_felt_by) (H9 : findD P 9 = some p_all_holds) (H20 : findD P 20 = some p_is_known) (H21 : findD P 21 = some p_least_by) (H : findD P 22 = some p_least_felt)
    (n : Nat) (h : MH) (r : List Int) (hr : Ring 9 r) (a : Bool) : ∃ j, runF P (n + 5) 22 [TI r, AimD a] h = .ok (.py (optI (leastM r a))) (h ++ j) := by
  rw [run_of H]
  have h1 := chkring_ok C a3 n h r hr
  have h2 := aim_ok H19 (n + 3) h a
  obtain ⟨j, h3⟩ := leastby_ok H6 H7 H9 H20 H21 (n + 1) h r hr.1 hr.2.1 a
  refine ⟨j, ?_⟩
  simp [callD, startE, look, lookV, Sl.get, Sl.getV, frzE, stoE, binF, addO, catL, iop, gAdd, gSub, gMul, gDiv, gMod, gPow, KF.listOf, ixU, dctAt, inUD, ninUD, inK, putU, ixO, ixD, L2.atI, L2.ixN, negD, truD, cmpF, icmp, isND, notND, isN, biF, fLen, lenD, fInt, fMax2, fMin2, fAbs, fTup, fLst, allPy, mkTup, mkLst, asI, revT, isiD, tyD, isTy, putO, putL, augF, promO, wipeE, itU, p_least_felt, k_least_felt, h1, h2, h3]
/-! ### pairs -/
/-- all pairs, the earlier one first -/
def prs : List (Int × Int) → List ((Int × Int) × (Int × Int))
  | [] => []
  | p :: r => r.map (fun q => (p, q)) ++ prs r
def pairP (x : (Int × Int) × (Int × Int)) : PyData := .tuple [hP x.1, hP x.2]
def barB (r : List Int) (a : Bool) (x : (Int × Int) × (Int × Int)) : Bool := unlike a x.1 x.2 && decide (feltL r x.1 r.length = feltL r x.2 r.length)
def pairO : Option ((Int × Int) × (Int × Int)) → PyData
  | none => .none
  | some x => pairP x
def alikeM (r : List Int) (a : Bool) : Option ((Int × Int) × (Int × Int)) := (prs (hdL r.length)).find? (barB r a)
section
variable {a : Bool} {r : List Int} {F : FnS} {h : MH} (hk : ∀ p q, F 20 [.py (.list [hP p, hP q]), AimD a] h = .ok (.py (.bool (!a && decide (p.1 = q.1)))) h) (hf : ∀ p, HdOk r.length p → F 7 [TI r, .py (hP p), .py (.int r.length)] h = .ok (TI (feltL r p r.length)) h)
include hk hf
theorem innA {p : Int × Int} (hp : HdOk r.length p) {s2 s3 : Sl} : ∀ (qs : List (Int × Int)) (s5 : Sl), (∀ q ∈ qs, HdOk r.length q ∧ p ≠ q) →
    ∃ s5', forF (ev F (.tn 5)).G (ev F b_alike_pair_1).S (qs.map (D.py ∘ hP)) [.v (TI r), .v (AimD a), s2, s3, .v (.py (hP p)), s5] h
      = match (qs.map (fun q => (p, q))).find? (barB r a) with
        | some x => .rt (.py (pairP x)) h
        | none => .nx [.v (TI r), .v (AimD a), s2, s3, .v (.py (hP p)), s5'] h
  | [], s5, _ => ⟨s5, rfl⟩
  | q :: qs, s5, hq => by
    obtain ⟨q1, q2⟩ := hq q List.mem_cons_self
    obtain ⟨s5', e⟩ := innA hp (s2 := s2) (s3 := s3) qs (.v (.py (hP q))) fun x hx => hq x (List.mem_cons_of_mem _ hx)
    have e1 := hk p q
    have f1 := hf p hp
    have f2 := hf q q1
    rw [List.map_cons, List.map_cons, List.find?_cons]
    by_cases u : unlike a p q = true
    · have kk : (!a && decide (p.1 = q.1)) = false := by
        unfold unlike at u
        cases a <;> simp_all
      rw [kk] at e1
      by_cases c : feltL r p r.length = feltL r q r.length
      · have b : barB r a (p, q) = true := by simp [barB, u, c]
        rw [b]
        refine ⟨s5, ?_⟩
        simp [forF, callD, startE, look, lookV, Sl.get, Sl.getV, frzE, stoE, binF, addO, catL, iop, gAdd, gSub, gMul, gDiv, gMod, gPow, KF.listOf, ixU, dctAt, inUD, ninUD, inK, putU, ixO, ixD, L2.atI, L2.ixN, negD, truD, cmpF, icmp, isND, notND, isN, biF, fLen, lenD, fInt, fMax2, fMin2, fAbs, fTup, fLst, allPy, mkTup, mkLst, asI, revT, isiD, tyD, isTy, putO, putL, augF, promO, wipeE, itU, b_alike_pair_1, e1, f1, f2, iL_len, eqD, shal_T, eqv_T, c, pairP]
      · have b : barB r a (p, q) = false := by simp [barB, c]
        rw [b]
        refine ⟨s5', ?_⟩
        simp [forF, callD, startE, look, lookV, Sl.get, Sl.getV, frzE, stoE, binF, addO, catL, iop, gAdd, gSub, gMul, gDiv, gMod, gPow, KF.listOf, ixU, dctAt, inUD, ninUD, inK, putU, ixO, ixD, L2.atI, L2.ixN, negD, truD, cmpF, icmp, isND, notND, isN, biF, fLen, lenD, fInt, fMax2, fMin2, fAbs, fTup, fLst, allPy, mkTup, mkLst, asI, revT, isiD, tyD, isTy, putO, putL, augF, promO, wipeE, itU, b_alike_pair_1, e1, f1, f2, iL_len, eqD, shal_T, eqv_T, c] at e ⊢
        exact e
    · have u' : unlike a p q = false := by simpa using u
      have kk : (!a && decide (p.1 = q.1)) = true := by
        unfold unlike at u'
        cases a <;> simp_all
      rw [kk] at e1
      have b : barB r a (p, q) = false := by simp [barB, u']
      rw [b]
      refine ⟨s5', ?_⟩
      simp [forF, callD, startE, look, lookV, Sl.get, Sl.getV, frzE, stoE, binF, addO, catL, iop, gAdd, gSub, gMul, gDiv, gMod, gPow, KF.listOf, ixU, dctAt, inUD, ninUD, inK, putU, ixO, ixD, L2.atI, L2.ixN, negD, truD, cmpF, icmp, isND, notND, isN, biF, fLen, lenD, fInt, fMax2, fMin2, fAbs, fTup, fLst, allPy, mkTup, mkLst, asI, revT, isiD, tyD, isTy, putO, putL, augF, promO, wipeE, itU, b_alike_pair_1, e1] at e ⊢
      exact e
theorem outA {hs : List PyData} : ∀ (ps pre : List (Int × Int)) (s3 s4 s5 : Sl), (∀ q ∈ pre ++ ps, HdOk r.length q) → (pre ++ ps).Nodup → hs = (pre ++ ps).map hP →
    ∃ s3' s4' s5', forF (ev F (.tt 2 (.cons (.tn 3) (.cons (.tn 4) (.nil))))).G (ev F b_alike_pair_2).S ((ps.zipIdx pre.length).map fun x => .py (.tuple [.int (x.2 : Nat), hP x.1])) [.v (TI r), .v (AimD a), .v (.py (.list hs)), s3, s4, s5] h
      = match (prs ps).find? (barB r a) with
        | some x => .rt (.py (pairP x)) h
        | none => .nx [.v (TI r), .v (AimD a), .v (.py (.list hs)), s3', s4', s5'] h
  | [], pre, s3, s4, s5, _, _, _ => ⟨s3, s4, s5, rfl⟩
  | p :: ps, pre, s3, s4, s5, hq, nd, eh => by
    have nd2 : ∀ q ∈ ps, HdOk r.length q ∧ p ≠ q := fun q h => by
      refine ⟨hq q (by simp [h]), fun z => ?_⟩
      have := (List.nodup_append.mp nd).2.1
      rw [List.nodup_cons] at this
      exact this.1 (z ▸ h)
    obtain ⟨s5', e1⟩ := innA hk hf (hq p (by simp)) (s2 := .v (.py (.list hs))) (s3 := .v (.py (.int (pre.length : Nat)))) ps s5 nd2
    obtain ⟨t3, t4, t5, e2⟩ := outA (hs := hs) ps (pre ++ [p]) (.v (.py (.int (pre.length : Nat)))) (.v (.py (hP p))) s5' (by simpa using hq) (by simpa using nd) (by rw [eh]; simp)
    rw [List.zipIdx_cons, List.map_cons, forF_cons]
    have hc : cut hs (some ((pre.length : Int) + 1)) none = ps.map hP := by
      rw [cut_from _ _ (by omega), eh]
      have : ((pre.length : Int) + 1).toNat = (pre ++ [p]).length := by simp
      rw [this, List.map_append, List.map_cons, show pre.map hP ++ hP p :: ps.map hP = (pre ++ [p]).map hP ++ ps.map hP by simp, show (pre ++ [p]).length = ((pre ++ [p]).map hP).length by simp, List.drop_left]
    have l2 : (pre ++ [p]).length = pre.length + 1 := by simp
    rw [l2] at e2
    have ep : prs (p :: ps) = ps.map (fun q => (p, q)) ++ prs ps := rfl
    rw [ep, List.find?_append]
    cases c : (ps.map (fun q => (p, q))).find? (barB r a) with
    | some x =>
      rw [c] at e1
      refine ⟨s3, s4, s5, ?_⟩
      simp [callD, startE, look, lookV, Sl.get, Sl.getV, frzE, stoE, binF, addO, catL, iop, gAdd, gSub, gMul, gDiv, gMod, gPow, KF.listOf, ixU, dctAt, inUD, ninUD, inK, putU, ixO, ixD, L2.atI, L2.ixN, negD, truD, cmpF, icmp, isND, notND, isN, biF, fLen, lenD, fInt, fMax2, fMin2, fAbs, fTup, fLst, allPy, mkTup, mkLst, asI, revT, isiD, tyD, isTy, putO, putL, augF, promO, wipeE, itU, b_alike_pair_2, cutU, hc, e1]
    | none =>
      rw [c] at e1
      refine ⟨t3, t4, t5, ?_⟩
      simp [callD, startE, look, lookV, Sl.get, Sl.getV, frzE, stoE, binF, addO, catL, iop, gAdd, gSub, gMul, gDiv, gMod, gPow, KF.listOf, ixU, dctAt, inUD, ninUD, inK, putU, ixO, ixD, L2.atI, L2.ixN, negD, truD, cmpF, icmp, isND, notND, isN, biF, fLen, lenD, fInt, fMax2, fMin2, fAbs, fTup, fLst, allPy, mkTup, mkLst, asI, revT, isiD, tyD, isTy, putO, putL, augF, promO, wipeE, itU, b_alike_pair_2, cutU, hc, e1]
      exact e2
end
theorem enumD_map (xs : List (Int × Int)) : enumD (xs.map hP) = (xs.zipIdx 0).map fun x => .py (.tuple [.int (x.2 : Nat), hP x.1]) := by
  unfold enumD
  rw [List.zipIdx_map, List.map_map]
  rfl
theorem alikepair_ok (C : Chk P) (a3 : findD P 3 = some p_check_ring) (H19 : findD P 19 = some p_check_aim) (H6 : findD P 6 = some p_shape_at) (H7 : findD P 7 = some p_felt_by) (H9 : findD P 9 = some p_all_holds) (H20 : findD P 20 = some p_is_known) (H : findD P 23 = some p_alike_pair)
    (n : Nat) (h : MH) (r : List Int) (hr : Ring 9 r) (a : Bool) : runF P (n + 5) 23 [TI r, AimD a] h = .ok (.py (pairO (alikeM r a))) h := by
  rw [run_of H]
  have h1 := chkring_ok C a3 n h r hr
  have h2 := aim_ok H19 (n + 3) h a
  have hl := hr.2.1
  have h3 := allholds_ok H9 (n + 3) h r hl
  obtain ⟨s3, s4, s5, e⟩ := outA (a := a) (r := r) (F := runF P (n + 4)) (h := h) (fun p q => isknown2 H20 (n + 3) h a p q) (fun p hp => feltby_ok H6 H7 (n + 2) h r hr.1 p (by rcases hp.2.2 with z | z <;> omega) r.length (by omega)) (hs := (hdL r.length).map hP) (hdL r.length) [] .u .u .u (fun q hq => hdL_ok hq) (hdL_nodup _) rfl
  rw [List.length_nil, ← enumD_map] at e
  unfold alikeM
  cases c : (prs (hdL r.length)).find? (barB r a) with
  | some x =>
    rw [c] at e
    simp [callD, startE, look, lookV, Sl.get, Sl.getV, frzE, stoE, binF, addO, catL, iop, gAdd, gSub, gMul, gDiv, gMod, gPow, KF.listOf, ixU, dctAt, inUD, ninUD, inK, putU, ixO, ixD, L2.atI, L2.ixN, negD, truD, cmpF, icmp, isND, notND, isN, biF, fLen, lenD, fInt, fMax2, fMin2, fAbs, fTup, fLst, allPy, mkTup, mkLst, asI, revT, isiD, tyD, isTy, putO, putL, augF, promO, wipeE, itU, p_alike_pair, k_alike_pair, h1, h2, h3, enumO, e, pairO]
  | none =>
    rw [c] at e
    simp [callD, startE, look, lookV, Sl.get, Sl.getV, frzE, stoE, binF, addO, catL, iop, gAdd, gSub, gMul, gDiv, gMod, gPow, KF.listOf, ixU, dctAt, inUD, ninUD, inK, putU, ixO, ixD, L2.atI, L2.ixN, negD, truD, cmpF, icmp, isND, notND, isN, biF, fLen, lenD, fInt, fMax2, fMin2, fAbs, fTup, fLst, allPy, mkTup, mkLst, asI, revT, isiD, tyD, isTy, putO, putL, augF, promO, wipeE, itU, p_alike_pair, k_alike_pair, h1, h2, h3, enumO, e, pairO]
end LW
set_option Elab.async false
set_option linter.all false
set_option maxRecDepth 100000
set_option maxHeartbeats 4000000
/-! pairs that must be told apart; what tells them apart first -/
namespace KF
open PySem
theorem forF_findR {g : TgF} {b : EvS} {h : MH} (t : Nat → Bool) (ret : Nat → D) (E : Sl → KF.Env) (n : Nat) (hg : ∀ s (k : Nat), g (.py (.int k)) (E s) = some (E (.v (.py (.int k)))))
    (hb : ∀ k : Nat, k < n → b (E (.v (.py (.int k)))) h = if t k = true then .rt (ret k) h else .nx (E (.v (.py (.int k)))) h) (s : Sl) :
    ∃ s', forF g b (rngL 0 n) (E s) h = match (List.range n).find? t with
      | some k => .rt (ret k) h
      | none => .nx (E s') h := by
  rw [rngL_map]
  have key : ∀ (m k : Nat) (s : Sl), k + m = n → ∃ s', forF g b ((List.range' k m).map fun (k : Nat) => D.py (.int (k : Nat))) (E s) h = match (List.range' k m).find? t with
      | some k => .rt (ret k) h
      | none => .nx (E s') h := by
    intro m
    induction m with
    | zero => exact fun k s _ => ⟨s, rfl⟩
    | succ m ih =>
      intro k s hk
      obtain ⟨s', e⟩ := ih (k + 1) (.v (.py (.int k))) (by omega)
      refine ⟨s', ?_⟩
      rw [List.range'_succ, List.map_cons, List.find?_cons, forF_cons, hg]
      show (b _ h).thn _ = _
      rw [hb k (by omega)]
      cases q : t k with
      | true => rfl
      | false => exact e
  have := key n 0 s (by omega)
  rw [← List.range_eq_range'] at this
  exact this
end KF
namespace LW
open PySem KF
variable {P : Prog}
def firstM (r : List Int) (p q : Int × Int) : Option Nat := (List.range 20).find? fun m => decide (feltL r p m ≠ feltL r q m)
theorem first_ok (H15 : findD P 15 = some p__law_felt) (H : findD P 25 = some p__law_first) (n : Nat) (h : MH) (r : List Int) (hr : 1 ≤ r.length) (p q : Int × Int) (hp : HdOk r.length p) (hq : HdOk r.length q) :
    runF P (n + 2) 25 [TI r, .py (hP p), .py (hP q)] h = .ok (.py (optI (firstM r p q))) h := by
  rw [run_of H]
  obtain ⟨s', e⟩ := forF_findR (g := (ev (runF P (n + 1)) (.tn 3)).G) (b := (ev (runF P (n + 1)) b__law_first_1).S) (h := h) (fun m => decide (feltL r p m ≠ feltL r q m)) (fun k => .py (.int k)) (fun s => [.v (TI r), .v (.py (hP p)), .v (.py (hP q)), s]) 20 (fun _ _ => rfl) (fun k hk => by
    have e1 := lawfelt_ok H15 n h r hr p hp k (by omega)
    have e2 := lawfelt_ok H15 n h r hr q hq k (by omega)
    by_cases c : feltL r p k = feltL r q k
    · simp [callD, startE, look, lookV, Sl.get, Sl.getV, frzE, stoE, binF, addO, catL, iop, gAdd, gSub, gMul, gDiv, gMod, gPow, KF.listOf, ixU, dctAt, inUD, ninUD, inK, putU, ixO, ixD, L2.atI, L2.ixN, negD, truD, cmpF, icmp, isND, notND, isN, biF, fLen, lenD, fInt, fMax2, fMin2, fAbs, fTup, fLst, allPy, mkTup, mkLst, asI, revT, isiD, tyD, isTy, putO, putL, augF, promO, wipeE, itU, b__law_first_1, e1, e2, neD, eqD, shal_T, eqv_T, c]
    · simp [callD, startE, look, lookV, Sl.get, Sl.getV, frzE, stoE, binF, addO, catL, iop, gAdd, gSub, gMul, gDiv, gMod, gPow, KF.listOf, ixU, dctAt, inUD, ninUD, inK, putU, ixO, ixD, L2.atI, L2.ixN, negD, truD, cmpF, icmp, isND, notND, isN, biF, fLen, lenD, fInt, fMax2, fMin2, fAbs, fTup, fLst, allPy, mkTup, mkLst, asI, revT, isiD, tyD, isTy, putO, putL, augF, promO, wipeE, itU, b__law_first_1, e1, e2, neD, eqD, shal_T, eqv_T, c]) .u
  have z : rng1 [.py (.int 20)] = some (rngL 0 20) := rng1_nat 20 (by omega)
  unfold firstM
  cases c : (List.range 20).find? fun m => decide (feltL r p m ≠ feltL r q m) with
  | none =>
    rw [c] at e
    simp [callD, startE, look, lookV, Sl.get, Sl.getV, frzE, stoE, binF, addO, catL, iop, gAdd, gSub, gMul, gDiv, gMod, gPow, KF.listOf, ixU, dctAt, inUD, ninUD, inK, putU, ixO, ixD, L2.atI, L2.ixN, negD, truD, cmpF, icmp, isND, notND, isN, biF, fLen, lenD, fInt, fMax2, fMin2, fAbs, fTup, fLst, allPy, mkTup, mkLst, asI, revT, isiD, tyD, isTy, putO, putL, augF, promO, wipeE, itU, p__law_first, k__law_first, z, e, optI]
  | some k =>
    rw [c] at e
    simp [callD, startE, look, lookV, Sl.get, Sl.getV, frzE, stoE, binF, addO, catL, iop, gAdd, gSub, gMul, gDiv, gMod, gPow, KF.listOf, ixU, dctAt, inUD, ninUD, inK, putU, ixO, ixD, L2.atI, L2.ixN, negD, truD, cmpF, icmp, isND, notND, isN, biF, fLen, lenD, fInt, fMax2, fMin2, fAbs, fTup, fLst, allPy, mkTup, mkLst, asI, revT, isiD, tyD, isTy, putO, putL, augF, promO, wipeE, itU, p__law_first, k__law_first, z, e, optI]
/-- the pairs that must be told apart -/
def upr (n : Nat) (a : Bool) : List ((Int × Int) × (Int × Int)) := (prs (hdL n)).filter fun x => unlike a x.1 x.2
theorem prs_len : ∀ xs : List (Int × Int), (prs xs).length ≤ xs.length * xs.length
  | [] => by simp [prs]
  | x :: r => by
    have := prs_len r
    simp only [prs, List.length_append, List.length_map, List.length_cons]
    have e : (r.length + 1) * (r.length + 1) = r.length * r.length + r.length + r.length + 1 := by
      rw [Nat.add_mul, Nat.mul_add, Nat.one_mul, Nat.mul_one]; omega
    omega
theorem pairs_loop {F : FnS} {h : MH} {r : List Int} {a : Bool} (hu : ∀ p q, F 17 [.py (hP p), .py (hP q), AimD a] h = .ok (.py (.bool (unlike a p q))) h) {hs : List PyData} : ∀ (ps pre : List (Int × Int)) (acc : List ((Int × Int) × (Int × Int))) (s3 s4 s5 : Sl), hs = (pre ++ ps).map hP → s3.get = some (.py (.list (acc.map pairP))) → (∀ xs, s5 ≠ .o xs) → acc.length + ps.length * ps.length ≤ 100000 →
    ∃ s3' s4' s5', s3'.get = some (.py (.list ((acc ++ (prs ps).filter fun x => unlike a x.1 x.2).map pairP))) ∧ forF (ev F (.tn 4)).G (ev F b__law_pairs_1).S ((List.range' pre.length ps.length).map fun (k : Nat) => D.py (.int (k : Nat))) [.v (TI r), .v (AimD a), .v (.py (.list hs)), s3, s4, s5] h
      = .nx [.v (TI r), .v (AimD a), .v (.py (.list hs)), s3', s4', s5'] h
  | [], pre, acc, s3, s4, s5, _, h3, _, _ => ⟨s3, s4, s5, by simpa [prs] using h3, rfl⟩
  | p :: ps, pre, acc, s3, s4, s5, eh, h3, h5, hl => by
    have hc : cut hs (some ((pre.length : Int) + 1)) none = ps.map hP := by
      rw [cut_from _ _ (by omega), eh]
      have : ((pre.length : Int) + 1).toNat = (pre ++ [p]).length := by simp
      rw [this, List.map_append, List.map_cons, show pre.map hP ++ hP p :: ps.map hP = (pre ++ [p]).map hP ++ ps.map hP by simp, show (pre ++ [p]).length = ((pre ++ [p]).map hP).length by simp, List.drop_left]
    have hg : ∀ pf, hs[pre.length]'pf = hP p := fun pf => by
      have : hs[pre.length]? = some (hP p) := by rw [eh]; simp
      rw [List.getElem?_eq_getElem pf] at this
      exact Option.some.inj this
    have hg2 : hs[pre.length]? = some (hP p) := by rw [eh]; simp
    have hlen : pre.length < hs.length := by rw [eh]; simp
    have L := lcF_pureA (g := (ev F (.tn 5)).G) (ft := (ev F t__law_pairs_1).T) (fe := (ev F e__law_pairs_1).E) (env := [.v (TI r), .v (AimD a), .v (.py (.list hs)), s3, .v (.py (.int (pre.length : Nat))), .u]) (h := h) (D.py ∘ hP) (fun q => unlike a p q) (fun q => pairP (p, q)) (xs := ps) (fun q hq => by
      have e1 := hu p q
      refine ⟨_, rfl, ?_, fun _ => ?_⟩
      · simp [callD, startE, look, lookV, Sl.get, Sl.getV, frzE, stoE, binF, addO, catL, iop, gAdd, gSub, gMul, gDiv, gMod, gPow, KF.listOf, ixU, dctAt, inUD, ninUD, inK, putU, ixO, ixD, L2.atI, L2.ixN, negD, truD, cmpF, icmp, isND, notND, isN, biF, fLen, lenD, fInt, fMax2, fMin2, fAbs, fTup, fLst, allPy, mkTup, mkLst, asI, revT, isiD, tyD, isTy, putO, putL, augF, promO, wipeE, itU, t__law_pairs_1, hg, hg2, hlen, e1]
      · simp [callD, startE, look, lookV, Sl.get, Sl.getV, frzE, stoE, binF, addO, catL, iop, gAdd, gSub, gMul, gDiv, gMod, gPow, KF.listOf, ixU, dctAt, inUD, ninUD, inK, putU, ixO, ixD, L2.atI, L2.ixN, negD, truD, cmpF, icmp, isND, notND, isN, biF, fLen, lenD, fInt, fMax2, fMin2, fAbs, fTup, fLst, allPy, mkTup, mkLst, asI, revT, isiD, tyD, isTy, putO, putL, augF, promO, wipeE, itU, e__law_pairs_1, hg, hg2, hlen, pairP])
    have ep : ((ps.filter fun q => unlike a p q).map fun q => pairP (p, q)) = ((ps.map fun q => (p, q)).filter fun x => unlike a x.1 x.2).map pairP := by
      rw [List.filter_map, List.map_map]; rfl
    rw [ep] at L
    have hle : ((ps.map fun q => (p, q)).filter fun x => unlike a x.1 x.2).length ≤ ps.length := Nat.le_trans (List.length_filter_le _ _) (by simp)
    have hl : acc.length + (ps.length + 1) * (ps.length + 1) ≤ 100000 := hl
    have e : (ps.length + 1) * (ps.length + 1) = ps.length * ps.length + ps.length + ps.length + 1 := by
      rw [Nat.add_mul, Nat.mul_add, Nat.one_mul, Nat.mul_one]; omega
    have f1 : fits (((ps.map fun q => (p, q)).filter fun x => unlike a x.1 x.2).length) = true := fits_small (by omega)
    have f2 : fits (acc.length + ((ps.map fun q => (p, q)).filter fun x => unlike a x.1 x.2).length) = true := fits_small (by omega)
    obtain ⟨t3, t4, t5, e1, e2⟩ := pairs_loop hu (hs := hs) ps (pre ++ [p]) (acc ++ (ps.map fun q => (p, q)).filter fun x => unlike a x.1 x.2) (.o ((acc ++ (ps.map fun q => (p, q)).filter fun x => unlike a x.1 x.2).map pairP)) (.v (.py (.int (pre.length : Nat)))) s5 (by rw [eh]; simp) rfl h5 (by rw [List.length_append]; omega)
    refine ⟨t3, t4, t5, ?_, ?_⟩
    · rw [e1]
      simp [prs]
    · have l2 : (pre ++ [p]).length = pre.length + 1 := by simp
      rw [l2] at e2
      rw [List.length_cons, List.range'_succ, List.map_cons, forF_cons, ← e2]
      have w5 : ∀ e1 e2 e3 e4 e5 : Sl, wipeE [e1, e2, e3, e4, e5, s5] [5] = some [e1, e2, e3, e4, e5, .u] := fun e1 e2 e3 e4 e5 => by
        cases s5 with
        | o xs => exact absurd rfl (h5 xs)
        | u => rfl
        | v d => rfl
      cases s3 with
      | u => cases h3
      | v d => cases h3; simp [callD, startE, look, lookV, Sl.get, Sl.getV, frzE, stoE, binF, addO, catL, iop, gAdd, gSub, gMul, gDiv, gMod, gPow, KF.listOf, ixU, dctAt, inUD, ninUD, inK, putU, ixO, ixD, L2.atI, L2.ixN, negD, truD, cmpF, icmp, isND, notND, isN, biF, fLen, lenD, fInt, fMax2, fMin2, fAbs, fTup, fLst, allPy, mkTup, mkLst, asI, revT, isiD, tyD, isTy, putO, putL, augF, promO, itU, w5, b__law_pairs_1, cutU, hc, L, mkL, f1, f2]
      | o xs => cases h3; simp [callD, startE, look, lookV, Sl.get, Sl.getV, frzE, stoE, binF, addO, catL, iop, gAdd, gSub, gMul, gDiv, gMod, gPow, KF.listOf, ixU, dctAt, inUD, ninUD, inK, putU, ixO, ixD, L2.atI, L2.ixN, negD, truD, cmpF, icmp, isND, notND, isN, biF, fLen, lenD, fInt, fMax2, fMin2, fAbs, fTup, fLst, allPy, mkTup, mkLst, asI, revT, isiD, tyD, isTy, putO, putL, augF, promO, itU, w5, b__law_pairs_1, cutU, hc, L, mkL, f1, f2]
theorem pairs_ok (H14 : findD P 14 = some p__law_holds) (H17 : findD P 17 = some p__law_unlike) (H : findD P 24 = some p__law_pairs) (n : Nat) (h : MH) (r : List Int) (hr : r.length ≤ 9) (a : Bool) :
    runF P (n + 2) 24 [TI r, AimD a] h = .ok (.py (.list ((upr r.length a).map pairP))) h := by
  rw [run_of H]
  have h1 := holds_ok H14 n h r hr
  obtain ⟨t3, t4, t5, e1, e2⟩ := pairs_loop (F := runF P (n + 1)) (h := h) (r := r) (a := a) (fun p q => unlike_ok H17 n h a p q) (hs := (hdL r.length).map hP) (hdL r.length) [] [] (.v (.py (.list []))) .u .u rfl rfl (fun _ z => nomatch z) (by
    rw [hdL_len]
    have : 2 * r.length * (2 * r.length) ≤ 18 * 18 := Nat.mul_le_mul (by omega) (by omega)
    simp; omega)
  have z : rng1 [.py (.int (2 * (r.length : Int)))] = some (rngL 0 (2 * r.length)) := by
    have := rng1_nat (2 * r.length) (by omega)
    rwa [Int.natCast_mul] at this
  rw [List.length_nil, ← List.range_eq_range', ← rngL_map, hdL_len] at e2
  have e1' : t3.get = some (.py (.list ((upr r.length a).map pairP))) := by rw [e1]; rfl
  simp [callD, startE, look, lookV, Sl.get, Sl.getV, frzE, stoE, binF, addO, catL, iop, gAdd, gSub, gMul, gDiv, gMod, gPow, KF.listOf, ixU, dctAt, inUD, ninUD, inK, putU, ixO, ixD, L2.atI, L2.ixN, negD, truD, cmpF, icmp, isND, notND, isN, biF, fLen, lenD, fInt, fMax2, fMin2, fAbs, fTup, fLst, allPy, mkTup, mkLst, asI, revT, isiD, tyD, isTy, putO, putL, augF, promO, wipeE, itU, p__law_pairs, k__law_pairs, h1, hdL_len, z, e2]
  cases t3 with
  | u => cases e1'
  | v d => cases e1'; simp [callD, startE, look, lookV, Sl.get, Sl.getV, frzE, stoE, binF, addO, catL, iop, gAdd, gSub, gMul, gDiv, gMod, gPow, KF.listOf, ixU, dctAt, inUD, ninUD, inK, putU, ixO, ixD, L2.atI, L2.ixN, negD, truD, cmpF, icmp, isND, notND, isN, biF, fLen, lenD, fInt, fMax2, fMin2, fAbs, fTup, fLst, allPy, mkTup, mkLst, asI, revT, isiD, tyD, isTy, putO, putL, augF, promO, wipeE, itU]
  | o xs => cases e1'; simp [callD, startE, look, lookV, Sl.get, Sl.getV, frzE, stoE, binF, addO, catL, iop, gAdd, gSub, gMul, gDiv, gMod, gPow, KF.listOf, ixU, dctAt, inUD, ninUD, inK, putU, ixO, ixD, L2.atI, L2.ixN, negD, truD, cmpF, icmp, isND, notND, isN, biF, fLen, lenD, fInt, fMax2, fMin2, fAbs, fTup, fLst, allPy, mkTup, mkLst, asI, revT, isiD, tyD, isTy, putO, putL, augF, promO, wipeE, itU]
/-! ### what must be told -/
theorem unlike_symm (a : Bool) (p q : Int × Int) : unlike a p q = unlike a q p := by
  unfold unlike
  rw [decide_eq_decide.mpr (ne_comm (a := p.1) (b := q.1)), decide_eq_decide.mpr (ne_comm (a := p) (b := q))]
theorem unlike_self (a : Bool) (p : Int × Int) : unlike a p p = false := by simp [unlike]
theorem prs_mem {xs : List (Int × Int)} {x : (Int × Int) × (Int × Int)} (h : x ∈ prs xs) : x.1 ∈ xs ∧ x.2 ∈ xs := by
  induction xs with
  | nil => cases h
  | cons p r ih =>
    simp only [prs, List.mem_append, List.mem_map] at h
    rcases h with ⟨q, hq, e⟩ | h
    · subst e; exact ⟨List.mem_cons_self, List.mem_cons_of_mem _ hq⟩
    · obtain ⟨h1, h2⟩ := ih h
      exact ⟨List.mem_cons_of_mem _ h1, List.mem_cons_of_mem _ h2⟩
theorem prs_all {xs : List (Int × Int)} {p q : Int × Int} (hp : p ∈ xs) (hq : q ∈ xs) (ne : p ≠ q) : (p, q) ∈ prs xs ∨ (q, p) ∈ prs xs := by
  induction xs with
  | nil => cases hp
  | cons x r ih =>
    simp only [prs, List.mem_append, List.mem_map]
    rcases List.mem_cons.mp hp with e1 | e1
    · rcases List.mem_cons.mp hq with e2 | e2
      · exact absurd (e1.trans e2.symm) ne
      · exact .inl (.inl ⟨q, e2, by rw [e1]⟩)
    · rcases List.mem_cons.mp hq with e2 | e2
      · exact .inr (.inl ⟨p, e1, by rw [e2]⟩)
      · rcases ih e1 e2 with z | z
        · exact .inl (.inr z)
        · exact .inr (.inr z)
theorem upr_ok {n : Nat} {a : Bool} {x : (Int × Int) × (Int × Int)} (h : x ∈ upr n a) : HdOk n x.1 ∧ HdOk n x.2 ∧ unlike a x.1 x.2 = true := by
  obtain ⟨h1, h2⟩ := List.mem_filter.mp h
  obtain ⟨h3, h4⟩ := prs_mem h1
  exact ⟨hdL_ok h3, hdL_ok h4, h2⟩
theorem fine_upr (r : List Int) (a : Bool) (m : Nat) : fineB r a m = true ↔ ∀ x ∈ upr r.length a, feltL r x.1 m ≠ feltL r x.2 m := by
  rw [fineB_iff]
  constructor
  · intro h x hx e
    obtain ⟨h1, h2⟩ := List.mem_filter.mp hx
    obtain ⟨h3, h4⟩ := prs_mem h1
    have := h x.1 h3 x.2 h4 e
    rw [this] at h2
    cases h2
  · intro h p hp q hq e
    by_cases ne : p = q
    · subst ne; exact unlike_self a p
    · cases u : unlike a p q with
      | false => rfl
      | true =>
        rcases prs_all hp hq ne with z | z
        · exact absurd e (h (p, q) (List.mem_filter.mpr ⟨z, u⟩))
        · exact absurd e.symm (h (q, p) (List.mem_filter.mpr ⟨z, by rw [← unlike_symm]; exact u⟩))
theorem felt_down {r : List Int} {p q : Int × Int} {m k : Nat} (h : m ≤ k) (e : feltL r p k = feltL r q k) : feltL r p m = feltL r q m := by
  rw [felt_eq] at e ⊢
  exact fun j hj => e j (by omega)
theorem first_some {r : List Int} {p q : Int × Int} {k : Nat} (h : firstM r p q = some k) : ∀ m, feltL r p m ≠ feltL r q m ↔ k ≤ m := by
  unfold firstM at h
  have h1 : feltL r p k ≠ feltL r q k := by simpa using List.find?_some h
  have h2 : ∀ m, m < k → feltL r p m = feltL r q m := by
    intro m hm
    have := List.find?_range_eq_some.mp h
    obtain ⟨_, _, h3⟩ := this
    simpa using h3 m hm
  intro m
  constructor
  · intro hne
    apply Nat.le_of_not_lt
    intro hlt
    exact hne (h2 m hlt)
  · intro hle e
    exact h1 (felt_down hle e)
theorem first_none {r : List Int} {p q : Int × Int} (hr : 1 ≤ r.length) (hr9 : r.length ≤ 9) : firstM r p q = none ↔ feltL r p r.length = feltL r q r.length := by
  unfold firstM
  rw [List.find?_eq_none]
  constructor
  · intro h
    have := h 19 (by simp)
    have e : feltL r p 19 = feltL r q 19 := by simpa using this
    exact (felt_more r hr p q (by omega) (by omega)).mp e
  · intro h m hm
    have hm := List.mem_range.mp hm
    have : feltL r p 19 = feltL r q 19 := (felt_more r hr p q (by omega) (by omega)).mp h
    have := felt_down (m := m) (by omega) this
    simp [this]
theorem first_le {r : List Int} {p q : Int × Int} {k : Nat} (hr : 1 ≤ r.length) (hr9 : r.length ≤ 9) (h : firstM r p q = some k) : k ≤ r.length := by
  have h1 : ¬ feltL r p r.length = feltL r q r.length := fun z => by
    rw [(first_none hr hr9).mpr z] at h; cases h
  exact (first_some h r.length).mp h1
end LW
set_option Elab.async false
set_option linter.all false
set_option maxRecDepth 100000
set_option maxHeartbeats 4000000
/-! caps: the program's side -/
namespace KF
open PySem
theorem lc2F_pure {α β : Type} {g g1 : TgF} {fi1 : EvF (List D)} {vs1 : List Nat} {ft : EvF Bool} {fe : EvF D} {env : KF.Env} {h : MH} (c : α → D) (c1 : β → D) (ys : α → List β) (t : α → β → Bool) (f : α → β → PyData) : ∀ {xs : List α},
    (∀ x ∈ xs, ∃ env1 ew1, g (c x) env = some env1 ∧ fi1 env1 h = .ok ((ys x).map c1) h ∧ wipeE env1 vs1 = some ew1 ∧ ∀ y ∈ ys x, ∃ env2, g1 (c1 y) ew1 = some env2 ∧ ft env2 h = .ok (t x y) h ∧ (t x y = true → fe env2 h = .ok (.py (f x y)) h)) →
    lc2F g fi1 g1 vs1 ft fe env (xs.map c) h = .ok (xs.flatMap fun x => ((ys x).filter (t x)).map (f x)) h
  | [], _ => rfl
  | x :: r, H => by
    obtain ⟨env1, ew1, e1, e2, e3, e4⟩ := H x List.mem_cons_self
    have ih := lc2F_pure c c1 ys t f (xs := r) fun y hy => H y (List.mem_cons_of_mem _ hy)
    have L := LW.lcF_pureA (g := g1) (ft := ft) (fe := fe) (env := ew1) (h := h) c1 (t x) (f x) (xs := ys x) e4
    rw [List.map_cons]
    unfold lc2F
    rw [e1]
    simp only [e2, nx_ok', e3, L, ih, List.flatMap_cons]
end KF
namespace LW
open PySem KF
variable {P : Prog}
def cT (c : List Nat) : PyData := .tuple (c.map fun (k : Nat) => .int (k : Nat))
def capL (r : List Int) (c : List Nat) : List Int := r.zipIdx.map fun x => 2 * x.1 + if x.2 ∈ c then 1 else 0
theorem capL_len (r : List Int) (c : List Nat) : (capL r c).length = r.length := by simp [capL]
theorem in_caps (k : Nat) (c : List Nat) (h : MH) : inUD h (.py (.int (k : Nat))) (.py (cT c)) = some (decide (k ∈ c)) := by
  have e : (c.map fun (k : Nat) => PyData.int (k : Nat)).any (fun x => PyData.eqv x (.int (k : Nat))) = decide (k ∈ c) := by
    induction c with
    | nil => rfl
    | cons x r ih =>
      rw [List.map_cons, List.any_cons, ih, eqv_ii]
      by_cases q : x = k
      · subst q; simp
      · have q' : ¬ (x : Int) = k := by omega
        have q2 : ¬ k = x := fun z => q z.symm
        simp [q', q2]
  unfold inUD dctAt inD seqD cT
  simp only [shal_int, if_true]
  rw [← e]
theorem withcaps_ok (H : findD P 64 = some p_with_caps) (n : Nat) (h : MH) (r : List Int) (hr : r.length ≤ 9) (c : List Nat) : runF P (n + 1) 64 [TI r, .py (cT c)] h = .ok (TI (capL r c)) h := by
  rw [run_of H]
  have L := lcF_pureA (g := (ev (runF P n) (.tt 2 (.cons (.tn 2) (.cons (.tn 3) (.nil))))).G) (ft := (ev (runF P n) .yes).T) (fe := (ev (runF P n) e_with_caps_1).E) (env := [.v (TI r), .v (.py (cT c)), .u, .u]) (h := h) (fun (x : Int × Nat) => D.py (.tuple [.int (x.2 : Nat), .int x.1])) (fun _ => true) (fun x => .int (2 * x.1 + if x.2 ∈ c then 1 else 0)) (xs := r.zipIdx) (fun x hx => by
    refine ⟨[.v (TI r), .v (.py (cT c)), .v (.py (.int (x.2 : Nat))), .v (.py (.int x.1))], by simp, rfl, fun _ => ?_⟩
    have ic := in_caps x.2 c h
    by_cases q : x.2 ∈ c
    · simp [q] at ic
      simp [callD, startE, look, lookV, Sl.get, Sl.getV, frzE, stoE, binF, addO, catL, iop, gAdd, gSub, gMul, gDiv, gMod, gPow, KF.listOf, ixU, putU, ixO, ixD, L2.atI, L2.ixN, negD, truD, cmpF, icmp, isND, notND, isN, biF, fLen, lenD, fInt, fMax2, fMin2, fAbs, fTup, fLst, allPy, mkTup, mkLst, asI, revT, isiD, tyD, isTy, putO, putL, augF, promO, wipeE, itU, e_with_caps_1, ic, q]
    · simp [q] at ic
      simp [callD, startE, look, lookV, Sl.get, Sl.getV, frzE, stoE, binF, addO, catL, iop, gAdd, gSub, gMul, gDiv, gMod, gPow, KF.listOf, ixU, putU, ixO, ixD, L2.atI, L2.ixN, negD, truD, cmpF, icmp, isND, notND, isN, biF, fLen, lenD, fInt, fMax2, fMin2, fAbs, fTup, fLst, allPy, mkTup, mkLst, asI, revT, isiD, tyD, isTy, putO, putL, augF, promO, wipeE, itU, e_with_caps_1, ic, q])
  rw [filter_true] at L
  have e1 : enumD (iL r) = r.zipIdx.map fun (x : Int × Nat) => D.py (.tuple [.int (x.2 : Nat), .int x.1]) := by
    unfold enumD iL
    rw [List.zipIdx_map, List.map_map]
    rfl
  have e2 : (r.zipIdx.map fun x => PyData.int (2 * x.1 + if x.2 ∈ c then 1 else 0)) = iL (capL r c) := by
    unfold capL iL
    rw [List.map_map]
    rfl
  rw [e2] at L
  have f1 : fits r.length = true := fits_small (by omega)
  simp [callD, startE, look, lookV, Sl.get, Sl.getV, frzE, stoE, binF, addO, catL, iop, gAdd, gSub, gMul, gDiv, gMod, gPow, KF.listOf, ixU, dctAt, inUD, ninUD, inK, putU, ixO, ixD, L2.atI, L2.ixN, negD, truD, cmpF, icmp, isND, notND, isN, biF, fLen, lenD, fInt, fMax2, fMin2, fAbs, fTup, fLst, allPy, mkTup, mkLst, asI, revT, isiD, tyD, isTy, putO, putL, augF, promO, wipeE, itU, p_with_caps, k_with_caps, enumO, e1, L, mkL, iL_len, capL_len, f1]
/-! ### lots of keys -/
def upN (c : List Nat) (k : Nat) : Bool := match c.getLast? with
  | none => true
  | some l => decide (l < k)
def subN (m : Nat) : Nat → List (List Nat)
  | 0 => [[]]
  | s + 1 => (subN m s).flatMap fun c => ((List.range m).filter (upN c)).map fun k => c ++ [k]
theorem subN_len : ∀ m < 10, ∀ s < 11, (subN m s).length ≤ 512 := by decide +kernel
theorem cT_app (c : List Nat) (k : Nat) : (c.map fun (k : Nat) => PyData.int (k : Nat)) ++ [PyData.int (k : Nat)] = (c ++ [k]).map fun (k : Nat) => .int (k : Nat) := by simp
theorem subN_of {m : Nat} : ∀ {s : Nat} {c : List Nat}, c ∈ subN m s → c.length = s
  | 0, c, h => by
    have : c = [] := by simpa [subN] using h
    rw [this]; rfl
  | s + 1, c, h => by
    obtain ⟨c', h1, h2⟩ := List.mem_flatMap.mp h
    obtain ⟨k, _, e⟩ := List.mem_map.mp h2
    rw [← e, List.length_append, subN_of h1]
    rfl
theorem atI_last {α : Type} {xs : List α} {x : α} (h : xs.getLast? = some x) : L2.atI xs (-1) = some x := by
  have hp : 0 < xs.length := by
    cases xs with
    | nil => cases h
    | cons => simp
  unfold L2.atI L2.ixN
  rw [if_neg (by omega), if_pos (by omega)]
  show xs[((-1 : Int) + (xs.length : Nat)).toNat]? = some x
  rw [show ((-1 : Int) + (xs.length : Nat)).toNat = xs.length - 1 by omega, ← List.getLast?_eq_getElem?]
  exact h
theorem subsets_ok (H : findD P 65 = some p_subsets) (n : Nat) (h : MH) (m s : Nat) (hm : m < 10) (hs : s < 11) : runF P (n + 1) 65 [.py (.int m), .py (.int s)] h = .ok (.py (.list ((subN m s).map cT))) h := by
  rw [run_of H]
  obtain ⟨env', h', e, ⟨s3, i1⟩, i2⟩ := forF_rel (g := (ev (runF P n) (.tn 3)).G) (b := (ev (runF P n) b_subsets_1).S) (fun (k : Nat) => D.py (.int (k : Nat))) (fun pre env h' => (∃ s3, env = [.v (.py (.int m)), .v (.py (.int s)), .o ((subN m pre.length).map cT), s3, .u, .u]) ∧ h' = h) (List.range s) (fun pre x suf env h' e ⟨⟨s3, e1⟩, e2⟩ => by
    subst e1 e2
    have hp : pre.length < s := by
      have := congrArg List.length e
      simp at this
      omega
    have z : rng1 [.py (.int (m : Nat))] = some (rngL 0 m) := rng1_nat m (by omega)
    have L := lc2F_pure (g := (ev (runF P n) (.tn 4)).G) (fi1 := (ev (runF P n) i_subsets_1).I) (g1 := (ev (runF P n) (.tn 5)).G) (vs1 := [5]) (ft := (ev (runF P n) t_subsets_1).T) (fe := (ev (runF P n) e_subsets_1).E) (env := [.v (.py (.int m)), .v (.py (.int s)), .v (.py (.list ((subN m pre.length).map cT))), .v (.py (.int x)), .u, .u]) (h := h') (D.py ∘ cT) (fun (k : Nat) => D.py (.int (k : Nat))) (fun _ => List.range m) upN (fun c k => cT (c ++ [k])) (xs := subN m pre.length) (fun c hc => by
      refine ⟨[.v (.py (.int m)), .v (.py (.int s)), .v (.py (.list ((subN m pre.length).map cT))), .v (.py (.int x)), .v (.py (cT c)), .u], _, rfl, by simp [callD, startE, look, lookV, Sl.get, Sl.getV, frzE, stoE, binF, addO, catL, iop, gAdd, gSub, gMul, gDiv, gMod, gPow, KF.listOf, ixU, dctAt, inUD, ninUD, inK, putU, ixO, ixD, L2.atI, L2.ixN, negD, truD, cmpF, icmp, isND, notND, isN, biF, fLen, lenD, fInt, fMax2, fMin2, fAbs, fTup, fLst, allPy, mkTup, mkLst, asI, revT, isiD, tyD, isTy, putO, putL, augF, promO, wipeE, itU, i_subsets_1, z, rngL_map], rfl, fun k hk => ?_⟩
      refine ⟨[.v (.py (.int m)), .v (.py (.int s)), .v (.py (.list ((subN m pre.length).map cT))), .v (.py (.int x)), .v (.py (cT c)), .v (.py (.int k))], rfl, ?_, fun _ => ?_⟩
      · cases q : c.getLast? with
        | none =>
          have : c = [] := by simpa using q
          subst this
          simp [callD, startE, look, lookV, Sl.get, Sl.getV, frzE, stoE, binF, addO, catL, iop, gAdd, gSub, gMul, gDiv, gMod, gPow, KF.listOf, ixU, dctAt, inUD, ninUD, inK, putU, ixO, ixD, L2.atI, L2.ixN, negD, truD, cmpF, icmp, isND, notND, isN, biF, fLen, lenD, fInt, fMax2, fMin2, fAbs, fTup, fLst, allPy, mkTup, mkLst, asI, revT, isiD, tyD, isTy, putO, putL, augF, promO, wipeE, itU, t_subsets_1, cT, upN]
        | some l =>
          have hne : c ≠ [] := fun z => by rw [z] at q; cases q
          have hlp : 0 < c.length := List.length_pos_iff.mpr hne
          have ai : L2.atI (c.map fun (k : Nat) => PyData.int (k : Nat)) (-1) = some (.int (l : Nat)) := atI_last (by rw [List.getLast?_map, q]; rfl)
          have em : c.isEmpty = false := by cases c with
            | nil => exact absurd rfl hne
            | cons => rfl
          simp [callD, startE, look, lookV, Sl.get, Sl.getV, frzE, stoE, binF, addO, catL, iop, gAdd, gSub, gMul, gDiv, gMod, gPow, KF.listOf, ixU, dctAt, inUD, ninUD, inK, putU, ixO, ixD, negD, truD, cmpF, icmp, isND, notND, isN, biF, fLen, lenD, fInt, fMax2, fMin2, fAbs, fTup, fLst, allPy, mkTup, mkLst, asI, revT, isiD, tyD, isTy, putO, putL, augF, promO, wipeE, itU, t_subsets_1, cT, upN, q, em, ai]
      · have f1 : fits (c.length + 1) = true := by rw [subN_of hc]; exact fits_small (by omega)
        simp [callD, startE, look, lookV, Sl.get, Sl.getV, frzE, stoE, binF, addO, catL, iop, gAdd, gSub, gMul, gDiv, gMod, gPow, KF.listOf, ixU, dctAt, inUD, ninUD, inK, putU, ixO, ixD, L2.atI, L2.ixN, negD, truD, cmpF, icmp, isND, notND, isN, biF, fLen, lenD, fInt, fMax2, fMin2, fAbs, fTup, fLst, allPy, mkTup, mkLst, asI, revT, isiD, tyD, isTy, putO, putL, augF, promO, wipeE, itU, e_subsets_1, cT, f1])
    have hl := subN_len m hm (pre.length + 1) (by omega)
    have f2 : fits (subN m (pre.length + 1)).length = true := fits_small (by omega)
    have e5 : ((subN m pre.length).flatMap fun c => ((List.range m).filter (upN c)).map fun k => cT (c ++ [k])) = (subN m (pre.length + 1)).map cT := by
      show _ = ((subN m pre.length).flatMap fun c => ((List.range m).filter (upN c)).map fun k => c ++ [k]).map cT
      rw [List.map_flatMap]
      congr 1
      funext c
      rw [List.map_map]
      rfl
    rw [e5] at L
    refine ⟨[.v (.py (.int m)), .v (.py (.int s)), .o ((subN m pre.length).map cT), .v (.py (.int x)), .u, .u], [.v (.py (.int m)), .v (.py (.int s)), .o ((subN m (pre.length + 1)).map cT), .v (.py (.int x)), .u, .u], h', rfl, ?_, ⟨_, by rw [List.length_append, List.length_singleton]⟩, rfl⟩
    simp [callD, startE, look, lookV, Sl.get, Sl.getV, frzE, stoE, binF, addO, catL, iop, gAdd, gSub, gMul, gDiv, gMod, gPow, KF.listOf, ixU, dctAt, inUD, ninUD, inK, putU, ixO, ixD, L2.atI, L2.ixN, negD, truD, cmpF, icmp, isND, notND, isN, biF, fLen, lenD, fInt, fMax2, fMin2, fAbs, fTup, fLst, allPy, mkTup, mkLst, asI, revT, isiD, tyD, isTy, putO, putL, augF, promO, wipeE, itU, b_subsets_1, L, mkL, f2]) [.v (.py (.int m)), .v (.py (.int s)), .o [cT []], .u, .u, .u] h ⟨⟨_, rfl⟩, rfl⟩
  subst i1 i2
  rw [List.length_range, ← rngL_map] at e
  have z : rng1 [.py (.int (s : Nat))] = some (rngL 0 s) := rng1_nat s (by omega)
  have e0 : cT [] = .tuple [] := rfl
  rw [e0] at e
  simp [callD, startE, look, lookV, Sl.get, Sl.getV, frzE, stoE, binF, addO, catL, iop, gAdd, gSub, gMul, gDiv, gMod, gPow, KF.listOf, ixU, dctAt, inUD, ninUD, inK, putU, ixO, ixD, L2.atI, L2.ixN, negD, truD, cmpF, icmp, isND, notND, isN, biF, fLen, lenD, fInt, fMax2, fMin2, fAbs, fTup, fLst, allPy, mkTup, mkLst, asI, revT, isiD, tyD, isTy, putO, putL, augF, promO, wipeE, itU, p_subsets, k_subsets, z, e]
/-! ### the smallest lots -/
def okC (r : List Int) (a : Bool) (many : Int) (c : List Nat) : Bool := match leastM (capL r c) a with
  | some m => decide ((m : Int) ≤ many)
  | none => false
def firstNE : List (List (List Nat)) → List (List Nat)
  | [] => []
  | x :: r => if x = [] then firstNE r else x
def smallM (r : List Int) (a : Bool) (many : Int) : List (List Nat) := firstNE ((List.range (r.length + 1)).map fun s => (subN r.length s).filter (okC r a many))
theorem small_in {F : FnS} {r : List Int} {a : Bool} {many : Int} {s3 : Sl} (hr : r.length ≤ 9) (h64 : ∀ c h, F 64 [TI r, .py (cT c)] h = .ok (TI (capL r c)) h) (h21 : ∀ c h, ∃ j, F 21 [TI (capL r c), AimD a] h = .ok (.py (optI (leastM (capL r c) a))) (h ++ j)) : ∀ (cs acc : List (List Nat)) (s5 s6 : Sl) (h : MH), acc.length + cs.length ≤ 100000 →
    ∃ s5' s6' j, forF (ev F (.tn 5)).G (ev F b_smallest_1).S (cs.map (D.py ∘ cT)) [.v (TI r), .v (AimD a), .v (.py (.int many)), s3, .o (acc.map cT), s5, s6] h = .nx [.v (TI r), .v (AimD a), .v (.py (.int many)), s3, .o ((acc ++ cs.filter (okC r a many)).map cT), s5', s6'] (h ++ j)
  | [], acc, s5, s6, h, _ => ⟨s5, s6, [], by simp [forF]⟩
  | c :: cs, acc, s5, s6, h, hl => by
    have hl : acc.length + (cs.length + 1) ≤ 100000 := hl
    obtain ⟨j, e1⟩ := h21 c h
    have e2 := h64 c h
    have f1 : fits (acc.length + 1) = true := fits_small (by omega)
    rw [List.map_cons, forF_cons, List.filter_cons]
    by_cases q : okC r a many c = true
    · obtain ⟨t5, t6, j2, e3⟩ := small_in hr h64 h21 (s3 := s3) cs (acc ++ [c]) (.v (.py (cT c))) (.v (.py (optI (leastM (capL r c) a)))) (h ++ j) (by simp; omega)
      refine ⟨t5, t6, j ++ j2, ?_⟩
      rw [if_pos q, ← List.append_assoc h j j2, show acc ++ c :: cs.filter (okC r a many) = acc ++ [c] ++ cs.filter (okC r a many) by simp, ← e3]
      unfold okC at q
      cases w : leastM (capL r c) a with
      | none => rw [w] at q; cases q
      | some m =>
        rw [w] at q e1
        have q : (m : Int) ≤ many := by simpa using q
        have o1 : optI (some m) = .int m := rfl
        rw [o1] at e1
        simp [callD, startE, look, lookV, Sl.get, Sl.getV, frzE, stoE, binF, addO, catL, iop, gAdd, gSub, gMul, gDiv, gMod, gPow, KF.listOf, ixU, dctAt, inUD, ninUD, inK, putU, ixO, ixD, L2.atI, L2.ixN, negD, truD, cmpF, icmp, isND, notND, isN, biF, fLen, lenD, fInt, fMax2, fMin2, fAbs, fTup, fLst, allPy, mkTup, mkLst, asI, revT, isiD, tyD, isTy, putO, putL, augF, promO, wipeE, itU, b_smallest_1, e2, e1, q, f1, o1]
    · obtain ⟨t5, t6, j2, e3⟩ := small_in hr h64 h21 (s3 := s3) cs acc (.v (.py (cT c))) (.v (.py (optI (leastM (capL r c) a)))) (h ++ j) (by omega)
      refine ⟨t5, t6, j ++ j2, ?_⟩
      rw [if_neg q, ← List.append_assoc h j j2, ← e3]
      unfold okC at q
      cases w : leastM (capL r c) a with
      | none =>
        rw [w] at e1
        have o1 : optI none = .none := rfl
        rw [o1] at e1
        simp [callD, startE, look, lookV, Sl.get, Sl.getV, frzE, stoE, binF, addO, catL, iop, gAdd, gSub, gMul, gDiv, gMod, gPow, KF.listOf, ixU, dctAt, inUD, ninUD, inK, putU, ixO, ixD, L2.atI, L2.ixN, negD, truD, cmpF, icmp, isND, notND, isN, biF, fLen, lenD, fInt, fMax2, fMin2, fAbs, fTup, fLst, allPy, mkTup, mkLst, asI, revT, isiD, tyD, isTy, putO, putL, augF, promO, wipeE, itU, b_smallest_1, e2, e1, o1]
      | some m =>
        rw [w] at q e1
        have q : ¬ (m : Int) ≤ many := by simpa using q
        have o1 : optI (some m) = .int m := rfl
        rw [o1] at e1
        simp [callD, startE, look, lookV, Sl.get, Sl.getV, frzE, stoE, binF, addO, catL, iop, gAdd, gSub, gMul, gDiv, gMod, gPow, KF.listOf, ixU, dctAt, inUD, ninUD, inK, putU, ixO, ixD, L2.atI, L2.ixN, negD, truD, cmpF, icmp, isND, notND, isN, biF, fLen, lenD, fInt, fMax2, fMin2, fAbs, fTup, fLst, allPy, mkTup, mkLst, asI, revT, isiD, tyD, isTy, putO, putL, augF, promO, wipeE, itU, b_smallest_1, e2, e1, q, o1]
theorem firstNE_app (xs ys : List (List (List Nat))) (h : ∀ x ∈ xs, x = []) : firstNE (xs ++ ys) = firstNE ys := by
  induction xs with
  | nil => rfl
  | cons x r ih =>
    show (if x = [] then firstNE (r ++ ys) else x) = _
    rw [if_pos (h x List.mem_cons_self)]
    exact ih fun y hy => h y (List.mem_cons_of_mem _ hy)
theorem smallest_ok (H6 : findD P 6 = some p_shape_at) (H7 : findD P 7 = some p_felt_by) (H9 : findD P 9 = some p_all_holds) (H20 : findD P 20 = some p_is_known) (H21 : findD P 21 = some p_least_by) (H64 : findD P 64 = some p_with_caps) (H65 : findD P 65 = some p_subsets) (H : findD P 66 = some p_smallest) (n : Nat) (h : MH) (r : List Int) (hr : 1 ≤ r.length) (hr9 : r.length ≤ 9) (a : Bool) (many : Int) :
    ∃ j, runF P (n + 4) 66 [TI r, AimD a, .py (.int many)] h = .ok (.py (.list ((smallM r a many).map cT))) (h ++ j) := by
  rw [run_of H]
  have h64 : ∀ c h, runF P (n + 3) 64 [TI r, .py (cT c)] h = .ok (TI (capL r c)) h := fun c h => withcaps_ok H64 (n + 2) h r hr9 c
  have h21 : ∀ c h, ∃ j, runF P (n + 3) 21 [TI (capL r c), AimD a] h = .ok (.py (optI (leastM (capL r c) a))) (h ++ j) := fun c h => leastby_ok H6 H7 H9 H20 H21 n h (capL r c) (by rw [capL_len]; exact hr) (by rw [capL_len]; exact hr9) a
  have L := forF_exit (g := (ev (runF P (n + 3)) (.tn 3)).G) (b := (ev (runF P (n + 3)) b_smallest_2).S) (fun (k : Nat) => D.py (.int (k : Nat)))
    (fun pre env h' => (∃ s3 s4 s5 s6, env = [.v (TI r), .v (AimD a), .v (.py (.int many)), s3, s4, s5, s6]) ∧ (∃ j, h' = h ++ j) ∧ ∀ s ∈ pre, (subN r.length s).filter (okC r a many) = [])
    (fun d h' => (∃ j, h' = h ++ j) ∧ d = .py (.list ((smallM r a many).map cT))) (List.range (r.length + 1)) (fun pre s suf env h' e ⟨⟨s3, s4, s5, s6, e1⟩, ⟨j, e2⟩, e3⟩ => by
      subst e1 e2
      have hs : s < r.length + 1 := List.mem_range.mp (by rw [e]; simp)
      have e65 := subsets_ok H65 (n + 2) (h ++ j) r.length s (by omega) (by omega)
      have hl := subN_len r.length (by omega) s (by omega)
      obtain ⟨t5, t6, j2, e4⟩ := small_in (F := runF P (n + 3)) (r := r) (a := a) (many := many) (s3 := .v (.py (.int s))) hr9 h64 h21 (subN r.length s) [] s5 s6 (h ++ j) (by simp; omega)
      refine ⟨[.v (TI r), .v (AimD a), .v (.py (.int many)), .v (.py (.int s)), s4, s5, s6], rfl, ?_⟩
      rw [List.nil_append, List.map_nil] at e4
      cases q : (subN r.length s).filter (okC r a many) with
      | nil =>
        rw [q] at e4
        refine .inl ⟨[.v (TI r), .v (AimD a), .v (.py (.int many)), .v (.py (.int s)), .o [], t5, t6], h ++ j ++ j2, ?_, ⟨_, _, _, _, rfl⟩, ⟨j ++ j2, by simp⟩, fun x hx => ?_⟩
        · simp [callD, startE, look, lookV, Sl.get, Sl.getV, frzE, stoE, binF, addO, catL, iop, gAdd, gSub, gMul, gDiv, gMod, gPow, KF.listOf, ixU, dctAt, inUD, ninUD, inK, putU, ixO, ixD, L2.atI, L2.ixN, negD, truD, cmpF, icmp, isND, notND, isN, biF, fLen, lenD, fInt, fMax2, fMin2, fAbs, fTup, fLst, allPy, mkTup, mkLst, asI, revT, isiD, tyD, isTy, putO, putL, augF, promO, wipeE, itU, b_smallest_2, iL_len, e65, e4]
        · rcases List.mem_append.mp hx with z | z
          · exact e3 x z
          · have : x = s := by simpa using z
            rw [this]; exact q
      | cons x xs =>
        rw [q] at e4
        refine .inr ⟨_, h ++ j ++ j2, ?_, ⟨j ++ j2, by simp⟩, rfl⟩
        have : smallM r a many = x :: xs := by
          unfold smallM
          rw [e, List.map_append, firstNE_app _ _ (fun y hy => by
            obtain ⟨s', h1, h2⟩ := List.mem_map.mp hy
            rw [← h2]; exact e3 s' h1), List.map_cons, q]
          rfl
        rw [this]
        simp [callD, startE, look, lookV, Sl.get, Sl.getV, frzE, stoE, binF, addO, catL, iop, gAdd, gSub, gMul, gDiv, gMod, gPow, KF.listOf, ixU, dctAt, inUD, ninUD, inK, putU, ixO, ixD, L2.atI, L2.ixN, negD, truD, cmpF, icmp, isND, notND, isN, biF, fLen, lenD, fInt, fMax2, fMin2, fAbs, fTup, fLst, allPy, mkTup, mkLst, asI, revT, isiD, tyD, isTy, putO, putL, augF, promO, wipeE, itU, b_smallest_2, iL_len, e65, e4]) [.v (TI r), .v (AimD a), .v (.py (.int many)), .u, .u, .u, .u] h ⟨⟨_, _, _, _, rfl⟩, ⟨[], by simp⟩, fun _ z => (by cases z)⟩
  rw [← rngL_map] at L
  have z1 : rng1 [.py (.int ((r.length : Int) + 1))] = some (rngL 0 (r.length + 1)) := rng1_nat (r.length + 1) (by omega)
  rcases L with ⟨env', h', e, ⟨s3, s4, s5, s6, e1⟩, ⟨j, e2⟩, e3⟩ | ⟨d, h', e, ⟨j, e2⟩, e3⟩
  · subst e1 e2
    refine ⟨j, ?_⟩
    have : smallM r a many = [] := by
      unfold smallM
      have := firstNE_app ((List.range (r.length + 1)).map fun s => (subN r.length s).filter (okC r a many)) [] (fun y hy => by
        obtain ⟨s', h1, h2⟩ := List.mem_map.mp hy
        rw [← h2]; exact e3 s' h1)
      rw [List.append_nil] at this
      rw [this]; rfl
    rw [this]
    simp [callD, startE, look, lookV, Sl.get, Sl.getV, frzE, stoE, binF, addO, catL, iop, gAdd, gSub, gMul, gDiv, gMod, gPow, KF.listOf, ixU, dctAt, inUD, ninUD, inK, putU, ixO, ixD, L2.atI, L2.ixN, negD, truD, cmpF, icmp, isND, notND, isN, biF, fLen, lenD, fInt, fMax2, fMin2, fAbs, fTup, fLst, allPy, mkTup, mkLst, asI, revT, isiD, tyD, isTy, putO, putL, augF, promO, wipeE, itU, p_smallest, k_smallest, iL_len, z1, e]
  · subst e2 e3
    refine ⟨j, ?_⟩
    simp [callD, startE, look, lookV, Sl.get, Sl.getV, frzE, stoE, binF, addO, catL, iop, gAdd, gSub, gMul, gDiv, gMod, gPow, KF.listOf, ixU, dctAt, inUD, ninUD, inK, putU, ixO, ixD, L2.atI, L2.ixN, negD, truD, cmpF, icmp, isND, notND, isN, biF, fLen, lenD, fInt, fMax2, fMin2, fAbs, fTup, fLst, allPy, mkTup, mkLst, asI, revT, isiD, tyD, isTy, putO, putL, augF, promO, wipeE, itU, p_smallest, k_smallest, iL_len, z1, e]
end LW
set_option Elab.async false
set_option linter.all false
set_option maxRecDepth 100000
set_option maxHeartbeats 4000000
/-! k05: the law's own least number -/
namespace LW
open PySem KF
variable {P : Prog}
theorem fewest_ok (C : Chk P) (a3 : findD P 3 = some p_check_ring) (H19 : findD P 19 = some p_check_aim) (H6 : findD P 6 = some p_shape_at) (H7 : findD P 7 = some p_felt_by) (H9 : findD P 9 = some p_all_holds) (H20 : findD P 20 = some p_is_known) (H21 : findD P 21 = some p_least_by) (H64 : findD P 64 = some p_with_caps) (H65 : findD P 65 = some p_subsets) (H66 : findD P 66 = some p_smallest) (H : findD P 67 = some p_fewest_caps) (n : Nat) (h : MH) (r : List Int) (hr : Ring 9 r) (a : Bool) :
    ∃ j, runF P (n + 5) 67 [TI r, AimD a] h = .ok (.py (.list ((smallM r a r.length).map cT))) (h ++ j) := by
  rw [run_of H]
  have h1 := chkring_ok C a3 n h r hr
  have h2 := aim_ok H19 (n + 3) h a
  obtain ⟨j, h3⟩ := smallest_ok H6 H7 H9 H20 H21 H64 H65 H66 n h r hr.1 hr.2.1 a r.length
  refine ⟨j, ?_⟩
  simp [callD, startE, look, lookV, Sl.get, Sl.getV, frzE, stoE, binF, addO, catL, iop, gAdd, gSub, gMul, gDiv, gMod, gPow, KF.listOf, ixU, dctAt, inUD, ninUD, inK, putU, ixO, ixD, L2.atI, L2.ixN, negD, truD, cmpF, icmp, isND, notND, isN, biF, fLen, lenD, fInt, fMax2, fMin2, fAbs, fTup, fLst, allPy, mkTup, mkLst, asI, revT, isiD, tyD, isTy, putO, putL, augF, promO, wipeE, itU, p_fewest_caps, k_fewest_caps, h1, h2, h3, iL_len]
theorem within_ok (C : Chk P) (a3 : findD P 3 = some p_check_ring) (a5 : findD P 5 = some p_check_number) (H19 : findD P 19 = some p_check_aim) (H6 : findD P 6 = some p_shape_at) (H7 : findD P 7 = some p_felt_by) (H9 : findD P 9 = some p_all_holds) (H20 : findD P 20 = some p_is_known) (H21 : findD P 21 = some p_least_by) (H64 : findD P 64 = some p_with_caps) (H65 : findD P 65 = some p_subsets) (H66 : findD P 66 = some p_smallest) (H : findD P 68 = some p_caps_within) (n : Nat) (h : MH) (r : List Int) (hr : Ring 9 r) (a : Bool) (many : Int) (m0 : 0 ≤ many) (m1 : many ≤ 20) :
    ∃ j, runF P (n + 5) 68 [TI r, AimD a, .py (.int many)] h = .ok (.py (.list ((smallM r a many).map cT))) (h ++ j) := by
  rw [run_of H]
  have h1 := chkring_ok C a3 n h r hr
  have h2 := aim_ok H19 (n + 3) h a
  have h4 := chknum_ok C a5 (n + 1) h many 0 20 m0 m1
  obtain ⟨j, h3⟩ := smallest_ok H6 H7 H9 H20 H21 H64 H65 H66 n h r hr.1 hr.2.1 a many
  refine ⟨j, ?_⟩
  simp [callD, startE, look, lookV, Sl.get, Sl.getV, frzE, stoE, binF, addO, catL, iop, gAdd, gSub, gMul, gDiv, gMod, gPow, KF.listOf, ixU, dctAt, inUD, ninUD, inK, putU, ixO, ixD, L2.atI, L2.ixN, negD, truD, cmpF, icmp, isND, notND, isN, biF, fLen, lenD, fInt, fMax2, fMin2, fAbs, fTup, fLst, allPy, mkTup, mkLst, asI, revT, isiD, tyD, isTy, putO, putL, augF, promO, wipeE, itU, p_caps_within, k_caps_within, h1, h2, h3, h4]
/-! ### the law's groups -/
def fineA (r : List Int) (a : Bool) (m : Nat) : Bool := (grpG (rowsG r m (hdL r.length))).all fun x => x.2.all fun p => !unlike a (x.2.headD (0, 0)) p
theorem unlike_trans {a : Bool} {p q s : Int × Int} (h1 : unlike a p q = false) (h2 : unlike a p s = false) : unlike a q s = false := by
  unfold unlike at *
  simp only [Bool.or_eq_false_iff, decide_eq_false_iff_not, Decidable.not_not, Bool.and_eq_false_iff] at *
  refine ⟨h1.1.symm.trans h2.1, ?_⟩
  rcases h1.2 with e | e
  · exact .inl e
  · rcases h2.2 with f | f
    · exact .inl f
    · exact .inr (e.symm.trans f)
theorem fineA_eq (r : List Int) (a : Bool) (m : Nat) : fineA r a m = fineB r a m := by
  have key : ∀ x ∈ grpG (rowsG r m (hdL r.length)), (x.2.all fun p => !unlike a (x.2.headD (0, 0)) p) = knownB a x.2 := by
    rintro ⟨k, b⟩ hx
    obtain ⟨h1, h2⟩ := (grp_mem _ _ _).mp hx
    subst h2
    dsimp only
    rw [grpOf_rows]
    unfold rowsG at h1
    rw [List.map_map] at h1
    obtain ⟨p, hp, e⟩ := List.mem_map.mp h1
    have e : feltL r p m = k := e
    have nd := (hdL_nodup r.length).filter fun p => decide (feltL r p m = k)
    have ne : (hdL r.length).filter (fun p => decide (feltL r p m = k)) ≠ [] := fun z => by
      have : p ∈ (hdL r.length).filter fun p => decide (feltL r p m = k) := List.mem_filter.mpr ⟨hp, by simp [e]⟩
      rw [z] at this; cases this
    generalize (hdL r.length).filter (fun p => decide (feltL r p m = k)) = ps at nd ne
    have i := knownB_iff (a := a) nd ne
    cases ps with
    | nil => exact absurd rfl ne
    | cons x xs =>
      rw [Bool.eq_iff_iff, i, List.all_eq_true]
      simp only [List.headD_cons, Bool.not_eq_true']
      constructor
      · intro h p hp q hq
        exact unlike_trans (h p hp) (h q hq)
      · intro h p hp
        exact h x List.mem_cons_self p hp
  unfold fineA fineB
  apply Bool.eq_iff_iff.mpr
  rw [List.all_eq_true, List.all_eq_true]
  exact ⟨fun h x hx => by rw [← key x hx]; exact h x hx, fun h x hx => by rw [key x hx]; exact h x hx⟩
theorem lawgroups_loop {F : FnS} {h : MH} {r : List Int} {a e2 s7 s8 : Sl} {m : Nat} (hr : r.length ≤ 9) (hf : ∀ h q, HdOk r.length q → F 15 [TI r, .py (hP q), .py (.int m)] h = .ok (TI (feltL r q m)) h) (s5 s6 : Sl) (no : ∀ xs, s6 ≠ .o xs) :
    ∃ s5' s6', (∀ xs, s6' ≠ .o xs) ∧ forF (ev F (.tn 5)).G (ev F b__law_told_by_1).S ((hdL r.length).map (D.py ∘ hP)) [.v (TI r), a, e2, .v (.py (.int m)), .v (.loc h.length), s5, s6, s7, s8] (h ++ [.dct []])
      = .nx [.v (TI r), a, e2, .v (.py (.int m)), .v (.loc h.length), s5', s6', s7, s8] (h ++ [.dct (encG kTu gV (grpG (rowsG r m (hdL r.length))))]) := by
  obtain ⟨env', h', e, ⟨s4', s5', i1, i3⟩, i2⟩ := forF_rel (g := (ev F (.tn 5)).G) (b := (ev F b__law_told_by_1).S) (D.py ∘ hP) (fun pre env h' => (∃ s5 s6, env = [.v (TI r), a, e2, .v (.py (.int m)), .v (.loc h.length), s5, s6, s7, s8] ∧ ∀ xs, s6 ≠ .o xs) ∧ h' = h ++ [.dct (encG kTu gV (grpG (rowsG r m pre)))]) (hdL r.length)
    (fun pre x suf env h' e ⟨⟨s4, s5, e1, e5⟩, e2⟩ => by
      subst e1 e2
      have hx : HdOk r.length x := hdL_ok (by rw [e]; simp)
      have fx := hf (h ++ [.dct (encG kTu gV (grpG (rowsG r m pre)))]) x hx
      have hlen : pre.length < 18 := by
        have := congrArg List.length e
        rw [hdL_len] at this
        simp at this
        omega
      have gl := grp_len (rowsG r m pre)
      have gl2 : (rowsG r m pre).length = pre.length := by simp [rowsG]
      have f1 : fits (((lookG (grpG (rowsG r m pre)) (feltL r x m)).getD []).length + 1) = true := by
        rw [grp_look]
        apply fits_small
        split
        · rw [grpOf_rows]
          have := List.length_filter_le (fun p => decide (feltL r p m = feltL r x m)) pre
          show ((some (pre.filter fun p => decide (feltL r p m = feltL r x m))).getD []).length + 1 ≤ _
          simp only [Option.getD_some]
          omega
        · simp
      have f2 : (grpG (rowsG r m pre)).length < 16000000 := by omega
      have kt : PyData.tuple (iL (feltL r x m)) = kTu (feltL r x m) := rfl
      have e3 : rowsG r m (pre ++ [x]) = rowsG r m pre ++ [(feltL r x m, x)] := by simp [rowsG]
      refine ⟨_, [.v (TI r), a, _, .v (.py (.int m)), .v (.loc h.length), .v (.py (hP x)), .v (TI (feltL r x m)), s7, s8], _, rfl, ?_, ⟨_, _, rfl, fun _ z => nomatch z⟩, rfl⟩
      rw [e3, grp_snoc, ← putK_enc encT]
      simp [callD, startE, look, lookV, Sl.get, Sl.getV, frzE, stoE, binF, addO, catL, iop, gAdd, gSub, gMul, gDiv, gMod, gPow, KF.listOf, ixU, dctAt, inUD, ninUD, inK, putU, ixO, ixD, L2.atI, L2.ixN, negD, truD, cmpF, icmp, isND, notND, isN, biF, fLen, lenD, fInt, fMax2, fMin2, fAbs, fTup, fLst, allPy, mkTup, mkLst, asI, revT, isiD, tyD, isTy, putO, putL, augF, promO, wipeE, itU, b__law_told_by_1, fx, getX, dctAt, kt, kOk_enc encT, getK_enc encT, lookG_getD, putD, dctW, encG_len, f2]
      simp only [gV, List.length_map, List.length_singleton]
      rw [if_pos f1]
      simp [callD, startE, look, lookV, Sl.get, Sl.getV, frzE, stoE, binF, addO, catL, iop, gAdd, gSub, gMul, gDiv, gMod, gPow, KF.listOf, ixU, dctAt, inUD, ninUD, inK, putU, ixO, ixD, L2.atI, L2.ixN, negD, truD, cmpF, icmp, isND, notND, isN, biF, fLen, lenD, fInt, fMax2, fMin2, fAbs, fTup, fLst, allPy, mkTup, mkLst, asI, revT, isiD, tyD, isTy, putO, putL, augF, promO, wipeE, itU, kt, kOk_enc encT, putD, dctW, encG_len, f2]) [.v (TI r), a, e2, .v (.py (.int m)), .v (.loc h.length), s5, s6, s7, s8] (h ++ [.dct []]) ⟨⟨s5, s6, rfl, no⟩, rfl⟩
  subst i1 i2
  exact ⟨s4', s5', i3, e⟩
theorem lawbad_ok {F : FnS} {h : MH} {r : List Int} {a : Bool} {m : Nat} (hr : r.length ≤ 9) (hu : ∀ h p q, F 17 [.py (hP p), .py (hP q), AimD a] h = .ok (.py (.bool (unlike a p q))) h) (e2 s5 s6 s7 : Sl) (no : ∀ xs, s6 ≠ .o xs) :
    ∃ bs : List PyData, bs.isEmpty = fineB r a m ∧ (ev F (.lk 4 (.sto 7 (.lc [6] (.tn 6) (.dk 4) (t__law_told_by_2) (.varV 6))))).S [.v (TI r), .v (AimD a), e2, .v (.py (.int m)), .v (.loc h.length), s5, s6, s7, .u] (h ++ [.dct (encG kTu gV (grpG (rowsG r m (hdL r.length))))])
      = .nx [.v (TI r), .v (AimD a), e2, .v (.py (.int m)), .v (.loc h.length), s5, s6, .o bs, .u] (h ++ [.dct (encG kTu gV (grpG (rowsG r m (hdL r.length))))]) := by
  rw [← fineA_eq]
  unfold fineA
  generalize hG : grpG (rowsG r m (hdL r.length)) = G
  have nd : (G.map (·.1)).Nodup := by rw [← hG]; exact grp_nodup _
  have gl : G.length ≤ 18 := by
    rw [← hG]
    refine Nat.le_trans (grp_len _) ?_
    simp [rowsG, hdL_len]; omega
  have pl : ∀ x ∈ G, x.2.length < 60 ∧ x.2 ≠ [] := fun x hx => by
    rw [← hG] at hx
    obtain ⟨h1, e⟩ := (grp_mem _ x.1 x.2).mp hx
    rw [e, grpOf_rows]
    refine ⟨Nat.lt_of_le_of_lt (List.length_filter_le _ _) (by rw [hdL_len]; omega), fun z => ?_⟩
    unfold rowsG at h1
    rw [List.map_map] at h1
    obtain ⟨p, hp, e⟩ := List.mem_map.mp h1
    have : p ∈ (hdL r.length).filter fun p => decide (feltL r p m = x.1) := List.mem_filter.mpr ⟨hp, by simpa using e⟩
    rw [z] at this; cases this
  let tB : List Int × List (Int × Int) → Bool := fun x => !(x.2.all fun p => !unlike a (x.2.headD (0, 0)) p)
  have L := lcF_pureA (g := (ev F (.tn 6)).G) (ft := (ev F t__law_told_by_2).T) (fe := (ev F (.varV 6)).E) (env := [.v (TI r), .v (AimD a), e2, .v (.py (.int m)), .v (.loc h.length), s5, .u, s7, .u]) (h := h ++ [.lck (encG kTu gV G)]) (fun x => .py (kTu x.1)) tB (fun x => kTu x.1) (xs := G) (fun x hx => by
    obtain ⟨p1, p2⟩ := pl x hx
    refine ⟨_, rfl, ?_, fun _ => rfl⟩
    obtain ⟨k, ps⟩ := x
    cases ps with
    | nil => exact absurd rfl p2
    | cons y ys =>
      have p1 : (y :: ys).length < 60 := p1
      have lk := look_of nd hx
      have Li := lcF_pureA (g := (ev F (.tn 8)).G) (ft := (ev F t__law_told_by_1).T) (fe := (ev F (.varV 8)).E) (env := [.v (TI r), .v (AimD a), e2, .v (.py (.int m)), .v (.loc h.length), s5, .v (.py (kTu k)), s7, .u]) (h := h ++ [.lck (encG kTu gV G)]) (D.py ∘ hP) (fun p => unlike a y p) hP (xs := y :: ys) (fun p hp => by
        refine ⟨_, rfl, ?_, fun _ => rfl⟩
        have e1 := hu (h ++ [.lck (encG kTu gV G)]) y p
        simp [callD, startE, look, lookV, Sl.get, Sl.getV, frzE, stoE, binF, addO, catL, iop, gAdd, gSub, gMul, gDiv, gMod, gPow, KF.listOf, ixU, dctAt, inUD, ninUD, inK, putU, ixO, ixD, L2.atI, L2.ixN, negD, truD, cmpF, icmp, isND, notND, isN, biF, fLen, lenD, fInt, fMax2, fMin2, fAbs, fTup, fLst, allPy, mkTup, mkLst, asI, revT, isiD, tyD, isTy, putO, putL, augF, promO, wipeE, itU, t__law_told_by_1, getD', kOk_enc encT, getK_enc encT, lk, gV, e1])
      have Li' : lcF (ev F (.tn 8)).G (ev F t__law_told_by_1).T (ev F (.varV 8)).E [.v (TI r), .v (AimD a), e2, .v (.py (.int m)), .v (.loc h.length), s5, .v (.py (kTu k)), s7, .u] (.py (hP y) :: ys.map (D.py ∘ hP)) (h ++ [.lck (encG kTu gV G)]) = _ := Li
      have f1 : fits ((y :: ys).filter fun p => unlike a y p).length = true := fits_small (Nat.le_trans (List.length_filter_le _ _) (by omega))
      have es : ∀ xs : List (Int × Int), shal 64 (.list (xs.map hP)) = true := hsh
      have tb : tB (k, y :: ys) = !((y :: ys).filter fun p => unlike a y p).isEmpty := by
        show (!((y :: ys).all fun p => !unlike a y p)) = _
        congr 1
        generalize y :: ys = zs
        induction zs with
        | nil => rfl
        | cons z zs ih =>
          rw [List.all_cons, List.filter_cons, ih]
          cases unlike a y z <;> simp
      rw [tb]
      generalize (y :: ys).filter (fun p => unlike a y p) = zs at Li Li' f1
      simp [callD, startE, look, lookV, Sl.get, Sl.getV, frzE, stoE, binF, addO, catL, iop, gAdd, gSub, gMul, gDiv, gMod, gPow, KF.listOf, ixU, dctAt, inUD, ninUD, inK, putU, ixO, ixD, L2.atI, L2.ixN, negD, truD, cmpF, icmp, isND, notND, isN, biF, fLen, lenD, fInt, fMax2, fMin2, fAbs, fTup, fLst, allPy, mkTup, mkLst, asI, revT, isiD, tyD, isTy, putO, putL, augF, promO, wipeE, itU, t__law_told_by_2, getD', kOk_enc encT, getK_enc encT, lk, gV, Li', mkL, f1, neD, eqD, shal]
      cases zs <;> simp [PyData.eqv, PyData.eqvAll])
  have f4 : fits (G.filter tB).length = true := fits_small (Nat.le_trans (List.length_filter_le _ _) (by omega))
  refine ⟨(G.filter tB).map fun x => kTu x.1, ?_, ?_⟩
  · clear L f4 pl gl nd hG
    induction G with
    | nil => rfl
    | cons x q ih =>
      rw [List.all_cons, List.filter_cons, ← ih]
      show _ = ((x.2.all fun p => !unlike a (x.2.headD (0, 0)) p) && _)
      cases e : x.2.all fun p => !unlike a (x.2.headD (0, 0)) p with
      | true =>
        have : tB x = false := by show (!(x.2.all fun p => !unlike a (x.2.headD (0, 0)) p)) = false; rw [e]; rfl
        rw [this]; simp
      | false =>
        have : tB x = true := by show (!(x.2.all fun p => !unlike a (x.2.headD (0, 0)) p)) = true; rw [e]; rfl
        rw [this]; simp
  · cases s6 with
    | o xs => exact absurd rfl (no xs)
    | u => simp [callD, startE, look, lookV, Sl.get, Sl.getV, frzE, stoE, binF, addO, catL, iop, gAdd, gSub, gMul, gDiv, gMod, gPow, KF.listOf, ixU, dctAt, inUD, ninUD, inK, putU, ixO, ixD, L2.atI, L2.ixN, negD, truD, cmpF, icmp, isND, notND, isN, biF, fLen, lenD, fInt, fMax2, fMin2, fAbs, fTup, fLst, allPy, mkTup, mkLst, asI, revT, isiD, tyD, isTy, putO, putL, augF, promO, wipeE, itU, dctO, lckAt, sKs_enc encT, keysL_enc, L, mkL, f4, unlkS, freeD]
    | v d => simp [callD, startE, look, lookV, Sl.get, Sl.getV, frzE, stoE, binF, addO, catL, iop, gAdd, gSub, gMul, gDiv, gMod, gPow, KF.listOf, ixU, dctAt, inUD, ninUD, inK, putU, ixO, ixD, L2.atI, L2.ixN, negD, truD, cmpF, icmp, isND, notND, isN, biF, fLen, lenD, fInt, fMax2, fMin2, fAbs, fTup, fLst, allPy, mkTup, mkLst, asI, revT, isiD, tyD, isTy, putO, putL, augF, promO, wipeE, itU, dctO, lckAt, sKs_enc encT, keysL_enc, L, mkL, f4, unlkS, freeD]
theorem toldby_ok (H14 : findD P 14 = some p__law_holds) (H15 : findD P 15 = some p__law_felt) (H17 : findD P 17 = some p__law_unlike) (H : findD P 69 = some p__law_told_by) (n : Nat) (h : MH) (r : List Int) (hr : 1 ≤ r.length) (hl : r.length ≤ 9) (a : Bool) :
    ∃ j, runF P (n + 2) 69 [TI r, AimD a] h = .ok (.py (optI (leastM r a))) (h ++ j) := by
  rw [run_of H]
  have f15 : ∀ (m : Nat), m ≤ 9 → ∀ h q, HdOk r.length q → runF P (n + 1) 15 [TI r, .py (hP q), .py (.int m)] h = .ok (TI (feltL r q m)) h := fun m hm h q hq => lawfelt_ok H15 n h r hr q hq m (by omega)
  have f17 : ∀ h p q, runF P (n + 1) 17 [.py (hP p), .py (hP q), AimD a] h = .ok (.py (.bool (unlike a p q))) h := fun h p q => unlike_ok H17 n h a p q
  have f14 := holds_ok H14 n h r hl
  have L := forF_exit (g := (ev (runF P (n + 1)) (.tn 3)).G) (b := (ev (runF P (n + 1)) b__law_told_by_2).S) (fun (k : Nat) => D.py (.int (k : Nat)))
    (fun pre env h' => (∃ s3 s4 s5 s6 s7, env = [.v (TI r), .v (AimD a), .v (.py (.list ((hdL r.length).map hP))), s3, s4, s5, s6, s7, .u] ∧ ∀ xs, s6 ≠ .o xs) ∧ (∃ j, h' = h ++ j) ∧ pre = List.range pre.length ∧ (List.range pre.length).find? (fineB r a) = none)
    (fun d h' => (∃ j, h' = h ++ j) ∧ d = .py (optI (leastM r a))) (List.range (r.length + 1)) (fun pre m suf env h' e ⟨⟨s3, s4, s5, s6, s7, e1, e5⟩, ⟨j, e2⟩, e3, e4⟩ => by
      subst e1 e2
      have hm : m = pre.length ∧ m < r.length + 1 := by
        have q := congrArg (fun l => l[pre.length]?) e
        have hl2 : pre.length < r.length + 1 := by
          have := congrArg List.length e
          simp at this; omega
        simp [hl2] at q
        omega
      obtain ⟨hm1, hm2⟩ := hm
      obtain ⟨s5', s6', no6, g1⟩ := lawgroups_loop (F := runF P (n + 1)) (h := h ++ j) (r := r) (a := .v (AimD a)) (e2 := .v (.py (.list ((hdL r.length).map hP)))) (s7 := s7) (s8 := .u) (m := m) hl (f15 m (by omega)) s5 s6 e5
      obtain ⟨bs, hb, g2⟩ := lawbad_ok (F := runF P (n + 1)) (h := h ++ j) (r := r) (a := a) (m := m) hl f17 (.v (.py (.list ((hdL r.length).map hP)))) s5' s6' s7 no6
      have pm : pre ++ [m] = List.range (pre ++ [m]).length := by
        rw [List.length_append, List.length_singleton, List.range_succ, ← e3, hm1]
      rw [← hm1] at e4
      refine ⟨[.v (TI r), .v (AimD a), .v (.py (.list ((hdL r.length).map hP))), .v (.py (.int m)), s4, s5, s6, s7, .u], rfl, ?_⟩
      have key : (ev (runF P (n + 1)) b__law_told_by_2).S [.v (TI r), .v (AimD a), .v (.py (.list ((hdL r.length).map hP))), .v (.py (.int m)), s4, s5, s6, s7, .u] (h ++ j) = if fineB r a m = true then .rt (.py (.int m)) (h ++ j ++ [.dct (encG kTu gV (grpG (rowsG r m (hdL r.length))))]) else .nx [.v (TI r), .v (AimD a), .v (.py (.list ((hdL r.length).map hP))), .v (.py (.int m)), .v (.loc (h ++ j).length), s5', s6', .o bs, .u] (h ++ j ++ [.dct (encG kTu gV (grpG (rowsG r m (hdL r.length))))]) := by
        rw [← hb]
        unfold b__law_told_by_2
        rw [S_sq, S_asg, E_dnew, toS_ok]
        simp only [G_tn, List.length_cons, List.length_nil, Nat.reduceAdd, Nat.reduceLT, if_true, List.set_cons_succ, List.set_cons_zero, thn_nx, S_sq, S_fr, I_seq, E_varV, lookV, List.getElem?_cons_succ, List.getElem?_cons_zero, Option.bind_some, Sl.getV, lift_some, bind_ok, itU, List.map_map, toS_ok, g1, g2]
        cases bs with
        | nil => simp [callD, startE, look, lookV, Sl.get, Sl.getV, frzE, stoE, binF, addO, catL, iop, gAdd, gSub, gMul, gDiv, gMod, gPow, KF.listOf, ixU, dctAt, inUD, ninUD, inK, putU, ixO, ixD, L2.atI, L2.ixN, negD, truD, cmpF, icmp, isND, notND, isN, biF, fLen, lenD, fInt, fMax2, fMin2, fAbs, fTup, fLst, allPy, mkTup, mkLst, asI, revT, isiD, tyD, isTy, putO, putL, augF, promO, wipeE, itU, eqD, shal, PyData.eqv, PyData.eqvAll]
        | cons x xs => simp [callD, startE, look, lookV, Sl.get, Sl.getV, frzE, stoE, binF, addO, catL, iop, gAdd, gSub, gMul, gDiv, gMod, gPow, KF.listOf, ixU, dctAt, inUD, ninUD, inK, putU, ixO, ixD, L2.atI, L2.ixN, negD, truD, cmpF, icmp, isND, notND, isN, biF, fLen, lenD, fInt, fMax2, fMin2, fAbs, fTup, fLst, allPy, mkTup, mkLst, asI, revT, isiD, tyD, isTy, putO, putL, augF, promO, wipeE, itU, eqD, shal, PyData.eqv, PyData.eqvAll]
      rw [key]
      cases hf : fineB r a m with
      | true =>
        refine .inr ⟨_, _, rfl, ⟨j ++ [.dct (encG kTu gV (grpG (rowsG r m (hdL r.length))))], by simp⟩, ?_⟩
        unfold leastM
        rw [find_first e4 hm2 hf]
        rfl
      | false =>
        refine .inl ⟨_, _, rfl, ⟨_, _, _, _, _, rfl, no6⟩, ⟨j ++ [.dct (encG kTu gV (grpG (rowsG r m (hdL r.length))))], by simp⟩, pm, ?_⟩
        rw [List.length_append, List.length_singleton, ← hm1, find_snoc e4, hf]
        rfl) [.v (TI r), .v (AimD a), .v (.py (.list ((hdL r.length).map hP))), .u, .u, .u, .u, .u, .u] h ⟨⟨_, _, _, _, _, rfl, fun _ z => nomatch z⟩, ⟨[], by simp⟩, rfl, rfl⟩
  rw [← rngL_map] at L
  have z1 : rng1 [.py (.int ((r.length : Int) + 1))] = some (rngL 0 (r.length + 1)) := rng1_nat (r.length + 1) (by omega)
  rcases L with ⟨env', h', e, ⟨s3, s4, s5, s6, s7, e1, _⟩, ⟨j, e2⟩, _, e4⟩ | ⟨d, h', e, ⟨j, e2⟩, e3⟩
  · subst e1 e2
    refine ⟨j, ?_⟩
    have : leastM r a = none := by
      unfold leastM
      simpa using e4
    rw [this]
    simp [callD, startE, look, lookV, Sl.get, Sl.getV, frzE, stoE, binF, addO, catL, iop, gAdd, gSub, gMul, gDiv, gMod, gPow, KF.listOf, ixU, dctAt, inUD, ninUD, inK, putU, ixO, ixD, L2.atI, L2.ixN, negD, truD, cmpF, icmp, isND, notND, isN, biF, fLen, lenD, fInt, fMax2, fMin2, fAbs, fTup, fLst, allPy, mkTup, mkLst, asI, revT, isiD, tyD, isTy, putO, putL, augF, promO, wipeE, itU, p__law_told_by, k__law_told_by, f14, iL_len, z1, e, optI]
  · subst e2 e3
    refine ⟨j, ?_⟩
    simp [callD, startE, look, lookV, Sl.get, Sl.getV, frzE, stoE, binF, addO, catL, iop, gAdd, gSub, gMul, gDiv, gMod, gPow, KF.listOf, ixU, dctAt, inUD, ninUD, inK, putU, ixO, ixD, L2.atI, L2.ixN, negD, truD, cmpF, icmp, isND, notND, isN, biF, fLen, lenD, fInt, fMax2, fMin2, fAbs, fTup, fLst, allPy, mkTup, mkLst, asI, revT, isiD, tyD, isTy, putO, putL, augF, promO, wipeE, itU, p__law_told_by, k__law_told_by, f14, iL_len, z1, e]
end LW
set_option Elab.async false
set_option linter.all false
set_option maxRecDepth 100000
set_option maxHeartbeats 4000000
/-! k18: the law's own least number -/
namespace LW
open PySem KF
variable {P : Prog}
theorem lawgroups2_loop {F : FnS} {h : MH} {r : List Int} {a s7 s8 s9 : Sl} {m : Nat} (hr : r.length ≤ 9) (hf : ∀ h q, HdOk r.length q → F 15 [TI r, .py (hP q), .py (.int m)] h = .ok (TI (feltL r q m)) h) (s5 s6 : Sl) (no : ∀ xs, s6 ≠ .o xs) :
    ∃ s5' s6', (∀ xs, s6' ≠ .o xs) ∧ forF (ev F (.tn 4)).G (ev F b__law_told_by_v2_1).S ((hdL r.length).map (D.py ∘ hP)) [.v (TI r), a, .v (.py (.int m)), .v (.loc h.length), s5, s6, s7, s8, s9] (h ++ [.dct []])
      = .nx [.v (TI r), a, .v (.py (.int m)), .v (.loc h.length), s5', s6', s7, s8, s9] (h ++ [.dct (encG kTu gV (grpG (rowsG r m (hdL r.length))))]) := by
  obtain ⟨env', h', e, ⟨s4', s5', i1, i3⟩, i2⟩ := forF_rel (g := (ev F (.tn 4)).G) (b := (ev F b__law_told_by_v2_1).S) (D.py ∘ hP) (fun pre env h' => (∃ s5 s6, env = [.v (TI r), a, .v (.py (.int m)), .v (.loc h.length), s5, s6, s7, s8, s9] ∧ ∀ xs, s6 ≠ .o xs) ∧ h' = h ++ [.dct (encG kTu gV (grpG (rowsG r m pre)))]) (hdL r.length)
    (fun pre x suf env h' e ⟨⟨s4, s5, e1, e5⟩, e2⟩ => by
      subst e1 e2
      have hx : HdOk r.length x := hdL_ok (by rw [e]; simp)
      have fx := hf (h ++ [.dct (encG kTu gV (grpG (rowsG r m pre)))]) x hx
      have hlen : pre.length < 18 := by
        have := congrArg List.length e
        rw [hdL_len] at this
        simp at this
        omega
      have gl := grp_len (rowsG r m pre)
      have gl2 : (rowsG r m pre).length = pre.length := by simp [rowsG]
      have f1 : fits (((lookG (grpG (rowsG r m pre)) (feltL r x m)).getD []).length + 1) = true := by
        rw [grp_look]
        apply fits_small
        split
        · rw [grpOf_rows]
          have := List.length_filter_le (fun p => decide (feltL r p m = feltL r x m)) pre
          show ((some (pre.filter fun p => decide (feltL r p m = feltL r x m))).getD []).length + 1 ≤ _
          simp only [Option.getD_some]
          omega
        · simp
      have f2 : (grpG (rowsG r m pre)).length < 16000000 := by omega
      have kt : PyData.tuple (iL (feltL r x m)) = kTu (feltL r x m) := rfl
      have e3 : rowsG r m (pre ++ [x]) = rowsG r m pre ++ [(feltL r x m, x)] := by simp [rowsG]
      refine ⟨_, [.v (TI r), a, .v (.py (.int m)), .v (.loc h.length), .v (.py (hP x)), .v (TI (feltL r x m)), s7, s8, s9], _, rfl, ?_, ⟨_, _, rfl, fun _ z => nomatch z⟩, rfl⟩
      rw [e3, grp_snoc, ← putK_enc encT]
      simp [callD, startE, look, lookV, Sl.get, Sl.getV, frzE, stoE, binF, addO, catL, iop, gAdd, gSub, gMul, gDiv, gMod, gPow, KF.listOf, ixU, dctAt, inUD, ninUD, inK, putU, ixO, ixD, L2.atI, L2.ixN, negD, truD, cmpF, icmp, isND, notND, isN, biF, fLen, lenD, fInt, fMax2, fMin2, fAbs, fTup, fLst, allPy, mkTup, mkLst, asI, revT, isiD, tyD, isTy, putO, putL, augF, promO, wipeE, itU, b__law_told_by_v2_1, fx, getX, dctAt, kt, kOk_enc encT, getK_enc encT, lookG_getD, putD, dctW, encG_len, f2]
      simp only [gV, List.length_map, List.length_singleton]
      rw [if_pos f1]
      simp [callD, startE, look, lookV, Sl.get, Sl.getV, frzE, stoE, binF, addO, catL, iop, gAdd, gSub, gMul, gDiv, gMod, gPow, KF.listOf, ixU, dctAt, inUD, ninUD, inK, putU, ixO, ixD, L2.atI, L2.ixN, negD, truD, cmpF, icmp, isND, notND, isN, biF, fLen, lenD, fInt, fMax2, fMin2, fAbs, fTup, fLst, allPy, mkTup, mkLst, asI, revT, isiD, tyD, isTy, putO, putL, augF, promO, wipeE, itU, kt, kOk_enc encT, putD, dctW, encG_len, f2]) [.v (TI r), a, .v (.py (.int m)), .v (.loc h.length), s5, s6, s7, s8, s9] (h ++ [.dct []]) ⟨⟨s5, s6, rfl, no⟩, rfl⟩
  subst i1 i2
  exact ⟨s4', s5', i3, e⟩
def cntU (a : Bool) (ps : List (Int × Int)) : Nat := (ps.filter fun p => unlike a (ps.headD (0, 0)) p).length
theorem cntU_zero (a : Bool) (ps : List (Int × Int)) : cntU a ps = 0 ↔ (ps.all fun p => !unlike a (ps.headD (0, 0)) p) = true := by
  unfold cntU
  rw [List.length_eq_zero_iff, List.filter_eq_nil_iff, List.all_eq_true]
  simp
def sumU (a : Bool) (G : List (List Int × List (Int × Int))) : Nat := (G.map fun x => cntU a x.2).sum
theorem sumU_zero (a : Bool) (G : List (List Int × List (Int × Int))) : sumU a G = 0 ↔ (G.all fun x => x.2.all fun p => !unlike a (x.2.headD (0, 0)) p) = true := by
  unfold sumU
  induction G with
  | nil => simp
  | cons x r ih =>
    rw [List.map_cons, List.sum_cons, List.all_cons, Bool.and_eq_true, ← ih, ← cntU_zero]
    omega
theorem cnt_loop {F : FnS} {h : MH} {r : D} {a : Bool} {m s4 : Sl} {G : List (List Int × List (Int × Int))} (nd : (G.map (·.1)).Nodup) (pl : ∀ x ∈ G, x.2.length < 60 ∧ x.2 ≠ []) (gl : G.length ≤ 18) (hu : ∀ h p q, F 17 [.py (hP p), .py (hP q), AimD a] h = .ok (.py (.bool (unlike a p q))) h) (s5 s7 : Sl) (no : ∀ xs, s5 ≠ .o xs) :
    ∃ s5' s7', (∀ xs, s5' ≠ .o xs) ∧ forF (ev F (.tn 5)).G (ev F b__law_told_by_v2_2).S (G.map fun x => .py (kTu x.1)) [.v r, .v (AimD a), m, .v (.loc h.length), s4, s5, .v (.py (.int 0)), s7, .u] (h ++ [.lck (encG kTu gV G)]) = .nx [.v r, .v (AimD a), m, .v (.loc h.length), s4, s5', .v (.py (.int (sumU a G : Nat))), s7', .u] (h ++ [.lck (encG kTu gV G)]) := by
  obtain ⟨env', h', e, s5', s7', e1, no5, e2⟩ := forF_rel (g := (ev F (.tn 5)).G) (b := (ev F b__law_told_by_v2_2).S) (fun x : List Int × List (Int × Int) => .py (kTu x.1)) (fun pre env h' => ∃ s5' s7', env = [.v r, .v (AimD a), m, .v (.loc h.length), s4, s5', .v (.py (.int (sumU a pre : Nat))), s7', .u] ∧ (∀ xs, s5' ≠ .o xs) ∧ h' = h ++ [.lck (encG kTu gV G)]) G (fun pre x suf env h' ex ⟨s5', s7', e1, no5, e2⟩ => by
    subst e1 e2
    have hx : x ∈ G := by rw [ex]; simp
    obtain ⟨p1, p2⟩ := pl x hx
    have lk := look_of nd hx
    obtain ⟨k, ps⟩ := x
    cases ps with
    | nil => exact absurd rfl p2
    | cons y ys =>
      have p1 : (y :: ys).length < 60 := p1
      have Li := lcF_pureA (g := (ev F (.tn 8)).G) (ft := (ev F t__law_told_by_v2_1).T) (fe := (ev F (.varV 8)).E) (env := [.v r, .v (AimD a), m, .v (.loc h.length), s4, .v (.py (kTu k)), .v (.py (.int (sumU a pre : Nat))), .v (.py (hP y)), .u]) (h := h ++ [.lck (encG kTu gV G)]) (D.py ∘ hP) (fun p => unlike a y p) hP (xs := y :: ys) (fun p hp => by
        refine ⟨[.v r, .v (AimD a), m, .v (.loc h.length), s4, .v (.py (kTu k)), .v (.py (.int (sumU a pre : Nat))), .v (.py (hP y)), .v (.py (hP p))], rfl, ?_, fun _ => rfl⟩
        have e1 := hu (h ++ [.lck (encG kTu gV G)]) y p
        simp [callD, startE, look, lookV, Sl.get, Sl.getV, frzE, stoE, binF, addO, catL, iop, gAdd, gSub, gMul, gDiv, gMod, gPow, KF.listOf, ixU, dctAt, inUD, ninUD, inK, putU, ixO, ixD, L2.atI, L2.ixN, negD, truD, cmpF, icmp, isND, notND, isN, biF, fLen, lenD, fInt, fMax2, fMin2, fAbs, fTup, fLst, allPy, mkTup, mkLst, asI, revT, isiD, tyD, isTy, putO, putL, augF, promO, wipeE, itU, t__law_told_by_v2_1, e1])
      have Li' : lcF (ev F (.tn 8)).G (ev F t__law_told_by_v2_1).T (ev F (.varV 8)).E [.v r, .v (AimD a), m, .v (.loc h.length), s4, .v (.py (kTu k)), .v (.py (.int (sumU a pre : Nat))), .v (.py (hP y)), .u] (.py (hP y) :: ys.map (D.py ∘ hP)) (h ++ [.lck (encG kTu gV G)]) = .ok (((y :: ys).filter fun p => unlike a y p).map hP) (h ++ [.lck (encG kTu gV G)]) := Li
      have f1 : fits ((y :: ys).filter fun p => unlike a y p).length = true := fits_small (Nat.le_trans (List.length_filter_le _ _) (by omega))
      have es : sumU a (pre ++ [(k, y :: ys)]) = sumU a pre + ((y :: ys).filter fun p => unlike a y p).length := by simp [sumU, cntU]
      refine ⟨[.v r, .v (AimD a), m, .v (.loc h.length), s4, .v (.py (kTu k)), .v (.py (.int (sumU a pre : Nat))), s7', .u], [.v r, .v (AimD a), m, .v (.loc h.length), s4, .v (.py (kTu k)), .v (.py (.int (sumU a (pre ++ [(k, y :: ys)]) : Nat))), .v (.py (hP y)), .u], _, rfl, ?_, _, _, rfl, (fun xs z => by cases z), rfl⟩
      rw [es]
      generalize (y :: ys).filter (fun p => unlike a y p) = zs at Li' f1
      simp [callD, startE, look, lookV, Sl.get, Sl.getV, frzE, stoE, binF, addO, catL, iop, gAdd, gSub, gMul, gDiv, gMod, gPow, KF.listOf, ixU, dctAt, inUD, ninUD, inK, putU, ixO, ixD, L2.atI, L2.ixN, negD, truD, cmpF, icmp, isND, notND, isN, biF, fLen, lenD, fInt, fMax2, fMin2, fAbs, fTup, fLst, allPy, mkTup, mkLst, asI, revT, isiD, tyD, isTy, putO, putL, augF, promO, wipeE, itU, b__law_told_by_v2_2, getD', kOk_enc encT, getK_enc encT, lk, gV, Li', mkL, f1]) [.v r, .v (AimD a), m, .v (.loc h.length), s4, s5, .v (.py (.int 0)), s7, .u] (h ++ [.lck (encG kTu gV G)]) ⟨s5, s7, rfl, no, rfl⟩
  subst e1 e2
  exact ⟨s5', s7', no5, e⟩
theorem toldby2_ok (H14 : findD P 14 = some p__law_holds) (H15 : findD P 15 = some p__law_felt) (H17 : findD P 17 = some p__law_unlike) (H : findD P 193 = some p__law_told_by_v2) (n : Nat) (h : MH) (r : List Int) (hr : 1 ≤ r.length) (hl : r.length ≤ 9) (a : Bool) :
    ∃ j, runF P (n + 2) 193 [TI r, AimD a] h = .ok (.py (optI (leastM r a))) (h ++ j) := by
  rw [run_of H]
  have f15 : ∀ (m : Nat), m ≤ 9 → ∀ h q, HdOk r.length q → runF P (n + 1) 15 [TI r, .py (hP q), .py (.int m)] h = .ok (TI (feltL r q m)) h := fun m hm h q hq => lawfelt_ok H15 n h r hr q hq m (by omega)
  have f17 : ∀ h p q, runF P (n + 1) 17 [.py (hP p), .py (hP q), AimD a] h = .ok (.py (.bool (unlike a p q))) h := fun h p q => unlike_ok H17 n h a p q
  have f14 : ∀ h, runF P (n + 1) 14 [TI r] h = .ok (.py (.list ((hdL r.length).map hP))) h := fun h => holds_ok H14 n h r hl
  have L := forF_exit (g := (ev (runF P (n + 1)) (.tn 2)).G) (b := (ev (runF P (n + 1)) b__law_told_by_v2_3).S) (fun (k : Nat) => D.py (.int (k : Nat)))
    (fun pre env h' => (∃ s2 s3 s4 s5 s6 s7, env = [.v (TI r), .v (AimD a), s2, s3, s4, s5, s6, s7, .u] ∧ ∀ xs, s5 ≠ .o xs) ∧ (∃ j, h' = h ++ j) ∧ pre = List.range pre.length ∧ (List.range pre.length).find? (fineB r a) = none)
    (fun d h' => (∃ j, h' = h ++ j) ∧ d = .py (optI (leastM r a))) (List.range (r.length + 1)) (fun pre m suf env h' e ⟨⟨s2, s3, s4, s5, s6, s7, e1, e5⟩, ⟨j, e2⟩, e3, e4⟩ => by
      subst e1 e2
      have hm : m = pre.length ∧ m < r.length + 1 := by
        have q := congrArg (fun l => l[pre.length]?) e
        have hl2 : pre.length < r.length + 1 := by
          have := congrArg List.length e
          simp at this; omega
        simp [hl2] at q
        omega
      obtain ⟨hm1, hm2⟩ := hm
      obtain ⟨s4', s5', no5, g1⟩ := lawgroups2_loop (F := runF P (n + 1)) (h := h ++ j) (r := r) (a := .v (AimD a)) (s7 := s6) (s8 := s7) (s9 := .u) (m := m) hl (f15 m (by omega)) s4 s5 e5
      have pm : pre ++ [m] = List.range (pre ++ [m]).length := by
        rw [List.length_append, List.length_singleton, List.range_succ, ← e3, hm1]
      rw [← hm1] at e4
      have hfe := fineA_eq r a m
      unfold fineA at hfe
      generalize hG : grpG (rowsG r m (hdL r.length)) = G at g1 hfe
      have nd : (G.map (·.1)).Nodup := by rw [← hG]; exact grp_nodup _
      have gl : G.length ≤ 18 := by
        rw [← hG]
        refine Nat.le_trans (grp_len _) ?_
        simp [rowsG, hdL_len]; omega
      have pl : ∀ x ∈ G, x.2.length < 60 ∧ x.2 ≠ [] := fun x hx => by
        rw [← hG] at hx
        obtain ⟨h1, e⟩ := (grp_mem _ x.1 x.2).mp hx
        rw [e, grpOf_rows]
        refine ⟨Nat.lt_of_le_of_lt (List.length_filter_le _ _) (by rw [hdL_len]; omega), fun z => ?_⟩
        unfold rowsG at h1
        rw [List.map_map] at h1
        obtain ⟨p, hp, e⟩ := List.mem_map.mp h1
        have : p ∈ (hdL r.length).filter fun p => decide (feltL r p m = x.1) := List.mem_filter.mpr ⟨hp, by simpa using e⟩
        rw [z] at this; cases this
      obtain ⟨t5, t7, no5', g2⟩ := cnt_loop (F := runF P (n + 1)) (h := h ++ j) (r := TI r) (a := a) (m := .v (.py (.int m))) (s4 := s4') nd pl gl f17 s5' s7 no5
      have hz := sumU_zero a G
      rw [hfe] at hz
      refine ⟨[.v (TI r), .v (AimD a), .v (.py (.int m)), s3, s4, s5, s6, s7, .u], rfl, ?_⟩
      have key : (ev (runF P (n + 1)) b__law_told_by_v2_3).S [.v (TI r), .v (AimD a), .v (.py (.int m)), s3, s4, s5, s6, s7, .u] (h ++ j) = if fineB r a m = true then .rt (.py (.int m)) (h ++ j ++ [.dct (encG kTu gV G)]) else .nx [.v (TI r), .v (AimD a), .v (.py (.int m)), .v (.loc (h ++ j).length), s4', t5, .v (.py (.int (sumU a G : Nat))), t7, .u] (h ++ j ++ [.dct (encG kTu gV G)]) := by
        unfold b__law_told_by_v2_3
        have f14' := f14 (h ++ j ++ [.dct []])
        generalize (h ++ j) = hh at *
        simp only [S_sq, S_asg, E_dnew, toS_ok, G_tn, List.length_cons, List.length_nil, Nat.reduceAdd, Nat.reduceLT, if_true, List.set_cons_succ, List.set_cons_zero, thn_nx, S_fr, I_seq, E_fn, A_cons, A_nil, E_varV, lookV, List.getElem?_cons_succ, List.getElem?_cons_zero, Option.bind_some, Sl.getV, lift_some, bind_ok, f14', itU, List.map_map, g1]
        by_cases hf : fineB r a m = true
        · have z0 := hz.mpr hf
          rw [z0] at g2
          simp [callD, startE, look, lookV, Sl.get, Sl.getV, frzE, stoE, binF, addO, catL, iop, gAdd, gSub, gMul, gDiv, gMod, gPow, KF.listOf, ixU, dctAt, inUD, ninUD, inK, putU, ixO, ixD, L2.atI, L2.ixN, negD, truD, cmpF, icmp, isND, notND, isN, biF, fLen, lenD, fInt, fMax2, fMin2, fAbs, fTup, fLst, allPy, mkTup, mkLst, asI, revT, isiD, tyD, isTy, putO, putL, augF, promO, wipeE, itU, dctO, lckAt, sKs_enc encT, keysL_enc, g2, unlkS, freeD, eqD, shal_int, eqv_ii, hf]
        · have z0 : sumU a G ≠ 0 := fun z => hf (hz.mp z)
          simp [callD, startE, look, lookV, Sl.get, Sl.getV, frzE, stoE, binF, addO, catL, iop, gAdd, gSub, gMul, gDiv, gMod, gPow, KF.listOf, ixU, dctAt, inUD, ninUD, inK, putU, ixO, ixD, L2.atI, L2.ixN, negD, truD, cmpF, icmp, isND, notND, isN, biF, fLen, lenD, fInt, fMax2, fMin2, fAbs, fTup, fLst, allPy, mkTup, mkLst, asI, revT, isiD, tyD, isTy, putO, putL, augF, promO, wipeE, itU, dctO, lckAt, sKs_enc encT, keysL_enc, g2, unlkS, freeD, eqD, shal_int, eqv_ii, hf, z0]
      rw [key]
      cases hf : fineB r a m with
      | true =>
        refine .inr ⟨_, _, rfl, ⟨j ++ [.dct (encG kTu gV G)], by simp⟩, ?_⟩
        unfold leastM
        rw [find_first e4 hm2 hf]
        rfl
      | false =>
        refine .inl ⟨_, _, rfl, ⟨_, _, _, _, _, _, rfl, no5'⟩, ⟨j ++ [.dct (encG kTu gV G)], by simp⟩, pm, ?_⟩
        rw [List.length_append, List.length_singleton, ← hm1, find_snoc e4, hf]
        rfl) [.v (TI r), .v (AimD a), .u, .u, .u, .u, .u, .u, .u] h ⟨⟨_, _, _, _, _, _, rfl, fun _ z => nomatch z⟩, ⟨[], by simp⟩, rfl, rfl⟩
  rw [← rngL_map] at L
  have z1 : rng1 [.py (.int ((r.length : Int) + 1))] = some (rngL 0 (r.length + 1)) := rng1_nat (r.length + 1) (by omega)
  rcases L with ⟨env', h', e, ⟨s2, s3, s4, s5, s6, s7, e1, _⟩, ⟨j, e2⟩, _, e4⟩ | ⟨d, h', e, ⟨j, e2⟩, e3⟩
  · subst e1 e2
    refine ⟨j, ?_⟩
    have : leastM r a = none := by
      unfold leastM
      simpa using e4
    rw [this]
    simp [callD, startE, look, lookV, Sl.get, Sl.getV, frzE, stoE, binF, addO, catL, iop, gAdd, gSub, gMul, gDiv, gMod, gPow, KF.listOf, ixU, dctAt, inUD, ninUD, inK, putU, ixO, ixD, L2.atI, L2.ixN, negD, truD, cmpF, icmp, isND, notND, isN, biF, fLen, lenD, fInt, fMax2, fMin2, fAbs, fTup, fLst, allPy, mkTup, mkLst, asI, revT, isiD, tyD, isTy, putO, putL, augF, promO, wipeE, itU, p__law_told_by_v2, k__law_told_by_v2, iL_len, z1, e, optI]
  · subst e2 e3
    refine ⟨j, ?_⟩
    simp [callD, startE, look, lookV, Sl.get, Sl.getV, frzE, stoE, binF, addO, catL, iop, gAdd, gSub, gMul, gDiv, gMod, gPow, KF.listOf, ixU, dctAt, inUD, ninUD, inK, putU, ixO, ixD, L2.atI, L2.ixN, negD, truD, cmpF, icmp, isND, notND, isN, biF, fLen, lenD, fInt, fMax2, fMin2, fAbs, fTup, fLst, allPy, mkTup, mkLst, asI, revT, isiD, tyD, isTy, putO, putL, augF, promO, wipeE, itU, p__law_told_by_v2, k__law_told_by_v2, iL_len, z1, e]
end LW
set_option Elab.async false
set_option linter.all false
set_option maxRecDepth 100000
set_option maxHeartbeats 4000000
/-! KM, part E: rings turned and flipped. -/
namespace LW
open PySem KF
open PySem.W (dataLt minD)
/-! ### the least of some rows -/
def minL (x : List Int) (xs : List (List Int)) : List Int := xs.foldl (fun m y => if ltIs y m = true then y else m) x
theorem minL_spec : ∀ (xs : List (List Int)) (x : List Int), minL x xs ∈ x :: xs ∧ ∀ y ∈ x :: xs, ltIs y (minL x xs) = false
  | [], x => ⟨by simp [minL], fun y hy => by simp at hy; subst hy; exact ltIs_irr _⟩
  | z :: r, x => by
    have e : minL x (z :: r) = minL (if ltIs z x = true then z else x) r := rfl
    rw [e]
    obtain ⟨h1, h2⟩ := minL_spec r (if ltIs z x = true then z else x)
    have key : ∀ y, ltIs y (minL (if ltIs z x = true then z else x) r) = true → ∀ u, ltIs u y = true ∨ u = y → ltIs u (minL (if ltIs z x = true then z else x) r) = true := fun y hy u hu => by
      rcases hu with hu | hu
      · exact ltIs_tr hu hy
      · rw [hu]; exact hy
    refine ⟨?_, fun y hy => ?_⟩
    · rcases List.mem_cons.mp h1 with e | e
      · rw [e]
        split
        · simp
        · simp
      · exact List.mem_cons_of_mem _ (List.mem_cons_of_mem _ e)
    · have h0 := h2 _ List.mem_cons_self
      have hx : ltIs x (minL (if ltIs z x = true then z else x) r) = false := by
        by_cases c : ltIs z x = true
        · rw [if_pos c] at h0 ⊢
          cases q : ltIs x (minL z r) with
          | false => rfl
          | true => rw [ltIs_tr c q] at h0; cases h0
        · rw [if_neg c] at h0 ⊢; exact h0
      have hz : ltIs z (minL (if ltIs z x = true then z else x) r) = false := by
        by_cases c : ltIs z x = true
        · rw [if_pos c] at h0 ⊢; exact h0
        · rw [if_neg c] at h0 ⊢
          cases q : ltIs z (minL x r) with
          | false => rfl
          | true =>
            rcases Bool.eq_false_or_eq_true (ltIs x z) with d | d
            · rw [ltIs_tr d q] at h0; cases h0
            · rw [ltIs_con (by simpa using c) d] at q
              rw [q] at h0; cases h0
      rcases List.mem_cons.mp hy with e | e
      · rw [e]; exact hx
      · rcases List.mem_cons.mp e with e | e
        · rw [e]; exact hz
        · exact h2 y (List.mem_cons_of_mem _ e)
theorem minL_uniq {x y : List Int} {xs ys : List (List Int)} (h : ∀ z, z ∈ x :: xs ↔ z ∈ y :: ys) : minL x xs = minL y ys := by
  obtain ⟨a1, a2⟩ := minL_spec xs x
  obtain ⟨b1, b2⟩ := minL_spec ys y
  exact ltIs_con (b2 _ ((h _).mp a1)) (a2 _ ((h _).mpr b1))
theorem minD_tI (x : List Int) (xs : List (List Int)) : minD (tI x) (xs.map tI) = tI (minL x xs) := by
  induction xs generalizing x with
  | nil => rfl
  | cons y r ih =>
    show (r.map tI).foldl _ (if dataLt (tI y) (tI x) = true then tI y else tI x) = tI (minL (if ltIs y x = true then y else x) r)
    rw [lt_tI]
    by_cases c : ltIs y x = true
    · rw [if_pos c, if_pos c]; exact ih y
    · rw [if_neg c, if_neg c]; exact ih x
/-! ### turned and flipped -/
def rotL (r : List Int) (k : Nat) : List Int := r.drop k ++ r.take k
def turnL (r : List Int) : List (List Int) := (List.range r.length).flatMap fun k => [rotL r k, (rotL r k).reverse]
def orbL (r : List Int) : List (List Int) := (hdL r.length).map fun p => feltL r p r.length
theorem hdL_mem {n : Nat} {p : Int × Int} : p ∈ hdL n ↔ HdOk n p := by
  refine ⟨hdL_ok, fun ⟨h1, h2, h3⟩ => ?_⟩
  obtain ⟨k, w⟩ := p
  refine List.mem_flatMap.mpr ⟨k.toNat, List.mem_range.mpr (by simp at h1 h2; omega), ?_⟩
  have e : ((k.toNat : Nat) : Int) = k := Int.toNat_of_nonneg h1
  simp only [e]
  rcases h3 with z | z
  · have : w = -1 := z; subst this; simp
  · have : w = 1 := z; subst this; simp
theorem feltL_len (r : List Int) (p : Int × Int) (n : Nat) : (feltL r p n).length = n := by simp [feltL]
theorem feltL_getD (r : List Int) (p : Int × Int) {n j : Nat} (h : j < n) : (feltL r p n).getD j 0 = feltZ r p (j : Nat) := by
  simp [feltL, List.getD_eq_getElem?_getD, h]
theorem feltL_ext {r s : List Int} {p : Int × Int} {n : Nat} (hs : s.length = n) (h : ∀ j, j < n → feltZ r p (j : Nat) = s.getD j 0) : feltL r p n = s := by
  refine List.ext_getElem? fun j => ?_
  by_cases c : j < n
  · have e1 : (feltL r p n)[j]? = some (feltZ r p (j : Nat)) := by simp [feltL, c]
    have e2 : s[j]? = some (s.getD j 0) := by rw [List.getD_eq_getElem?_getD, List.getElem?_eq_getElem (by omega)]; rfl
    rw [e1, e2, h j c]
  · rw [List.getElem?_eq_none (by rw [feltL_len]; omega), List.getElem?_eq_none (by omega)]
theorem felt_id (r : List Int) (hr : 1 ≤ r.length) : feltL r (0, 1) r.length = r := by
  refine feltL_ext rfl fun j hj => ?_
  unfold feltZ
  rw [show (0 + 1 * ((j : Nat) : Int)) % (r.length : Int) = (j : Nat) from by rw [Int.zero_add, Int.one_mul]; exact Int.emod_eq_of_lt (by omega) (by omega)]
  simp
theorem felt_rot (r : List Int) {k : Nat} (hk : k < r.length) : feltL r ((k : Nat), 1) r.length = rotL r k := by
  refine feltL_ext (by simp [rotL]; omega) fun j hj => ?_
  unfold feltZ rotL
  simp only [Int.one_mul]
  rw [List.getD_eq_getElem?_getD, List.getD_eq_getElem?_getD]
  congr 1
  by_cases c : j < r.length - k
  · rw [List.getElem?_append_left (by simp; omega), List.getElem?_drop]
    have : ((k : Int) + (j : Nat)) % (r.length : Int) = ((k + j : Nat) : Int) := by
      rw [Int.emod_eq_of_lt (by omega) (by omega)]; omega
    rw [this, Int.toNat_natCast]
  · rw [List.getElem?_append_right (by simp; omega)]
    have : ((k : Int) + (j : Nat)) % (r.length : Int) = ((j - (r.length - k) : Nat) : Int) := by
      have e : (k : Int) + (j : Nat) = ((j - (r.length - k) : Nat) : Int) + (r.length : Int) := by omega
      rw [e, Int.add_emod_right]
      exact Int.emod_eq_of_lt (by omega) (by omega)
    rw [this]
    simp only [List.length_drop, Int.toNat_natCast]
    rw [List.getElem?_take, if_pos (by omega)]
theorem feltZ_rev (r : List Int) (hr : 1 ≤ r.length) (k : Int) (j : Nat) (hj : j < r.length) : feltZ r (k, -1) (j : Nat) = feltZ r ((k + 1) % (r.length : Int), 1) ((r.length - 1 - j : Nat) : Nat) := by
  unfold feltZ
  have e : ((k + 1) % (r.length : Int) + 1 * ((r.length - 1 - j : Nat) : Int)) % (r.length : Int) = (k + -1 * (j : Nat)) % (r.length : Int) := by
    rw [Int.one_mul, Int.emod_add_emod]
    have : k + 1 + ((r.length - 1 - j : Nat) : Int) = (k + -1 * (j : Nat)) + (r.length : Int) := by omega
    rw [this, Int.add_emod_right]
  simp only [e]
theorem felt_rev (r : List Int) {k : Nat} (hk : k < r.length) : feltL r ((k : Nat), -1) r.length = (rotL r ((k + 1) % r.length)).reverse := by
  have hk2 : (k + 1) % r.length < r.length := Nat.mod_lt _ (by omega)
  rw [← felt_rot r hk2]
  refine feltL_ext (by simp [feltL]) fun j hj => ?_
  rw [feltZ_rev r (by omega) _ _ hj, List.getD_eq_getElem?_getD, List.getElem?_reverse (by rw [feltL_len]; exact hj), feltL_len, ← List.getD_eq_getElem?_getD, feltL_getD _ _ (by omega)]
  congr 1
theorem turn_orb {r : List Int} (x : List Int) : x ∈ turnL r ↔ x ∈ orbL r := by
  constructor
  · intro h
    obtain ⟨k, hk, hx⟩ := List.mem_flatMap.mp h
    have hk := List.mem_range.mp hk
    rcases List.mem_cons.mp hx with e | e
    · rw [e, ← felt_rot r hk]
      exact List.mem_map.mpr ⟨_, hdL_mem.mpr ⟨by simp, by simpa using hk, .inr rfl⟩, rfl⟩
    · have e := List.mem_singleton.mp e
      have hq : (k + (r.length - 1)) % r.length < r.length := Nat.mod_lt _ (by omega)
      have e2 : ((k + (r.length - 1)) % r.length + 1) % r.length = k := by
        rw [Nat.mod_add_mod]
        have : k + (r.length - 1) + 1 = k + r.length := by omega
        rw [this, Nat.add_mod_right]
        exact Nat.mod_eq_of_lt hk
      have := felt_rev r hq
      rw [e2] at this
      rw [e, ← this]
      exact List.mem_map.mpr ⟨_, hdL_mem.mpr ⟨Int.natCast_nonneg _, Int.ofNat_lt.mpr hq, .inl rfl⟩, rfl⟩
  · intro h
    obtain ⟨p, hp, hx⟩ := List.mem_map.mp h
    obtain ⟨h1, h2, h3⟩ := hdL_ok hp
    obtain ⟨k, w⟩ := p
    obtain ⟨k, rfl⟩ : ∃ m : Nat, k = m := ⟨k.toNat, (Int.toNat_of_nonneg h1).symm⟩
    have hk : k < r.length := by simpa using h2
    rcases h3 with z | z
    · have : w = -1 := z
      subst this
      rw [felt_rev r hk] at hx
      exact List.mem_flatMap.mpr ⟨(k + 1) % r.length, List.mem_range.mpr (Nat.mod_lt _ (by omega)), by simp [hx]⟩
    · have : w = 1 := z
      subst this
      rw [felt_rot r hk] at hx
      exact List.mem_flatMap.mpr ⟨k, List.mem_range.mpr hk, by simp [hx]⟩
/-! ### the group -/
theorem felt_comp (r : List Int) (hr : 1 ≤ r.length) (p q : Int × Int) : feltL (feltL r p r.length) q r.length = feltL r ((p.1 + p.2 * q.1) % (r.length : Int), p.2 * q.2) r.length := by
  refine feltL_ext (by rw [feltL_len]) fun j hj => ?_
  rw [feltL_getD _ _ hj]
  have hm := modIx hr (q.1 + q.2 * (j : Nat))
  have e0 : feltZ (feltL r p r.length) q (j : Nat) = (feltL r p r.length).getD ((q.1 + q.2 * (j : Nat)) % (r.length : Int)).toNat 0 := by
    unfold feltZ
    rw [feltL_len]
  rw [e0, feltL_getD _ _ (by omega)]
  rw [show (((q.1 + q.2 * ((j : Nat) : Int)) % (r.length : Int)).toNat : Int) = (q.1 + q.2 * ((j : Nat) : Int)) % (r.length : Int) from Int.toNat_of_nonneg hm.1, feltZ_per]
  unfold feltZ
  congr 2
  rw [Int.emod_add_emod]
  congr 1
  rw [Int.mul_add, Int.add_assoc, Int.mul_assoc]
theorem orb_len {r s : List Int} (h : s ∈ orbL r) : s.length = r.length := by
  obtain ⟨p, _, e⟩ := List.mem_map.mp h
  rw [← e, feltL_len]
theorem orb_trans {r s t : List Int} (hr : 1 ≤ r.length) (h1 : s ∈ orbL r) (h2 : t ∈ orbL s) : t ∈ orbL r := by
  have hl := orb_len h1
  obtain ⟨p, hp, rfl⟩ := List.mem_map.mp h1
  obtain ⟨q, hq, e⟩ := List.mem_map.mp h2
  rw [hl] at e
  rw [felt_comp r hr] at e
  rw [hl] at hq
  obtain ⟨a1, a2, a3⟩ := hdL_ok hp
  obtain ⟨b1, b2, b3⟩ := hdL_ok hq
  refine List.mem_map.mpr ⟨_, hdL_mem.mpr ⟨(modIx hr _).1, (modIx hr _).2, ?_⟩, e⟩
  rcases a3 with z | z <;> rcases b3 with y | y <;> simp [z, y]
theorem orb_symm {r s : List Int} (hr : 1 ≤ r.length) (h : s ∈ orbL r) : r ∈ orbL s := by
  have hl := orb_len h
  obtain ⟨p, hp, rfl⟩ := List.mem_map.mp h
  obtain ⟨a1, a2, a3⟩ := hdL_ok hp
  obtain ⟨k, w⟩ := p
  simp only at a1 a2 a3
  unfold orbL
  rw [hl]
  rcases a3 with z | z
  · subst z
    refine List.mem_map.mpr ⟨(k, -1), hdL_mem.mpr ⟨a1, a2, .inl rfl⟩, ?_⟩
    rw [felt_comp r hr]
    have : (k + -1 * k) % (r.length : Int) = 0 := by rw [show k + -1 * k = 0 by omega]; simp
    show feltL r ((k + -1 * k) % (r.length : Int), -1 * -1) r.length = r
    rw [this]
    exact felt_id r hr
  · subst z
    refine List.mem_map.mpr ⟨((-k) % (r.length : Int), 1), hdL_mem.mpr ⟨(modIx hr _).1, (modIx hr _).2, .inr rfl⟩, ?_⟩
    rw [felt_comp r hr]
    have : (k + 1 * ((-k) % (r.length : Int))) % (r.length : Int) = 0 := by
      rw [Int.one_mul, Int.add_emod_emod, show k + -k = 0 by omega]; simp
    show feltL r ((k + 1 * ((-k) % (r.length : Int))) % (r.length : Int), 1 * 1) r.length = r
    rw [this]
    exact felt_id r hr
theorem orb_refl {r : List Int} (hr : 1 ≤ r.length) : r ∈ orbL r := List.mem_map.mpr ⟨(0, 1), hdL_mem.mpr ⟨by simp, by simp; omega, .inr rfl⟩, felt_id r hr⟩
def leastR (r : List Int) : List Int := match orbL r with
  | [] => []
  | x :: xs => minL x xs
theorem orb_ne {r : List Int} (hr : 1 ≤ r.length) : ∃ x xs, orbL r = x :: xs := by
  cases e : orbL r with
  | nil => have := orb_refl hr; rw [e] at this; cases this
  | cons x xs => exact ⟨x, xs, rfl⟩
theorem least_mem {r : List Int} (hr : 1 ≤ r.length) : leastR r ∈ orbL r := by
  obtain ⟨x, xs, e⟩ := orb_ne hr
  unfold leastR
  rw [e]
  exact (minL_spec xs x).1
theorem least_same {r s : List Int} (hr : 1 ≤ r.length) (hs : s.length = r.length) : leastR r = leastR s ↔ s ∈ orbL r := by
  have hs1 : 1 ≤ s.length := by omega
  constructor
  · intro h
    have h1 := least_mem hr
    have h2 := least_mem hs1
    rw [← h] at h2
    exact orb_trans hr h1 (orb_symm hs1 h2)
  · intro h
    obtain ⟨x, xs, e1⟩ := orb_ne hr
    obtain ⟨y, ys, e2⟩ := orb_ne hs1
    unfold leastR
    rw [e1, e2]
    refine minL_uniq fun z => ?_
    rw [← e1, ← e2]
    exact ⟨fun hz => orb_trans hs1 (orb_symm hr h) hz, fun hz => orb_trans hr h hz⟩
theorem turn_ne {r : List Int} (hr : 1 ≤ r.length) : ∃ x xs, turnL r = x :: xs := by
  cases e : turnL r with
  | nil => have := (turn_orb r).mpr (orb_refl hr); rw [e] at this; cases this
  | cons x xs => exact ⟨x, xs, rfl⟩
theorem least_turn {r : List Int} {x : List Int} {xs : List (List Int)} (e : turnL r = x :: xs) (hr : 1 ≤ r.length) : minL x xs = leastR r := by
  obtain ⟨y, ys, e2⟩ := orb_ne hr
  unfold leastR
  rw [e2]
  refine minL_uniq fun z => ?_
  rw [← e, ← e2]
  exact turn_orb z
theorem orb_cont {r s : List Int} (hr : 1 ≤ r.length) (h : s ∈ orbL r) {x : Int} (hx : x ∈ r) : x ∈ s := by
  have hl := orb_len h
  obtain ⟨p, hp, e⟩ := List.mem_map.mp (orb_symm hr h)
  rw [← e] at hx
  obtain ⟨j, _, ej⟩ := List.mem_map.mp hx
  have hs : 1 ≤ s.length := by omega
  have hm := modIx hs (p.1 + p.2 * (j : Nat))
  unfold feltZ at ej
  rw [← ej, List.getD_eq_getElem?_getD, List.getElem?_eq_getElem (by omega)]
  exact List.getElem_mem _
theorem turn_len (r : List Int) : (turnL r).length = 2 * r.length := by
  have key : ∀ n : Nat, ((List.range n).flatMap fun k => [rotL r k, (rotL r k).reverse]).length = 2 * n := fun n => by
    induction n with
    | zero => rfl
    | succ n ih => rw [List.range_succ, List.flatMap_append, List.length_append, ih]; simp; omega
  exact key _
theorem turn_len1 {r x : List Int} (h : x ∈ turnL r) : x.length = r.length := orb_len ((turn_orb x).mp h)
theorem turn_sub {r x : List Int} (hr : 1 ≤ r.length) (h : x ∈ turnL r) {i : Int} (hi : i ∈ x) : i ∈ r := by
  have h := (turn_orb x).mp h
  exact orb_cont (by rw [orb_len h]; exact hr) (orb_symm hr h) hi
end LW
set_option Elab.async false
set_option linter.all false
set_option maxRecDepth 100000
set_option maxHeartbeats 4000000
/-! KM, part F: least rings, rings turned, keys lost and put in. -/
namespace LW
open PySem KF
open PySem.W (dataLt minD maxD)
variable {P : Prog}
theorem al2_tI (a b : List Int) : al2 (tI a) (tI b) = true := by
  have h : ∀ c : List Int, (c.map PyData.int).all isI = true := fun c => by
    rw [List.all_eq_true]
    intro d hd
    obtain ⟨y, _, e⟩ := List.mem_map.mp hd
    rw [← e]; rfl
  unfold tI
  rw [al2, h a, h b]
  rfl
theorem shal_tI (a : List Int) (n : Nat) : shal (n + 1) (tI a) = true := shal_T a n
theorem eqv_tI (a b : List Int) : PyData.eqv (tI a) (tI b) = decide (a = b) := eqv_T a b
theorem min_tI (x : List Int) (xs : List (List Int)) (h : MH) : fMm minD h [.py (.list ((x :: xs).map tI))] = some (TI (minL x xs)) := by
  have e1 : oneForm (tI x) (xs.map tI) = true := by
    unfold oneForm
    rw [al2_tI, Bool.true_and, List.all_eq_true]
    intro d hd
    obtain ⟨y, _, e⟩ := List.mem_map.mp hd
    rw [← e]; exact al2_tI x y
  have e2 : ((x :: xs).map tI).all (shal 60) = true := by
    rw [List.all_eq_true]
    intro d hd
    obtain ⟨y, _, e⟩ := List.mem_map.mp hd
    rw [← e]; exact shal_tI y 59
  show (match (x :: xs).map tI with
    | x :: r => if (oneForm x r && (x :: r).all (shal 60)) = true then some (D.py (minD x r)) else none
    | [] => none) = _
  rw [List.map_cons] at e2 ⊢
  dsimp only
  rw [e1, e2, Bool.and_self, if_pos rfl, minD_tI]
  rfl
theorem leastof_ok (a6 : findD P 6 = some p_shape_at) (a7 : findD P 7 = some p_felt_by) (H9 : findD P 9 = some p_all_holds) (H : findD P 71 = some p_least_of_v2) (n : Nat) (h : MH) (r : List Int) (hr : 1 ≤ r.length) (hl : r.length ≤ 9) :
    runF P (n + 3) 71 [TI r] h = .ok (TI (leastR r)) h := by
  rw [run_of H]
  have h4 : ∀ q, HdOk r.length q → runF P (n + 2) 7 [TI r, .py (hP q), .py (.int r.length)] h = .ok (TI (feltL r q r.length)) h := fun q hq => feltby_ok a6 a7 n h r hr q (by rcases hq.2.2 with q | q <;> omega) r.length (by omega)
  have h5 := allholds_ok H9 (n + 1) h r hl
  have L := lcF_pureA (g := (ev (runF P (n + 2)) (.tn 1)).G) (ft := (ev (runF P (n + 2)) .yes).T) (fe := (ev (runF P (n + 2)) e_least_of_v2_1).E)
    (env := [.v (TI r), .u]) (h := h) (D.py ∘ hP) (fun _ => true) (fun q => tI (feltL r q r.length)) (xs := hdL r.length) (fun q hq => by
      refine ⟨[.v (TI r), .v (.py (hP q))], rfl, rfl, fun _ => ?_⟩
      have := h4 q (hdL_ok hq)
      simp [callD, startE, look, lookV, Sl.get, Sl.getV, frzE, stoE, binF, addO, catL, iop, gAdd, gSub, gMul, gDiv, gMod, gPow, KF.listOf, ixU, dctAt, inUD, ninUD, inK, putU, ixO, ixD, L2.atI, L2.ixN, negD, truD, cmpF, icmp, isND, notND, isN, biF, fLen, lenD, fInt, fMax2, fMin2, fAbs, fTup, fLst, allPy, mkTup, mkLst, asI, revT, isiD, tyD, isTy, putO, putL, augF, promO, wipeE, itU, e_least_of_v2_1, iL_len, this]
      rfl)
  rw [filter_true] at L
  have L' : lcF (ev (runF P (n + 2)) (.tn 1)).G (ev (runF P (n + 2)) .yes).T (ev (runF P (n + 2)) e_least_of_v2_1).E [.v (TI r), .u] ((hdL r.length).map (D.py ∘ hP)) h = .ok ((orbL r).map tI) h := by
    rw [L]
    congr 1
    unfold orbL
    rw [List.map_map]
    rfl
  have f4 : fits (orbL r).length = true := fits_small (by unfold orbL; rw [List.length_map, hdL_len]; omega)
  obtain ⟨x, xs, e⟩ := orb_ne hr
  have em := min_tI x xs h
  have eL : minL x xs = leastR r := by unfold leastR; rw [e]
  rw [eL] at em
  rw [e] at L' f4
  rw [List.map_cons] at em
  have f4 : fits (xs.length + 1) = true := f4
  simp [callD, startE, look, lookV, Sl.get, Sl.getV, frzE, stoE, binF, addO, catL, iop, gAdd, gSub, gMul, gDiv, gMod, gPow, KF.listOf, ixU, dctAt, inUD, ninUD, inK, putU, ixO, ixD, L2.atI, L2.ixN, negD, truD, cmpF, icmp, isND, notND, isN, biF, fLen, lenD, fInt, fMax2, fMin2, fAbs, fTup, fLst, allPy, mkTup, mkLst, asI, revT, isiD, tyD, isTy, putO, putL, augF, promO, wipeE, itU, p_least_of_v2, k_least_of_v2, h5, L', mkL, f4, em]
def turnK (r : List Int) (m : Nat) : List (List Int) := (List.range m).flatMap fun k => [rotL r k, (rotL r k).reverse]
theorem turnK_succ (r : List Int) (m : Nat) : turnK r (m + 1) = turnK r m ++ [rotL r m, (rotL r m).reverse] := by
  unfold turnK
  rw [List.range_succ, List.flatMap_append]
  rfl
theorem turnK_len (r : List Int) (m : Nat) : (turnK r m).length = 2 * m := by
  induction m with
  | zero => rfl
  | succ m ih => rw [turnK_succ, List.length_append, ih]; simp; omega
theorem turned_loop {F : FnS} {h : MH} (r : List Int) (hl : r.length ≤ 9) (acc : List PyData) (ha : acc.length ≤ 1) : ∃ s2 s3, forF (ev F (.tn 2)).G (ev F b__law_turned_1).S (rngL 0 r.length) [.v (TI r), .o acc, .u, .u] h = .nx [.v (TI r), .o (acc ++ (turnL r).map tI), s2, s3] h := by
  rw [rngL_map]
  obtain ⟨env', h', e1, s2, s3, e2, e3, _⟩ := forF_rel (g := (ev F (.tn 2)).G) (b := (ev F b__law_turned_1).S) (fun (k : Nat) => D.py (.int (k : Nat))) (fun pre env h' => ∃ s2 s3, env = [.v (TI r), .o (acc ++ (turnK r pre.length).map tI), s2, s3] ∧ h' = h ∧ ∀ xs, s3 ≠ .o xs) (List.range r.length) (fun pre x suf env h' exs ⟨s2, s3, e2, e3, no⟩ => by
    have hx : x = pre.length := by
      have : (List.range r.length)[pre.length]? = some x := by rw [exs]; simp
      rw [List.getElem?_range] at this
      · exact (Option.some.inj this).symm
      · have := congrArg List.length exs; simp at this; omega
    have hp : pre.length < r.length := by have := congrArg List.length exs; simp at this; omega
    subst e2 e3 hx
    have f1 : fits ((r.length - pre.length) + min pre.length r.length) = true := fits_small (by omega)
    have f1' : fits (min pre.length r.length + (r.length - pre.length)) = true := fits_small (by omega)
    have c1 := cut_from (iL r) ((pre.length : Nat) : Int) (by omega)
    have c2 := cut_to (iL r) ((pre.length : Nat) : Int) (by omega)
    have f2 : fits (acc.length + (2 * pre.length + 2)) = true := fits_small (by omega)
    have f3 : fits (acc.length + 2 * pre.length + 2) = true := fits_small (by omega)
    refine ⟨[.v (TI r), .o (acc ++ (turnK r pre.length).map tI), .v (.py (.int (pre.length : Nat))), s3], _, h', rfl, ?_, .v (.py (.int (pre.length : Nat))), .v (TI (rotL r pre.length)), rfl, rfl, fun xs z => by cases z⟩
    cases s3 with
    | o xs => exact absurd rfl (no xs)
    | u => 
      simp [callD, startE, look, lookV, Sl.get, Sl.getV, frzE, stoE, binF, addO, catL, iop, gAdd, gSub, gMul, gDiv, gMod, gPow, KF.listOf, ixU, dctAt, inUD, ninUD, inK, putU, ixO, ixD, L2.atI, L2.ixN, negD, truD, cmpF, icmp, isND, notND, isN, biF, fLen, lenD, fInt, fMax2, fMin2, fAbs, fTup, fLst, allPy, mkTup, mkLst, asI, revT, isiD, tyD, isTy, putO, putL, augF, promO, wipeE, itU, b__law_turned_1, cutU, c1, c2, f1, f1', iL_len, turnK_len, f2, f3, turnK_succ, rotL, iL_app, tI]
      exact ⟨⟨rfl, rfl⟩, by simp [iL]⟩
    | v d =>
      simp [callD, startE, look, lookV, Sl.get, Sl.getV, frzE, stoE, binF, addO, catL, iop, gAdd, gSub, gMul, gDiv, gMod, gPow, KF.listOf, ixU, dctAt, inUD, ninUD, inK, putU, ixO, ixD, L2.atI, L2.ixN, negD, truD, cmpF, icmp, isND, notND, isN, biF, fLen, lenD, fInt, fMax2, fMin2, fAbs, fTup, fLst, allPy, mkTup, mkLst, asI, revT, isiD, tyD, isTy, putO, putL, augF, promO, wipeE, itU, b__law_turned_1, cutU, c1, c2, f1, f1', iL_len, turnK_len, f2, f3, turnK_succ, rotL, iL_app, tI]
      exact ⟨⟨rfl, rfl⟩, by simp [iL]⟩) [.v (TI r), .o acc, .u, .u] h ⟨.u, .u, by simp [turnK], rfl, fun xs z => by cases z⟩
  subst e3 e2
  refine ⟨s2, s3, ?_⟩
  rw [e1]
  simp [turnL, turnK]
theorem turned_ok (H : findD P 83 = some p__law_turned) (n : Nat) (h : MH) (r : List Int) (hl : r.length ≤ 9) : runF P (n + 1) 83 [TI r] h = .ok (.py (.list ((turnL r).map tI))) h := by
  rw [run_of H]
  obtain ⟨s2, s3, L⟩ := turned_loop (F := runF P n) (h := h) r hl [] (by simp)
  have f4 : fits (turnL r).length = true := fits_small (by rw [turn_len]; omega)
  simp [callD, startE, look, lookV, Sl.get, Sl.getV, frzE, stoE, binF, addO, catL, iop, gAdd, gSub, gMul, gDiv, gMod, gPow, KF.listOf, ixU, dctAt, inUD, ninUD, inK, putU, ixO, ixD, L2.atI, L2.ixN, negD, truD, cmpF, icmp, isND, notND, isN, biF, fLen, lenD, fInt, fMax2, fMin2, fAbs, fTup, fLst, allPy, mkTup, mkLst, asI, revT, isiD, tyD, isTy, putO, putL, augF, promO, wipeE, itU, p__law_turned, k__law_turned, iL_len, rng1_nat _ (show r.length ≤ 1000000 by omega), L, f4]
/-- with the ring of no keys -/
def turn0 (r : List Int) : List (List Int) := match r with
  | [] => [[]]
  | _ => turnL r
theorem turned2_ok (H : findD P 96 = some p__law_turned_v2) (n : Nat) (h : MH) (r : List Int) (hl : r.length ≤ 9) : runF P (n + 1) 96 [TI r] h = .ok (.py (.list ((turn0 r).map tI))) h := by
  rw [run_of H]
  by_cases c : r = []
  · subst c
    have rg : rng1 [D.py (PyData.int 0)] = some [] := rfl
    simp [callD, startE, look, lookV, Sl.get, Sl.getV, frzE, stoE, binF, addO, catL, iop, gAdd, gSub, gMul, gDiv, gMod, gPow, KF.listOf, ixU, dctAt, inUD, ninUD, inK, putU, ixO, ixD, L2.atI, L2.ixN, negD, truD, cmpF, icmp, isND, notND, isN, biF, fLen, lenD, fInt, fMax2, fMin2, fAbs, fTup, fLst, allPy, mkTup, mkLst, asI, revT, isiD, tyD, isTy, putO, putL, augF, promO, wipeE, itU, p__law_turned_v2, k__law_turned_v2, eqD, iL, shal, PyData.eqv, PyData.eqvAll, rg, turn0, tI]
    rfl
  · have e0 : PyData.eqv (.tuple (iL r)) (.tuple []) = false := by
      have := eqv_T r []
      simpa [iL, c] using this
    have e1 : turn0 r = turnL r := by
      cases r with
      | nil => exact absurd rfl c
      | cons x xs => rfl
    obtain ⟨s2, s3, L⟩ := turned_loop (F := runF P n) (h := h) r hl [] (by simp)
    have f4 : fits (turnL r).length = true := fits_small (by rw [turn_len]; omega)
    have L' : forF (ev (runF P n) (.tn 2)).G (ev (runF P n) b__law_turned_v2_1).S (rngL 0 r.length) [.v (TI r), .o [], .u, .u] h = .nx [.v (TI r), .o ([] ++ (turnL r).map tI), s2, s3] h := L
    have rg := rng1_nat r.length (by omega)
    simp only [List.nil_append] at L'
    simp [callD, startE, look, lookV, Sl.get, Sl.getV, frzE, stoE, binF, addO, catL, iop, gAdd, gSub, gMul, gDiv, gMod, gPow, KF.listOf, ixU, dctAt, inUD, ninUD, inK, putU, ixO, ixD, L2.atI, L2.ixN, negD, truD, cmpF, icmp, isND, notND, isN, biF, fLen, lenD, fInt, fMax2, fMin2, fAbs, fTup, fLst, allPy, mkTup, mkLst, asI, revT, isiD, tyD, isTy, putO, putL, augF, promO, wipeE, itU, p__law_turned_v2, k__law_turned_v2, eqD, e0, shal_T, shal, iL_len, rg, L', f4, e1]
end LW
set_option Elab.async false
set_option linter.all false
set_option maxRecDepth 100000
set_option maxHeartbeats 4000000
/-! KM, part G: keys lost and put in. -/
namespace LW
open PySem KF
variable {P : Prog}
theorem same_turn0 {r s : List Int} (hs : s.length = r.length) (hr : r ≠ []) : leastR r = leastR s ↔ s ∈ turn0 r := by
  have h1 : 1 ≤ r.length := by cases r <;> simp at *
  have e1 : turn0 r = turnL r := by
    cases r with
    | nil => exact absurd rfl hr
    | cons x xs => rfl
  rw [e1, turn_orb]
  exact least_same h1 hs
structure AlkK (P : Prog) : Prop where
  a6 : findD P 6 = some p_shape_at
  a7 : findD P 7 = some p_felt_by
  a9 : findD P 9 = some p_all_holds
  a71 : findD P 71 = some p_least_of_v2
theorem sameround_ok (K : AlkK P) (H : findD P 90 = some p_same_round) (n : Nat) (h : MH) (r s : List Int) (hl : r.length ≤ 9) (hs : s.length = r.length) :
    runF P (n + 4) 90 [TI r, TI s] h = .ok (.py (.bool (decide (s ∈ turn0 r)))) h := by
  rw [run_of H]
  by_cases c : r = []
  · subst c
    obtain rfl : s = [] := List.length_eq_zero_iff.mp hs
    simp [callD, startE, look, lookV, Sl.get, Sl.getV, frzE, stoE, binF, addO, catL, iop, gAdd, gSub, gMul, gDiv, gMod, gPow, KF.listOf, ixU, dctAt, inUD, ninUD, inK, putU, ixO, ixD, L2.atI, L2.ixN, negD, truD, cmpF, icmp, isND, notND, isN, biF, fLen, lenD, fInt, fMax2, fMin2, fAbs, fTup, fLst, allPy, mkTup, mkLst, asI, revT, isiD, tyD, isTy, putO, putL, augF, promO, wipeE, itU, p_same_round, k_same_round, iL, turn0]
  · have h1 : 1 ≤ r.length := by cases r <;> simp at *
    have e1 := leastof_ok K.a6 K.a7 K.a9 K.a71 n h r h1 hl
    have e2 := leastof_ok K.a6 K.a7 K.a9 K.a71 n h s (by omega) (by omega)
    have ne : (iL r).isEmpty = false := by cases r <;> simp [iL] at *
    have ne2 : iL r ≠ [] := by cases r <;> simp [iL] at *
    have key : decide (leastR r = leastR s) = decide (s ∈ turn0 r) := decide_eq_decide.mpr (same_turn0 hs c)
    simp [callD, startE, look, lookV, Sl.get, Sl.getV, frzE, stoE, binF, addO, catL, iop, gAdd, gSub, gMul, gDiv, gMod, gPow, KF.listOf, ixU, dctAt, inUD, ninUD, inK, putU, ixO, ixD, L2.atI, L2.ixN, negD, truD, cmpF, icmp, isND, notND, isN, biF, fLen, lenD, fInt, fMax2, fMin2, fAbs, fTup, fLst, allPy, mkTup, mkLst, asI, revT, isiD, tyD, isTy, putO, putL, augF, promO, wipeE, itU, p_same_round, k_same_round, ne, ne2, e1, e2, eqD, shal_T, eqv_T, key]
theorem chkseen_ok (C : Chk P) (H : findD P 89 = some p_check_seen) (n : Nat) (h : MH) (s : List Int) (m : Int) (hm : (s.length : Int) = m) (hs : ∀ x ∈ s, 0 ≤ x ∧ x ≤ 8) : runF P (n + 4) 89 [TI s, .py (.int m)] h = .ok (.py .none) h := by
  rw [run_of H]
  have e := shapes_ok C n h s m m 8 (by omega) (by omega) hs
  simp [callD, startE, look, lookV, Sl.get, Sl.getV, frzE, stoE, binF, addO, catL, iop, gAdd, gSub, gMul, gDiv, gMod, gPow, KF.listOf, ixU, dctAt, inUD, ninUD, inK, putU, ixO, ixD, L2.atI, L2.ixN, negD, truD, cmpF, icmp, isND, notND, isN, biF, fLen, lenD, fInt, fMax2, fMin2, fAbs, fTup, fLst, allPy, mkTup, mkLst, asI, revT, isiD, tyD, isTy, putO, putL, augF, promO, wipeE, itU, p_check_seen, k_check_seen, e]
def dropK (r : List Int) (k : Nat) : List Int := r.take k ++ r.drop (k + 1)
def insK (r : List Int) (k : Nat) (x : Int) : List Int := r.take (k + 1) ++ [x] ++ r.drop (k + 1)
theorem dropK_len {r : List Int} {k : Nat} (h : k < r.length) : (dropK r k).length = r.length - 1 := by simp [dropK]; omega
theorem insK_len {r : List Int} {k : Nat} (x : Int) (h : k < r.length) : (insK r k x).length = r.length + 1 := by simp [insK]; omega
def lostM (r s : List Int) : List Nat := (List.range r.length).filter fun k => decide (s ∈ turn0 (dropK r k))
theorem lostfrom_ok (C : Chk P) (K : AlkK P) (a3 : findD P 3 = some p_check_ring) (H89 : findD P 89 = some p_check_seen) (H90 : findD P 90 = some p_same_round) (H : findD P 91 = some p_lost_from) (n : Nat) (h : MH) (r s : List Int) (hr : Ring 9 r) (hs : s.length = r.length - 1) (hv : ∀ x ∈ s, 0 ≤ x ∧ x ≤ 8) :
    runF P (n + 5) 91 [TI r, TI s] h = .ok (.py (.list ((lostM r s).map fun (k : Nat) => .int (k : Nat)))) h := by
  rw [run_of H]
  have h1 := chkring_ok C a3 n h r hr
  have hl := hr.2.1
  have hr1 := hr.1
  have h2 := chkseen_ok C H89 n h s ((r.length : Int) - 1) (by omega) hv
  have L := lcF_pureA (g := (ev (runF P (n + 4)) (.tn 2)).G) (ft := (ev (runF P (n + 4)) t_lost_from_1).T) (fe := (ev (runF P (n + 4)) (.varV 2)).E)
    (env := [.v (TI r), .v (TI s), .u]) (h := h) (fun (k : Nat) => D.py (.int (k : Nat))) (fun k => decide (s ∈ turn0 (dropK r k))) (fun (k : Nat) => .int (k : Nat)) (xs := List.range r.length) (fun k hk => by
      have hk := List.mem_range.mp hk
      refine ⟨[.v (TI r), .v (TI s), .v (.py (.int (k : Nat)))], rfl, ?_, fun _ => by simp [callD, startE, look, lookV, Sl.get, Sl.getV, frzE, stoE, binF, addO, catL, iop, gAdd, gSub, gMul, gDiv, gMod, gPow, KF.listOf, ixU, dctAt, inUD, ninUD, inK, putU, ixO, ixD, L2.atI, L2.ixN, negD, truD, cmpF, icmp, isND, notND, isN, biF, fLen, lenD, fInt, fMax2, fMin2, fAbs, fTup, fLst, allPy, mkTup, mkLst, asI, revT, isiD, tyD, isTy, putO, putL, augF, promO, wipeE, itU]⟩
      have e := sameround_ok K H90 n h (dropK r k) s (by rw [dropK_len hk]; omega) (by rw [dropK_len hk]; exact hs)
      have c1 := cut_from (iL r) (((k : Nat) : Int) + 1) (by omega)
      have c2 := cut_to (iL r) ((k : Nat) : Int) (by omega)
      have t1 : ((k : Int) + 1).toNat = k + 1 := by omega
      have f1 : fits (k + (r.length - (k + 1))) = true := fits_small (by omega)
      have f2 : fits (min k r.length + (r.length - (k + 1))) = true := fits_small (by omega)
      have e2 : (iL r).take k ++ (iL r).drop (k + 1) = iL (dropK r k) := by simp [iL, dropK]
      simp [callD, startE, look, lookV, Sl.get, Sl.getV, frzE, stoE, binF, addO, catL, iop, gAdd, gSub, gMul, gDiv, gMod, gPow, KF.listOf, ixU, dctAt, inUD, ninUD, inK, putU, ixO, ixD, L2.atI, L2.ixN, negD, truD, cmpF, icmp, isND, notND, isN, biF, fLen, lenD, fInt, fMax2, fMin2, fAbs, fTup, fLst, allPy, mkTup, mkLst, asI, revT, isiD, tyD, isTy, putO, putL, augF, promO, wipeE, itU, t_lost_from_1, cutU, c1, c2, t1, iL_len, f1, f2, e2, e])
  rw [← rngL_map] at L
  have f3 : fits (lostM r s).length = true := fits_small (Nat.le_trans (List.length_filter_le _ _) (by simp; omega))
  have L' : lcF (ev (runF P (n + 4)) (.tn 2)).G (ev (runF P (n + 4)) t_lost_from_1).T (ev (runF P (n + 4)) (.varV 2)).E [.v (TI r), .v (TI s), .u] (rngL 0 r.length) h = .ok ((lostM r s).map fun (k : Nat) => .int (k : Nat)) h := L
  simp [callD, startE, look, lookV, Sl.get, Sl.getV, frzE, stoE, binF, addO, catL, iop, gAdd, gSub, gMul, gDiv, gMod, gPow, KF.listOf, ixU, dctAt, inUD, ninUD, inK, putU, ixO, ixD, L2.atI, L2.ixN, negD, truD, cmpF, icmp, isND, notND, isN, biF, fLen, lenD, fInt, fMax2, fMin2, fAbs, fTup, fLst, allPy, mkTup, mkLst, asI, revT, isiD, tyD, isTy, putO, putL, augF, promO, wipeE, itU, p_lost_from, k_lost_from, h1, h2, iL_len, rng1_nat _ (show r.length ≤ 1000000 by omega), L', mkL, f3]
def pkP (x : Nat × Int) : PyData := .tuple [.int (x.1 : Nat), .int x.2]
def putRow (r s : List Int) (k : Nat) (xs : List Int) : List (Nat × Int) := (xs.filter fun x => decide (s ∈ turn0 (insK r k x))).map fun x => (k, x)
def putM (r s : List Int) : List (Nat × Int) := (List.range r.length).flatMap fun k => putRow r s k (ssU ltI s)
theorem putRow_len (r s : List Int) (k : Nat) (xs : List Int) : (putRow r s k xs).length ≤ xs.length := by
  unfold putRow
  rw [List.length_map]
  exact List.length_filter_le _ _
theorem insU_len {α : Type} (lt : α → α → Bool) (x : α) : ∀ l : List α, (insU lt x l).length ≤ l.length + 1
  | [] => by simp [insU]
  | y :: r => by
    unfold insU
    split
    · simp
    · split
      · have := insU_len lt x r; simp; omega
      · simp
theorem ssU_len {α : Type} (lt : α → α → Bool) : ∀ l : List α, (ssU lt l).length ≤ l.length
  | [] => by simp [ssU]
  | x :: r => by
    unfold ssU
    have h1 := insU_len lt x (ssU lt r)
    have h2 := ssU_len lt r
    simp; omega
theorem put_in {F : FnS} {h : MH} {r s : List Int} (hr : r.length ≤ 8) (hs : s.length = r.length + 1) {k : Nat} (hk : k < r.length) (hf : ∀ q : List Int, q.length = r.length + 1 → F 90 [TI q, TI s] h = .ok (.py (.bool (decide (s ∈ turn0 q)))) h) (acc : List (Nat × Int)) (ha : acc.length ≤ 1000) (xs : List Int) (hx : xs.length ≤ 100) (s4 : Sl) :
    ∃ s4', forF (ev F (.tn 4)).G (ev F b_put_into_1).S (xs.map fun x => .py (.int x)) [.v (TI r), .v (TI s), .o (acc.map pkP), .v (.py (.int (k : Nat))), s4] h = .nx [.v (TI r), .v (TI s), .o ((acc ++ putRow r s k xs).map pkP), .v (.py (.int (k : Nat))), s4'] h := by
  obtain ⟨env', h', e1, s4', e2, e3⟩ := forF_rel (g := (ev F (.tn 4)).G) (b := (ev F b_put_into_1).S) (fun (x : Int) => D.py (.int x)) (fun pre env h' => ∃ s4', env = [.v (TI r), .v (TI s), .o ((acc ++ putRow r s k pre).map pkP), .v (.py (.int (k : Nat))), s4'] ∧ h' = h) xs (fun pre x suf env h' exs ⟨s4', e2, e3⟩ => by
    subst e2 e3
    have c1 := cut_from (iL r) (((k : Nat) : Int) + 1) (by omega)
    have c2 := cut_to (iL r) (((k : Nat) : Int) + 1) (by omega)
    have t1 : ((k : Int) + 1).toNat = k + 1 := by omega
    have f1 : fits (min (k + 1) r.length + 1 + (r.length - (k + 1))) = true := fits_small (by omega)
    have f2 : fits (min (k + 1) r.length + 1) = true := fits_small (by omega)
    have f3 : fits (k + 1 + 1 + (r.length - (k + 1))) = true := fits_small (by omega)
    have f5 : fits (min (k + 1) r.length + (r.length - (k + 1) + 1)) = true := fits_small (by omega)
    have f6 : fits (min (k + 1) r.length + (1 + (r.length - (k + 1)))) = true := fits_small (by omega)
    have e2 : (iL r).take (k + 1) ++ PyData.int x :: (iL r).drop (k + 1) = iL (insK r k x) := by simp [iL, insK]
    have e3 : (iL r).take (k + 1) ++ ([PyData.int x] ++ (iL r).drop (k + 1)) = iL (insK r k x) := by simp [iL, insK]
    have e4 := hf (insK r k x) (insK_len x hk)
    have lp : pre.length ≤ 100 := by have := congrArg List.length exs; simp at this; omega
    have lr := putRow_len r s k pre
    have f4 : fits (acc.length + (putRow r s k pre).length + 1) = true := fits_small (by omega)
    have f7 : fits (acc.length + ((putRow r s k pre).length + 1)) = true := fits_small (by omega)
    by_cases c : s ∈ turn0 (insK r k x)
    · have er : putRow r s k (pre ++ [x]) = putRow r s k pre ++ [(k, x)] := by simp [putRow, c]
      refine ⟨_, _, h', rfl, ?_, .v (.py (.int x)), rfl, rfl⟩
      simp [callD, startE, look, lookV, Sl.get, Sl.getV, frzE, stoE, binF, addO, catL, iop, gAdd, gSub, gMul, gDiv, gMod, gPow, KF.listOf, ixU, dctAt, inUD, ninUD, inK, putU, ixO, ixD, L2.atI, L2.ixN, negD, truD, cmpF, icmp, isND, notND, isN, biF, fLen, lenD, fInt, fMax2, fMin2, fAbs, fTup, fLst, allPy, mkTup, mkLst, asI, revT, isiD, tyD, isTy, putO, putL, augF, promO, wipeE, itU, b_put_into_1, cutU, c1, c2, t1, iL_len, f1, f2, f3, f5, f6, e2, e3, e4, c, er, pkP, f4, f7]
    · have er : putRow r s k (pre ++ [x]) = putRow r s k pre := by simp [putRow, c]
      refine ⟨_, _, h', rfl, ?_, .v (.py (.int x)), rfl, rfl⟩
      simp [callD, startE, look, lookV, Sl.get, Sl.getV, frzE, stoE, binF, addO, catL, iop, gAdd, gSub, gMul, gDiv, gMod, gPow, KF.listOf, ixU, dctAt, inUD, ninUD, inK, putU, ixO, ixD, L2.atI, L2.ixN, negD, truD, cmpF, icmp, isND, notND, isN, biF, fLen, lenD, fInt, fMax2, fMin2, fAbs, fTup, fLst, allPy, mkTup, mkLst, asI, revT, isiD, tyD, isTy, putO, putL, augF, promO, wipeE, itU, b_put_into_1, cutU, c1, c2, t1, iL_len, f1, f2, f3, f5, f6, e2, e3, e4, c, er]) [.v (TI r), .v (TI s), .o (acc.map pkP), .v (.py (.int (k : Nat))), s4] h ⟨s4, by simp [putRow], rfl⟩
  subst e2 e3
  exact ⟨s4', e1⟩
theorem intsOf_iL : ∀ xs : List Int, intsOf (iL xs) = some xs
  | [] => rfl
  | x :: r => by
    show (intsOf (iL r)).map (x :: ·) = _
    rw [intsOf_iL r]
    rfl
theorem ss_tup (h : MH) (s : List Int) (hl : s.length < 64) : ssO h (TI s) = some (.py (.list ((ssU ltI s).map .int))) := by
  show (ssT (iL s)).map _ = _
  unfold ssT
  rw [intsOf_iL]
  dsimp only
  rw [if_pos (show Nat.blt s.length 64 = true from Nat.ble_eq_true_of_le hl)]
  rfl
theorem putinto_ok (C : Chk P) (K : AlkK P) (a3 : findD P 3 = some p_check_ring) (H89 : findD P 89 = some p_check_seen) (H90 : findD P 90 = some p_same_round) (H : findD P 92 = some p_put_into) (n : Nat) (h : MH) (r s : List Int) (hr : Ring 8 r) (hs : s.length = r.length + 1) (hv : ∀ x ∈ s, 0 ≤ x ∧ x ≤ 8) :
    runF P (n + 5) 92 [TI r, TI s] h = .ok (.py (.list ((putM r s).map pkP))) h := by
  rw [run_of H]
  have hl := hr.2.1
  have hr1 := hr.1
  have h1 := chkring_ok C a3 n h r ⟨hr1, by omega, hr.2.2⟩
  have h2 := chkseen_ok C H89 n h s ((r.length : Int) + 1) (by omega) hv
  have hf : ∀ q : List Int, q.length = r.length + 1 → runF P (n + 4) 90 [TI q, TI s] h = .ok (.py (.bool (decide (s ∈ turn0 q)))) h := fun q hq => sameround_ok K H90 n h q s (by omega) (by omega)
  have hss := ss_tup h s (by omega)
  have lss := ssU_len ltI s
  have pl : ∀ ks : List Nat, (ks.flatMap fun k => putRow r s k (ssU ltI s)).length ≤ 9 * ks.length := fun ks => by
    induction ks with
    | nil => simp
    | cons k ks ih =>
      have := putRow_len r s k (ssU ltI s)
      rw [List.flatMap_cons, List.length_append, List.length_cons]
      omega
  obtain ⟨env', h', e1, s3, s4, e2, e3⟩ := forF_rel (g := (ev (runF P (n + 4)) (.tn 3)).G) (b := (ev (runF P (n + 4)) b_put_into_2).S) (fun (k : Nat) => D.py (.int (k : Nat))) (fun pre env h' => ∃ s3 s4, env = [.v (TI r), .v (TI s), .o ((pre.flatMap fun k => putRow r s k (ssU ltI s)).map pkP), s3, s4] ∧ h' = h) (List.range r.length) (fun pre k suf env h' exs ⟨s3, s4, e2, e3⟩ => by
    subst e2 e3
    have hk : k < r.length := by
      have : k ∈ List.range r.length := by rw [exs]; simp
      exact List.mem_range.mp this
    have lp : pre.length ≤ 9 := by have := congrArg List.length exs; simp at this; omega
    have := pl pre
    obtain ⟨s4', L⟩ := put_in (F := runF P (n + 4)) hl hs hk hf (pre.flatMap fun k => putRow r s k (ssU ltI s)) (by omega) (ssU ltI s) (by omega) s4
    have em : (ssU ltI s).map (fun x => D.py (.int x)) = ((ssU ltI s).map PyData.int).map D.py := by rw [List.map_map]; rfl
    rw [em] at L
    refine ⟨[.v (TI r), .v (TI s), .o ((pre.flatMap fun k => putRow r s k (ssU ltI s)).map pkP), .v (.py (.int (k : Nat))), s4], _, h', rfl, ?_, .v (.py (.int (k : Nat))), s4', rfl, rfl⟩
    simp only [List.flatMap_append, List.flatMap_cons, List.flatMap_nil, List.append_nil]
    rw [List.map_map] at L
    simp [callD, startE, look, lookV, Sl.get, Sl.getV, frzE, stoE, binF, addO, catL, iop, gAdd, gSub, gMul, gDiv, gMod, gPow, KF.listOf, ixU, dctAt, inUD, ninUD, inK, putU, ixO, ixD, L2.atI, L2.ixN, negD, truD, cmpF, icmp, isND, notND, isN, biF, fLen, lenD, fInt, fMax2, fMin2, fAbs, fTup, fLst, allPy, mkTup, mkLst, asI, revT, isiD, tyD, isTy, putO, putL, augF, promO, wipeE, itU, b_put_into_2, hss, L]) [.v (TI r), .v (TI s), .o [], .u, .u] h ⟨.u, .u, rfl, rfl⟩
  subst e2 e3
  rw [← rngL_map] at e1
  have f3 : fits (putM r s).length = true := fits_small (by have := pl (List.range r.length); unfold putM; rw [List.length_range] at this; omega)
  have e1' : forF (ev (runF P (n + 4)) (.tn 3)).G (ev (runF P (n + 4)) b_put_into_2).S (rngL 0 r.length) [.v (TI r), .v (TI s), .o [], .u, .u] h' = .nx [.v (TI r), .v (TI s), .o ((putM r s).map pkP), s3, s4] h' := e1
  simp [callD, startE, look, lookV, Sl.get, Sl.getV, frzE, stoE, binF, addO, catL, iop, gAdd, gSub, gMul, gDiv, gMod, gPow, KF.listOf, ixU, dctAt, inUD, ninUD, inK, putU, ixO, ixD, L2.atI, L2.ixN, negD, truD, cmpF, icmp, isND, notND, isN, biF, fLen, lenD, fInt, fMax2, fMin2, fAbs, fTup, fLst, allPy, mkTup, mkLst, asI, revT, isiD, tyD, isTy, putO, putL, augF, promO, wipeE, itU, p_put_into, k_put_into, h1, h2, iL_len, rng1_nat _ (show r.length ≤ 1000000 by omega), e1', f3]
end LW
set_option Elab.async false
set_option linter.all false
set_option maxRecDepth 100000
set_option maxHeartbeats 4000000
/-! KM, part H: rings with pieces. -/
namespace LW
open PySem KF
variable {P : Prog}
/-- all rows of so many keys -/
def rowsN (s : Nat) : Nat → List (List Int)
  | 0 => [[]]
  | k + 1 => (rowsN s k).flatMap fun row => (List.range s).map fun (x : Nat) => row ++ [(x : Int)]
theorem rowsN_len : ∀ s < 4, ∀ k < 7, (rowsN s k).length ≤ 729 := by decide +kernel
theorem rowsN_mem {s : Nat} : ∀ {k : Nat} {r : List Int}, r ∈ rowsN s k → r.length = k ∧ ∀ x ∈ r, 0 ≤ x ∧ x < s
  | 0, r, h => by
    simp [rowsN] at h
    subst h
    simp
  | k + 1, r, h => by
    obtain ⟨row, h1, h2⟩ := List.mem_flatMap.mp h
    obtain ⟨x, h3, h4⟩ := List.mem_map.mp h2
    obtain ⟨a, b⟩ := rowsN_mem h1
    subst h4
    refine ⟨by simp [a], fun y hy => ?_⟩
    rcases List.mem_append.mp hy with z | z
    · exact b y z
    · have z := List.mem_singleton.mp z
      have := List.mem_range.mp h3
      omega
def hasP (r pc : List Int) : Bool := decide (pc ∈ (hdL r.length).map fun p => feltL r p pc.length)
theorem in_tI (h : MH) (pc : List Int) (xs : List (List Int)) : inUD h (TI pc) (.py (.list (xs.map tI))) = some (decide (pc ∈ xs)) := by
  show (if shal 64 (tI pc) = true then some ((xs.map tI).any fun z => PyData.eqv z (tI pc)) else none) = _
  rw [shal_tI, if_pos rfl]
  congr 1
  rw [Bool.eq_iff_iff, List.any_eq_true, decide_eq_true_eq]
  constructor
  · rintro ⟨d, hd, e⟩
    obtain ⟨x, hx, rfl⟩ := List.mem_map.mp hd
    rw [eqv_tI, decide_eq_true_eq] at e
    rw [← e]; exact hx
  · intro hx
    exact ⟨tI pc, List.mem_map.mpr ⟨pc, hx, rfl⟩, by rw [eqv_tI]; simp⟩
theorem haspiece_ok (K : AlkK P) (H : findD P 94 = some p_has_piece) (n : Nat) (h : MH) (r pc : List Int) (hr : 1 ≤ r.length) (hl : r.length ≤ 9) (hp : pc.length ≤ 100) :
    runF P (n + 3) 94 [TI r, TI pc] h = .ok (.py (.bool (hasP r pc))) h := by
  rw [run_of H]
  have h4 : ∀ q, HdOk r.length q → runF P (n + 2) 7 [TI r, .py (hP q), .py (.int pc.length)] h = .ok (TI (feltL r q pc.length)) h := fun q hq => feltby_ok K.a6 K.a7 n h r hr q (by rcases hq.2.2 with q | q <;> omega) pc.length (by omega)
  have h5 := allholds_ok K.a9 (n + 1) h r hl
  have L := lcF_pureA (g := (ev (runF P (n + 2)) (.tn 2)).G) (ft := (ev (runF P (n + 2)) .yes).T) (fe := (ev (runF P (n + 2)) e_has_piece_1).E)
    (env := [.v (TI r), .v (TI pc), .u]) (h := h) (D.py ∘ hP) (fun _ => true) (fun q => tI (feltL r q pc.length)) (xs := hdL r.length) (fun q hq => by
      refine ⟨[.v (TI r), .v (TI pc), .v (.py (hP q))], rfl, rfl, fun _ => ?_⟩
      have := h4 q (hdL_ok hq)
      simp [callD, startE, look, lookV, Sl.get, Sl.getV, frzE, stoE, binF, addO, catL, iop, gAdd, gSub, gMul, gDiv, gMod, gPow, KF.listOf, ixU, dctAt, inUD, ninUD, inK, putU, ixO, ixD, L2.atI, L2.ixN, negD, truD, cmpF, icmp, isND, notND, isN, biF, fLen, lenD, fInt, fMax2, fMin2, fAbs, fTup, fLst, allPy, mkTup, mkLst, asI, revT, isiD, tyD, isTy, putO, putL, augF, promO, wipeE, itU, e_has_piece_1, iL_len, this]
      rfl)
  rw [filter_true] at L
  have em : (hdL r.length).map (fun q => tI (feltL r q pc.length)) = ((hdL r.length).map fun q => feltL r q pc.length).map tI := by rw [List.map_map]; rfl
  rw [em] at L
  have f4 : fits (((hdL r.length).map fun q => feltL r q pc.length).map tI).length = true := fits_small (by rw [List.length_map, List.length_map, hdL_len]; omega)
  have f5 : fits (hdL r.length).length = true := fits_small (by rw [hdL_len]; omega)
  have e := in_tI h pc ((hdL r.length).map fun q => feltL r q pc.length)
  simp only [List.map_map] at e L f4
  simp [callD, startE, look, lookV, Sl.get, Sl.getV, frzE, stoE, binF, addO, catL, iop, gAdd, gSub, gMul, gDiv, gMod, gPow, KF.listOf, ixU, putU, ixO, ixD, L2.atI, L2.ixN, negD, truD, cmpF, icmp, isND, notND, isN, biF, fLen, lenD, fInt, fMax2, fMin2, fAbs, fTup, fLst, allPy, mkTup, mkLst, asI, revT, isiD, tyD, isTy, putO, putL, augF, promO, wipeE, itU, p_has_piece, k_has_piece, h5, L, mkL, f4, f5, e, hasP]
theorem chkpieces_ok (C : Chk P) (H : findD P 93 = some p_check_pieces) (n : Nat) (h : MH) (ps : List (List Int)) (s : Nat) (hl : ps.length ≤ 8) (hp : ∀ p ∈ ps, p.length ≤ 12 ∧ ∀ x ∈ p, 0 ≤ x ∧ x < s) :
    runF P (n + 4) 93 [.py (.tuple (ps.map tI)), .py (.int (s : Nat))] h = .ok (.py .none) h := by
  rw [run_of H]
  obtain ⟨env', h', e1, s2, e2, e3⟩ := forF_rel (g := (ev (runF P (n + 3)) (.tn 2)).G) (b := (ev (runF P (n + 3)) b_check_pieces_1).S) (D.py ∘ tI) (fun pre env h' => ∃ s2, env = [.v (.py (.tuple (ps.map tI))), .v (.py (.int (s : Nat))), s2] ∧ h' = h) ps (fun pre p suf env h' exs ⟨s2, e2, e3⟩ => by
    subst e2 e3
    obtain ⟨h1, h2⟩ := hp p (by rw [exs]; simp)
    have e := shapes_ok C n h' p 0 12 ((s : Int) - 1) (by omega) (by omega) (fun x hx => by have := h2 x hx; omega)
    refine ⟨_, _, h', rfl, ?_, .v (TI p), rfl, rfl⟩
    have e : runF P (n + 3) 2 [.py (tI p), .py (.int 0), .py (.int 12), .py (.int ((s : Int) - 1))] h' = .ok (.py (.bool true)) h' := e
    simp [callD, startE, look, lookV, Sl.get, Sl.getV, frzE, stoE, binF, addO, catL, iop, gAdd, gSub, gMul, gDiv, gMod, gPow, KF.listOf, ixU, dctAt, inUD, ninUD, inK, putU, ixO, ixD, L2.atI, L2.ixN, negD, truD, cmpF, icmp, isND, notND, isN, biF, fLen, lenD, fInt, fMax2, fMin2, fAbs, fTup, fLst, allPy, mkTup, mkLst, asI, revT, isiD, tyD, isTy, putO, putL, augF, promO, wipeE, itU, b_check_pieces_1, e]
    rfl) [.v (.py (.tuple (ps.map tI))), .v (.py (.int (s : Nat))), .u] h ⟨.u, rfl, rfl⟩
  subst e2 e3
  have lt : ¬ (8 : Int) < (ps.length : Int) := by omega
  have lt' : (ps.length : Int) ≤ 8 := by omega
  simp [callD, startE, look, lookV, Sl.get, Sl.getV, frzE, stoE, binF, addO, catL, iop, gAdd, gSub, gMul, gDiv, gMod, gPow, KF.listOf, ixU, dctAt, inUD, ninUD, inK, putU, ixO, ixD, L2.atI, L2.ixN, negD, truD, cmpF, icmp, isND, notND, isN, biF, fLen, lenD, fInt, fMax2, fMin2, fAbs, fTup, fLst, allPy, mkTup, mkLst, asI, revT, isiD, tyD, isTy, putO, putL, augF, promO, wipeE, itU, p_check_pieces, k_check_pieces, lt, lt', e1]
def okW (ps : List (List Int)) (row : List Int) : Bool := decide (leastR row = row) && ps.all (hasP row)
def ringsW (k s : Nat) (ps : List (List Int)) : List (List Int) := (rowsN s k).filter (okW ps)
theorem rows_loop {F : FnS} {h : MH} {k s : Nat} {ps : D} (hk : k < 7) (hs : s < 4) : ∃ s4, forF (ev F (.tn 4)).G (ev F b_rings_with_1).S (rngL 0 k) [.v (.py (.int (k : Nat))), .v (.py (.int (s : Nat))), .v ps, .o [.tuple []], .u, .u, .u, .u, .u] h =
    .nx [.v (.py (.int (k : Nat))), .v (.py (.int (s : Nat))), .v ps, .o ((rowsN s k).map tI), s4, .u, .u, .u, .u] h := by
  obtain ⟨env', h', e, ⟨s4, i1⟩, i2⟩ := forF_rel (g := (ev F (.tn 4)).G) (b := (ev F b_rings_with_1).S) (fun (j : Nat) => D.py (.int (j : Nat))) (fun pre env h' => (∃ s4, env = [.v (.py (.int (k : Nat))), .v (.py (.int (s : Nat))), .v ps, .o ((rowsN s pre.length).map tI), s4, .u, .u, .u, .u]) ∧ h' = h) (List.range k) (fun pre x suf env h' e ⟨⟨s4, e1⟩, e2⟩ => by
    subst e1 e2
    have hp : pre.length < k := by
      have := congrArg List.length e
      simp at this
      omega
    have z : rng1 [.py (.int (s : Nat))] = some (rngL 0 s) := rng1_nat s (by omega)
    have L := lc2F_pure (g := (ev F (.tn 5)).G) (fi1 := (ev F i_rings_with_1).I) (g1 := (ev F (.tn 6)).G) (vs1 := [6]) (ft := (ev F .yes).T) (fe := (ev F e_rings_with_1).E) (env := [.v (.py (.int (k : Nat))), .v (.py (.int (s : Nat))), .v ps, .v (.py (.list ((rowsN s pre.length).map tI))), .v (.py (.int x)), .u, .u, .u, .u]) (h := h') (D.py ∘ tI) (fun (j : Nat) => D.py (.int (j : Nat))) (fun _ => List.range s) (fun _ _ => true) (fun row (j : Nat) => tI (row ++ [(j : Int)])) (xs := rowsN s pre.length) (fun row hc => by
      refine ⟨[.v (.py (.int (k : Nat))), .v (.py (.int (s : Nat))), .v ps, .v (.py (.list ((rowsN s pre.length).map tI))), .v (.py (.int x)), .v (.py (tI row)), .u, .u, .u], _, rfl, by simp [callD, startE, look, lookV, Sl.get, Sl.getV, frzE, stoE, binF, addO, catL, iop, gAdd, gSub, gMul, gDiv, gMod, gPow, KF.listOf, ixU, dctAt, inUD, ninUD, inK, putU, ixO, ixD, L2.atI, L2.ixN, negD, truD, cmpF, icmp, isND, notND, isN, biF, fLen, lenD, fInt, fMax2, fMin2, fAbs, fTup, fLst, allPy, mkTup, mkLst, asI, revT, isiD, tyD, isTy, putO, putL, augF, promO, wipeE, itU, i_rings_with_1, z, rngL_map], rfl, fun j hj => ?_⟩
      refine ⟨[.v (.py (.int (k : Nat))), .v (.py (.int (s : Nat))), .v ps, .v (.py (.list ((rowsN s pre.length).map tI))), .v (.py (.int x)), .v (.py (tI row)), .v (.py (.int j)), .u, .u], rfl, rfl, fun _ => ?_⟩
      have f1 : fits (row.length + 1) = true := by rw [(rowsN_mem hc).1]; exact fits_small (by omega)
      simp [callD, startE, look, lookV, Sl.get, Sl.getV, frzE, stoE, binF, addO, catL, iop, gAdd, gSub, gMul, gDiv, gMod, gPow, KF.listOf, ixU, dctAt, inUD, ninUD, inK, putU, ixO, ixD, L2.atI, L2.ixN, negD, truD, cmpF, icmp, isND, notND, isN, biF, fLen, lenD, fInt, fMax2, fMin2, fAbs, fTup, fLst, allPy, mkTup, mkLst, asI, revT, isiD, tyD, isTy, putO, putL, augF, promO, wipeE, itU, e_rings_with_1, tI, f1])
    have hl := rowsN_len s hs (pre.length + 1) (by omega)
    have f2 : fits (rowsN s (pre.length + 1)).length = true := fits_small (by omega)
    have e5 : ((rowsN s pre.length).flatMap fun row => ((List.range s).filter fun _ => true).map fun (j : Nat) => tI (row ++ [(j : Int)])) = (rowsN s (pre.length + 1)).map tI := by
      show _ = ((rowsN s pre.length).flatMap fun row => (List.range s).map fun (x : Nat) => row ++ [(x : Int)]).map tI
      rw [List.map_flatMap]
      congr 1
      funext c
      rw [List.map_map, filter_true]
      rfl
    rw [e5] at L
    refine ⟨[.v (.py (.int (k : Nat))), .v (.py (.int (s : Nat))), .v ps, .o ((rowsN s pre.length).map tI), .v (.py (.int x)), .u, .u, .u, .u], [.v (.py (.int (k : Nat))), .v (.py (.int (s : Nat))), .v ps, .o ((rowsN s (pre.length + 1)).map tI), .v (.py (.int x)), .u, .u, .u, .u], h', rfl, ?_, ⟨_, by rw [List.length_append, List.length_singleton]⟩, rfl⟩
    simp [callD, startE, look, lookV, Sl.get, Sl.getV, frzE, stoE, binF, addO, catL, iop, gAdd, gSub, gMul, gDiv, gMod, gPow, KF.listOf, ixU, dctAt, inUD, ninUD, inK, putU, ixO, ixD, L2.atI, L2.ixN, negD, truD, cmpF, icmp, isND, notND, isN, biF, fLen, lenD, fInt, fMax2, fMin2, fAbs, fTup, fLst, allPy, mkTup, mkLst, asI, revT, isiD, tyD, isTy, putO, putL, augF, promO, wipeE, itU, b_rings_with_1, L, mkL, f2]) [.v (.py (.int (k : Nat))), .v (.py (.int (s : Nat))), .v ps, .o [.tuple []], .u, .u, .u, .u, .u] h ⟨⟨.u, rfl⟩, rfl⟩
  subst i1 i2
  rw [List.length_range, ← rngL_map] at e
  exact ⟨s4, e⟩
theorem pieces_in {F : FnS} {h : MH} {ps : List (List Int)} {row : List Int} {e : KF.Env} (hf : ∀ pc ∈ ps, F 94 [TI row, TI pc] h = .ok (.py (.bool (hasP row pc))) h) (a b c d f g u : Sl) :
    lcF (ev F (.tn 8)).G (ev F t_rings_with_1).T (ev F (.varV 8)).E [a, b, c, d, f, .v (TI row), g, u, .u] (ps.map (D.py ∘ tI)) h = .ok ((ps.filter fun pc => !hasP row pc).map tI) h :=
  lcF_pureA (g := (ev F (.tn 8)).G) (ft := (ev F t_rings_with_1).T) (fe := (ev F (.varV 8)).E) (env := [a, b, c, d, f, .v (TI row), g, u, .u]) (h := h) (D.py ∘ tI) (fun pc => !hasP row pc) tI (xs := ps) (fun pc hpc => by
    have e1 : F 94 [TI row, .py (tI pc)] h = .ok (.py (.bool (hasP row pc))) h := hf pc hpc
    refine ⟨[a, b, c, d, f, .v (TI row), g, u, .v (.py (tI pc))], rfl, ?_, fun _ => by simp [callD, startE, look, lookV, Sl.get, Sl.getV, frzE, stoE, binF, addO, catL, iop, gAdd, gSub, gMul, gDiv, gMod, gPow, KF.listOf, ixU, dctAt, inUD, ninUD, inK, putU, ixO, ixD, L2.atI, L2.ixN, negD, truD, cmpF, icmp, isND, notND, isN, biF, fLen, lenD, fInt, fMax2, fMin2, fAbs, fTup, fLst, allPy, mkTup, mkLst, asI, revT, isiD, tyD, isTy, putO, putL, augF, promO, wipeE, itU]⟩
    simp [callD, startE, look, lookV, Sl.get, Sl.getV, frzE, stoE, binF, addO, catL, iop, gAdd, gSub, gMul, gDiv, gMod, gPow, KF.listOf, ixU, dctAt, inUD, ninUD, inK, putU, ixO, ixD, L2.atI, L2.ixN, negD, truD, cmpF, icmp, isND, notND, isN, biF, fLen, lenD, fInt, fMax2, fMin2, fAbs, fTup, fLst, allPy, mkTup, mkLst, asI, revT, isiD, tyD, isTy, putO, putL, augF, promO, wipeE, itU, t_rings_with_1, e1])
theorem found_loop {F : FnS} {h : MH} {ps : List (List Int)} {a b d f : Sl} (hl : ps.length ≤ 8) : ∀ (rows acc : List (List Int)) (s5 : Sl), acc.length + rows.length ≤ 1000 → (∀ row ∈ rows, F 71 [TI row] h = .ok (TI (leastR row)) h ∧ ∀ pc ∈ ps, F 94 [TI row, TI pc] h = .ok (.py (.bool (hasP row pc))) h) →
    ∃ s5', forF (ev F (.tn 5)).G (ev F b_rings_with_2).S (rows.map (D.py ∘ tI)) [a, b, .v (.py (.tuple (ps.map tI))), d, f, s5, .u, .o (acc.map tI), .u] h = .nx [a, b, .v (.py (.tuple (ps.map tI))), d, f, s5', .u, .o ((acc ++ rows.filter (okW ps)).map tI), .u] h
  | [], acc, s5, _, _ => ⟨s5, by simp [forF]⟩
  | row :: rows, acc, s5, hn, hf => by
    obtain ⟨h1, h2⟩ := hf row List.mem_cons_self
    have L := pieces_in (e := []) h2 a b (.v (.py (.tuple (ps.map tI)))) d f .u (.o (acc.map tI))
    have fl : fits (ps.filter fun pc => !hasP row pc).length = true := fits_small (Nat.le_trans (List.length_filter_le _ _) (by omega))
    have al : (ps.filter fun pc => !hasP row pc).isEmpty = ps.all (hasP row) := by
      rw [Bool.eq_iff_iff, List.isEmpty_iff, List.filter_eq_nil_iff, List.all_eq_true]
      simp
    have al2 : ((ps.filter fun pc => !hasP row pc).map tI).isEmpty = ps.all (hasP row) := by rw [← al]; simp
    simp only [List.length_cons] at hn
    have f4 : fits (acc.length + 1) = true := fits_small (by omega)
    have step : (ev F b_rings_with_2).S [a, b, .v (.py (.tuple (ps.map tI))), d, f, .v (TI row), .u, .o (acc.map tI), .u] h = .nx [a, b, .v (.py (.tuple (ps.map tI))), d, f, .v (TI row), .u, .o ((acc ++ [row].filter (okW ps)).map tI), .u] h := by
      by_cases c1 : leastR row = row
      · by_cases c2 : ps.all (hasP row) = true
        · have ok : okW ps row = true := by simp [okW, c1, c2]
          rw [c2] at al2
          have nn : (ps.filter fun pc => !hasP row pc) = [] := by simpa using al2
          rw [nn] at L
          have : (acc ++ [row].filter (okW ps)) = acc ++ [row] := by simp [ok]
          rw [this]
          have L := L
          have f0 : fits 0 = true := fits_small (by omega)
          simp [callD, startE, look, lookV, Sl.get, Sl.getV, frzE, stoE, binF, addO, catL, iop, gAdd, gSub, gMul, gDiv, gMod, gPow, KF.listOf, ixU, dctAt, inUD, ninUD, inK, putU, ixO, ixD, L2.atI, L2.ixN, negD, truD, cmpF, icmp, isND, notND, isN, biF, fLen, lenD, fInt, fMax2, fMin2, fAbs, fTup, fLst, allPy, mkTup, mkLst, asI, revT, isiD, tyD, isTy, putO, putL, augF, promO, wipeE, itU, b_rings_with_2, h1, eqD, shal_T, eqv_T, c1, L, mkL, f0, f4]
          rfl
        · have ok : okW ps row = false := by simp [okW, c1, c2]
          have : (acc ++ [row].filter (okW ps)) = acc := by simp [ok]
          rw [this]
          have c3 : ps.all (hasP row) = false := by simpa using c2
          rw [c3] at al2
          simp [callD, startE, look, lookV, Sl.get, Sl.getV, frzE, stoE, binF, addO, catL, iop, gAdd, gSub, gMul, gDiv, gMod, gPow, KF.listOf, ixU, dctAt, inUD, ninUD, inK, putU, ixO, ixD, L2.atI, L2.ixN, negD, truD, cmpF, icmp, isND, notND, isN, biF, fLen, lenD, fInt, fMax2, fMin2, fAbs, fTup, fLst, allPy, mkTup, mkLst, asI, revT, isiD, tyD, isTy, putO, putL, augF, promO, wipeE, itU, b_rings_with_2, h1, eqD, shal_T, eqv_T, c1, L, mkL, fl, al2]
      · have ok : okW ps row = false := by simp [okW, c1]
        have : (acc ++ [row].filter (okW ps)) = acc := by simp [ok]
        rw [this]
        simp [callD, startE, look, lookV, Sl.get, Sl.getV, frzE, stoE, binF, addO, catL, iop, gAdd, gSub, gMul, gDiv, gMod, gPow, KF.listOf, ixU, dctAt, inUD, ninUD, inK, putU, ixO, ixD, L2.atI, L2.ixN, negD, truD, cmpF, icmp, isND, notND, isN, biF, fLen, lenD, fInt, fMax2, fMin2, fAbs, fTup, fLst, allPy, mkTup, mkLst, asI, revT, isiD, tyD, isTy, putO, putL, augF, promO, wipeE, itU, b_rings_with_2, h1, eqD, shal_T, eqv_T, c1]
    obtain ⟨s5', ih⟩ := found_loop hl rows (acc ++ [row].filter (okW ps)) (.v (TI row)) (by
      have := List.length_filter_le (okW ps) [row]
      rw [List.length_append]
      simp only [List.length_singleton] at this
      omega) fun r hr => hf r (List.mem_cons_of_mem _ hr)
    refine ⟨s5', ?_⟩
    rw [List.map_cons, forF_cons]
    show ((ev F b_rings_with_2).S [a, b, .v (.py (.tuple (ps.map tI))), d, f, .v (TI row), .u, .o (acc.map tI), .u] h).thn _ = _
    rw [step]
    show forF _ _ _ _ h = _
    rw [ih, List.append_assoc, ← List.filter_append]
    rfl
theorem ringswith_ok (C : Chk P) (K : AlkK P) (a5 : findD P 5 = some p_check_number) (H93 : findD P 93 = some p_check_pieces) (H94 : findD P 94 = some p_has_piece) (H : findD P 95 = some p_rings_with) (n : Nat) (h : MH) (k s : Nat) (k1 : 1 ≤ k) (k2 : k ≤ 6) (s1 : 1 ≤ s) (s2 : s ≤ 3) (ps : List (List Int)) (hl : ps.length ≤ 8) (hp : ∀ p ∈ ps, p.length ≤ 12 ∧ ∀ x ∈ p, 0 ≤ x ∧ x < s) :
    runF P (n + 5) 95 [.py (.int (k : Nat)), .py (.int (s : Nat)), .py (.tuple (ps.map tI))] h = .ok (.py (.list ((ringsW k s ps).map tI))) h := by
  rw [run_of H]
  have h1 := chknum_ok C a5 (n + 1) h (k : Nat) 1 6 (by omega) (by omega)
  have h2 := chknum_ok C a5 (n + 1) h (s : Nat) 1 3 (by omega) (by omega)
  have h3 := chkpieces_ok C H93 n h ps s hl hp
  have z : rng1 [.py (.int (k : Nat))] = some (rngL 0 k) := rng1_nat k (by omega)
  obtain ⟨s4, L1⟩ := rows_loop (F := runF P (n + 4)) (h := h) (k := k) (s := s) (ps := .py (.tuple (ps.map tI))) (by omega) (by omega)
  have hrl := rowsN_len s (by omega) k (by omega)
  obtain ⟨s5, Lf⟩ := found_loop (F := runF P (n + 4)) (h := h) (a := .v (.py (.int (k : Nat)))) (b := .v (.py (.int (s : Nat)))) (d := .v (.py (.list ((rowsN s k).map tI)))) (f := s4) hl (rowsN s k) [] .u (by simp; omega) (fun row hrow => by
    obtain ⟨e1, _⟩ := rowsN_mem hrow
    refine ⟨leastof_ok K.a6 K.a7 K.a9 K.a71 (n + 1) h row (by omega) (by omega), fun pc hpc => ?_⟩
    exact haspiece_ok K H94 (n + 1) h row pc (by omega) (by omega) (by have := (hp pc hpc).1; omega))
  have f3 : fits (ringsW k s ps).length = true := fits_small (Nat.le_trans (List.length_filter_le _ _) (by omega))
  have Lf' : forF (ev (runF P (n + 4)) (.tn 5)).G (ev (runF P (n + 4)) b_rings_with_2).S ((rowsN s k).map (D.py ∘ tI)) [.v (.py (.int (k : Nat))), .v (.py (.int (s : Nat))), .v (.py (.tuple (ps.map tI))), .v (.py (.list ((rowsN s k).map tI))), s4, .u, .u, .o [], .u] h = .nx [.v (.py (.int (k : Nat))), .v (.py (.int (s : Nat))), .v (.py (.tuple (ps.map tI))), .v (.py (.list ((rowsN s k).map tI))), s4, s5, .u, .o ((ringsW k s ps).map tI), .u] h := Lf
  simp [callD, startE, look, lookV, Sl.get, Sl.getV, frzE, stoE, binF, addO, catL, iop, gAdd, gSub, gMul, gDiv, gMod, gPow, KF.listOf, ixU, dctAt, inUD, ninUD, inK, putU, ixO, ixD, L2.atI, L2.ixN, negD, truD, cmpF, icmp, isND, notND, isN, biF, fLen, lenD, fInt, fMax2, fMin2, fAbs, fTup, fLst, allPy, mkTup, mkLst, asI, revT, isiD, tyD, isTy, putO, putL, augF, promO, wipeE, itU, p_rings_with, k_rings_with, h1, h2, h3, z, L1, Lf', f3]
def canF (r pc : List Int) : Bool := (hdL r.length).any fun p => decide (feltL r p pc.length = pc)
theorem canF_has (r pc : List Int) : canF r pc = hasP r pc := by
  unfold canF hasP
  rw [Bool.eq_iff_iff, List.any_eq_true, decide_eq_true_eq, List.mem_map]
  simp
theorem canfeel_ok (H14 : findD P 14 = some p__law_holds) (H15 : findD P 15 = some p__law_felt) (H : findD P 97 = some p__law_can_feel) (n : Nat) (h : MH) (r pc : List Int) (hr : 1 ≤ r.length) (hl : r.length ≤ 9) (hp : pc.length ≤ 100) :
    runF P (n + 2) 97 [TI r, TI pc] h = .ok (.py (.bool (hasP r pc))) h := by
  rw [run_of H]
  have h5 := holds_ok H14 n h r hl
  have L := lcF_pureA (g := (ev (runF P (n + 1)) (.tn 2)).G) (ft := (ev (runF P (n + 1)) t__law_can_feel_1).T) (fe := (ev (runF P (n + 1)) (.varV 2)).E)
    (env := [.v (TI r), .v (TI pc), .u]) (h := h) (D.py ∘ hP) (fun q => decide (feltL r q pc.length = pc)) hP (xs := hdL r.length) (fun q hq => by
      refine ⟨[.v (TI r), .v (TI pc), .v (.py (hP q))], rfl, ?_, fun _ => by simp [callD, startE, look, lookV, Sl.get, Sl.getV, frzE, stoE, binF, addO, catL, iop, gAdd, gSub, gMul, gDiv, gMod, gPow, KF.listOf, ixU, dctAt, inUD, ninUD, inK, putU, ixO, ixD, L2.atI, L2.ixN, negD, truD, cmpF, icmp, isND, notND, isN, biF, fLen, lenD, fInt, fMax2, fMin2, fAbs, fTup, fLst, allPy, mkTup, mkLst, asI, revT, isiD, tyD, isTy, putO, putL, augF, promO, wipeE, itU]⟩
      have := lawfelt_ok H15 n h r hr q (hdL_ok hq) pc.length (by omega)
      simp [callD, startE, look, lookV, Sl.get, Sl.getV, frzE, stoE, binF, addO, catL, iop, gAdd, gSub, gMul, gDiv, gMod, gPow, KF.listOf, ixU, dctAt, inUD, ninUD, inK, putU, ixO, ixD, L2.atI, L2.ixN, negD, truD, cmpF, icmp, isND, notND, isN, biF, fLen, lenD, fInt, fMax2, fMin2, fAbs, fTup, fLst, allPy, mkTup, mkLst, asI, revT, isiD, tyD, isTy, putO, putL, augF, promO, wipeE, itU, t__law_can_feel_1, iL_len, this, eqD, shal_T, eqv_T])
  have f4 : fits ((hdL r.length).filter fun q => decide (feltL r q pc.length = pc)).length = true := fits_small (Nat.le_trans (List.length_filter_le _ _) (by rw [hdL_len]; omega))
  rw [← canF_has]
  have e : (!PyData.eqv (.list (((hdL r.length).filter fun q => decide (feltL r q pc.length = pc)).map hP)) (.list [])) = canF r pc := by
    unfold canF
    cases q : (hdL r.length).filter fun q => decide (feltL r q pc.length = pc) with
    | nil =>
      rw [List.filter_eq_nil_iff] at q
      have : (hdL r.length).any (fun p => decide (feltL r p pc.length = pc)) = false := by
        rw [List.any_eq_false]
        exact fun x hx => q x hx
      rw [this]
      simp [PyData.eqv, PyData.eqvAll]
    | cons x xs =>
      have hx : x ∈ (hdL r.length).filter fun q => decide (feltL r q pc.length = pc) := by rw [q]; exact List.mem_cons_self
      obtain ⟨m1, m2⟩ := List.mem_filter.mp hx
      have : (hdL r.length).any (fun p => decide (feltL r p pc.length = pc)) = true := List.any_eq_true.mpr ⟨x, m1, m2⟩
      rw [this]
      simp [PyData.eqv, PyData.eqvAll]
  simp [callD, startE, look, lookV, Sl.get, Sl.getV, frzE, stoE, binF, addO, catL, iop, gAdd, gSub, gMul, gDiv, gMod, gPow, KF.listOf, ixU, dctAt, inUD, ninUD, inK, putU, ixO, ixD, L2.atI, L2.ixN, negD, truD, cmpF, icmp, isND, notND, isN, biF, fLen, lenD, fInt, fMax2, fMin2, fAbs, fTup, fLst, allPy, mkTup, mkLst, asI, revT, isiD, tyD, isTy, putO, putL, augF, promO, wipeE, itU, p__law_can_feel, k__law_can_feel, h5, L, mkL, f4, neD, eqD, hsh, shal, e]
theorem fits_ok (H14 : findD P 14 = some p__law_holds) (H15 : findD P 15 = some p__law_felt) (H96 : findD P 96 = some p__law_turned_v2) (H97 : findD P 97 = some p__law_can_feel) (H : findD P 98 = some p__law_fits) (n : Nat) (h : MH) (r : List Int) (ps : List (List Int)) (hr : 1 ≤ r.length) (hl : r.length ≤ 9) (lp : ps.length ≤ 8) (hp : ∀ p ∈ ps, p.length ≤ 100) :
    runF P (n + 3) 98 [TI r, .py (.list (ps.map tI))] h = .ok (.py (.bool (okW ps r))) h := by
  rw [run_of H]
  have e0 : turn0 r = turnL r := by cases r <;> first | rfl | simp at hr
  have h5 := turned2_ok H96 (n + 1) h r hl
  obtain ⟨x, xs, ex⟩ := turn_ne hr
  rw [e0, ex] at h5
  have em := min_tI x xs h
  rw [least_turn ex hr] at em
  have L := lcF_pureA (g := (ev (runF P (n + 2)) (.tn 2)).G) (ft := (ev (runF P (n + 2)) t__law_fits_1).T) (fe := (ev (runF P (n + 2)) (.varV 2)).E)
    (env := [.v (TI r), .v (.py (.list (ps.map tI))), .u]) (h := h) (D.py ∘ tI) (fun pc => !hasP r pc) tI (xs := ps) (fun pc hpc => by
      have e1 : runF P (n + 2) 97 [TI r, .py (tI pc)] h = .ok (.py (.bool (hasP r pc))) h := canfeel_ok H14 H15 H97 n h r pc hr hl (hp pc hpc)
      refine ⟨[.v (TI r), .v (.py (.list (ps.map tI))), .v (.py (tI pc))], rfl, ?_, fun _ => by simp [callD, startE, look, lookV, Sl.get, Sl.getV, frzE, stoE, binF, addO, catL, iop, gAdd, gSub, gMul, gDiv, gMod, gPow, KF.listOf, ixU, dctAt, inUD, ninUD, inK, putU, ixO, ixD, L2.atI, L2.ixN, negD, truD, cmpF, icmp, isND, notND, isN, biF, fLen, lenD, fInt, fMax2, fMin2, fAbs, fTup, fLst, allPy, mkTup, mkLst, asI, revT, isiD, tyD, isTy, putO, putL, augF, promO, wipeE, itU]⟩
      simp [callD, startE, look, lookV, Sl.get, Sl.getV, frzE, stoE, binF, addO, catL, iop, gAdd, gSub, gMul, gDiv, gMod, gPow, KF.listOf, ixU, dctAt, inUD, ninUD, inK, putU, ixO, ixD, L2.atI, L2.ixN, negD, truD, cmpF, icmp, isND, notND, isN, biF, fLen, lenD, fInt, fMax2, fMin2, fAbs, fTup, fLst, allPy, mkTup, mkLst, asI, revT, isiD, tyD, isTy, putO, putL, augF, promO, wipeE, itU, t__law_fits_1, e1])
  have f4 : fits (ps.filter fun pc => !hasP r pc).length = true := fits_small (Nat.le_trans (List.length_filter_le _ _) (by omega))
  have e : PyData.eqv (.list ((ps.filter fun pc => !hasP r pc).map tI)) (.list []) = ps.all (hasP r) := by
    rw [Bool.eq_iff_iff, List.all_eq_true]
    cases q : ps.filter fun pc => !hasP r pc with
    | nil =>
      rw [List.filter_eq_nil_iff] at q
      simp [PyData.eqv, PyData.eqvAll]
      simpa using q
    | cons y ys =>
      have hy : y ∈ ps.filter fun pc => !hasP r pc := by rw [q]; exact List.mem_cons_self
      obtain ⟨m1, m2⟩ := List.mem_filter.mp hy
      simp [PyData.eqv, PyData.eqvAll]
      exact ⟨y, m1, by simpa using m2⟩
  have sh : shal 64 (.list ((ps.filter fun pc => !hasP r pc).map tI)) = true := shal_L fun d hd => by
    obtain ⟨y, _, e⟩ := List.mem_map.mp hd
    rw [← e]; exact shal_tI y 62
  rw [List.map_cons] at em h5
  by_cases c1 : leastR r = r
  · simp [callD, startE, look, lookV, Sl.get, Sl.getV, frzE, stoE, binF, addO, catL, iop, gAdd, gSub, gMul, gDiv, gMod, gPow, KF.listOf, ixU, dctAt, inUD, ninUD, inK, putU, ixO, ixD, L2.atI, L2.ixN, negD, truD, cmpF, icmp, isND, notND, isN, biF, fLen, lenD, fInt, fMax2, fMin2, fAbs, fTup, fLst, allPy, mkTup, mkLst, asI, revT, isiD, tyD, isTy, putO, putL, augF, promO, wipeE, itU, p__law_fits, k__law_fits, h5, em, eqD, shal_T, eqv_T, c1, L, mkL, f4, sh, e, okW]
  · simp [callD, startE, look, lookV, Sl.get, Sl.getV, frzE, stoE, binF, addO, catL, iop, gAdd, gSub, gMul, gDiv, gMod, gPow, KF.listOf, ixU, dctAt, inUD, ninUD, inK, putU, ixO, ixD, L2.atI, L2.ixN, negD, truD, cmpF, icmp, isND, notND, isN, biF, fLen, lenD, fInt, fMax2, fMin2, fAbs, fTup, fLst, allPy, mkTup, mkLst, asI, revT, isiD, tyD, isTy, putO, putL, augF, promO, wipeE, itU, p__law_fits, k__law_fits, h5, em, eqD, shal_T, eqv_T, c1, okW]
end LW
set_option Elab.async false
set_option linter.all false
set_option maxRecDepth 100000
set_option maxHeartbeats 4000000
namespace LW
open PySem KF
variable {P : Prog}
theorem pickA {α : Type} {xs : List α} {v : Int} (h0 : 0 ≤ v) (h1 : v < xs.length) : ∃ x, x ∈ xs ∧ ∀ pf, xs[v.toNat]'pf = x := ⟨xs[v.toNat]'(by omega), List.getElem_mem _, fun _ => rfl⟩
def PcOk (s : Nat) (p : List Int) : Prop := p.length ≤ 12 ∧ ∀ x ∈ p, 0 ≤ x ∧ x < s
theorem felt_sub {r : List Int} (hr : 1 ≤ r.length) (p : Int × Int) (n : Nat) : ∀ x ∈ feltL r p n, x ∈ r := fun x hx => by
  obtain ⟨j, _, ej⟩ := List.mem_map.mp hx
  have hm := modIx hr (p.1 + p.2 * (j : Nat))
  unfold feltZ at ej
  rw [← ej, List.getD_eq_getElem?_getD, List.getElem?_eq_getElem (by omega)]
  exact List.getElem_mem _
theorem piece_loop (H12 : findD P 12 = some p__law_next) (H14 : findD P 14 = some p__law_holds) (H15 : findD P 15 = some p__law_felt) (n : Nat) {r : List Int} {k s : Nat} (hk : r.length = k) (k1 : 1 ≤ k) (k2 : k ≤ 6) (s1 : 1 ≤ s) (s2 : s ≤ 3) (hr : ∀ x ∈ r, 0 ≤ x ∧ x < s) (m : Nat) (hm : m ≤ 8) {h : MH} (hs : HS h) :
    ∃ (ps : List (List Int)) (s4 s6 s7 : Sl) (h' : MH), forF (ev (runF P (n + 1)) (.tn 4)).G (ev (runF P (n + 1)) b__law_with_1).S (rngL 0 m) [.v (.loc 1), .v (.py (.int (k : Nat))), .v (.py (.int (s : Nat))), .v (TI r), .u, .o [], .u, .u, .u, .u, .u, .u] h =
      .nx [.v (.loc 1), .v (.py (.int (k : Nat))), .v (.py (.int (s : Nat))), .v (TI r), s4, .o (ps.map tI), s6, s7, .u, .u, .u, .u] h' ∧ ps.length = m ∧ (∀ p ∈ ps, PcOk s p) ∧ HS h' := by
  rw [rngL_map]
  obtain ⟨env', h', e, ps, s4, s6, s7, e1, e2, e3, e4⟩ := forF_rel (g := (ev (runF P (n + 1)) (.tn 4)).G) (b := (ev (runF P (n + 1)) b__law_with_1).S) (fun (j : Nat) => D.py (.int (j : Nat))) (fun pre env h' => ∃ (ps : List (List Int)) (s4 s6 s7 : Sl), env = [.v (.loc 1), .v (.py (.int (k : Nat))), .v (.py (.int (s : Nat))), .v (TI r), s4, .o (ps.map tI), s6, s7, .u, .u, .u, .u] ∧ ps.length = pre.length ∧ (∀ p ∈ ps, PcOk s p) ∧ HS h') (List.range m) (fun pre x suf env h0 ex ⟨ps, s4, s6, s7, e1, e2, e3, e4⟩ => by
    subst e1
    have hp : pre.length < m := by
      have := congrArg List.length ex
      simp at this
      omega
    obtain ⟨v1, h1, d1, a1, b1, hs1, _⟩ := next_ok (P := P) H12 n (b := 2 * (k : Int)) e4 (by omega) (by omega)
    have f14 := holds_ok H14 n h0 r (by omega)
    obtain ⟨q, hq, px⟩ := pickA (xs := hdL r.length) (v := v1) a1 (by rw [hdL_len]; omega)
    have hq := hdL_ok hq
    obtain ⟨v2, h2, d2, a2, b2, hs2, _⟩ := next_ok (P := P) H12 n (b := 2) hs1 (by omega) (by omega)
    obtain ⟨w, hw1, hw2, hw3⟩ : ∃ w : Int, (w = 4 ∨ w = 13) ∧ [PyData.int 4, .int 13][v2.toNat]? = some (.int w) ∧ ∀ pf, [PyData.int 4, .int 13][v2.toNat]'pf = .int w := by
      have : v2.toNat = 0 ∨ v2.toNat = 1 := by omega
      rcases this with z | z
      · exact ⟨4, .inl rfl, by rw [z]; rfl, fun pf => by simp only [z]; rfl⟩
      · exact ⟨13, .inr rfl, by rw [z]; rfl, fun pf => by simp only [z]; rfl⟩
    obtain ⟨v3, h3, d3, a3, b3, hs3, _⟩ := next_ok (P := P) H12 n (b := w) hs2 (by omega) (by omega)
    obtain ⟨v3, rfl⟩ : ∃ z : Nat, v3 = z := ⟨v3.toNat, (Int.toNat_of_nonneg a3).symm⟩
    have f15 := lawfelt_ok H15 n h3 r (by omega) q hq v3 (by omega)
    have fl := feltL_len r q v3
    have fs := felt_sub (r := r) (by omega) q v3
    obtain ⟨v4, h4, d4, a4, b4, hs4, _⟩ := next_ok (P := P) H12 n (b := 9) hs3 (by omega) (by omega)
    have v2l : v2 < (2 : Int) := b2
    have v1l : v1 < 2 * (r.length : Int) := by omega
    have f0 : fits (ps.length + 1) = true := fits_small (by omega)
    by_cases c : 0 < v4
    · refine ⟨_, [.v (.loc 1), .v (.py (.int (k : Nat))), .v (.py (.int (s : Nat))), .v (TI r), .v (.py (.int (x : Nat))), .o ((ps ++ [feltL r q v3]).map tI), .v (.py (hP q)), .v (TI (feltL r q v3)), .u, .u, .u, .u], h4, rfl, ?_, ps ++ [feltL r q v3], _, _, _, rfl, by simp [e2], fun p hp' => ?_, hs4⟩
      · simp [callD, startE, look, lookV, Sl.get, Sl.getV, frzE, stoE, binF, addO, catL, iop, gAdd, gSub, gMul, gDiv, gMod, gPow, KF.listOf, ixU, dctAt, inUD, ninUD, inK, putU, ixO, ixD, L2.atI, L2.ixN, negD, truD, cmpF, icmp, isND, notND, isN, biF, fLen, lenD, fInt, fMax2, fMin2, fAbs, fTup, fLst, allPy, mkTup, mkLst, asI, revT, isiD, tyD, isTy, putO, putL, augF, promO, wipeE, itU, b__law_with_1, f14, d1, a1, v1l, hdL_len, px, d2, a2, v2l, hw3, d3, f15, d4, c, f0]
        rfl
      · rcases List.mem_append.mp hp' with z | z
        · exact e3 p z
        · rw [List.mem_singleton.mp z]
          exact ⟨by omega, fun y hy => hr y (fs y hy)⟩
    · have c' : v4 = 0 := by omega
      subst c'
      by_cases c2 : feltL r q v3 = []
      · refine ⟨_, [.v (.loc 1), .v (.py (.int (k : Nat))), .v (.py (.int (s : Nat))), .v (TI r), .v (.py (.int (x : Nat))), .o ((ps ++ [feltL r q v3]).map tI), .v (.py (hP q)), .v (TI (feltL r q v3)), .u, .u, .u, .u], h4, rfl, ?_, ps ++ [feltL r q v3], _, _, _, rfl, by simp [e2], fun p hp' => ?_, hs4⟩
        · have ev0 : PyData.eqv (.tuple (iL (feltL r q v3))) (.tuple []) = true := by
            have := eqv_T (feltL r q v3) []
            simpa [iL, c2] using this
          have sh : shal 64 (.tuple (iL (feltL r q v3))) = true := shal_T _ _
          simp [callD, startE, look, lookV, Sl.get, Sl.getV, frzE, stoE, binF, addO, catL, iop, gAdd, gSub, gMul, gDiv, gMod, gPow, KF.listOf, ixU, dctAt, inUD, ninUD, inK, putU, ixO, ixD, L2.atI, L2.ixN, negD, truD, cmpF, icmp, isND, notND, isN, biF, fLen, lenD, fInt, fMax2, fMin2, fAbs, fTup, fLst, allPy, mkTup, mkLst, asI, revT, isiD, tyD, isTy, putO, putL, augF, promO, wipeE, itU, b__law_with_1, f14, d1, a1, v1l, hdL_len, px, d2, a2, v2l, hw3, d3, f15, d4, f0, eqD, sh, ev0]
          rfl
        · rcases List.mem_append.mp hp' with z | z
          · exact e3 p z
          · rw [List.mem_singleton.mp z]
            exact ⟨by omega, fun y hy => hr y (fs y hy)⟩
      · obtain ⟨v5, h5, d5, a5, b5, hs5, _⟩ := next_ok (P := P) H12 n (b := (s : Int)) hs4 (by omega) (by omega)
        refine ⟨_, [.v (.loc 1), .v (.py (.int (k : Nat))), .v (.py (.int (s : Nat))), .v (TI r), .v (.py (.int (x : Nat))), .o ((ps ++ [(feltL r q v3).drop 1 ++ [v5]]).map tI), .v (.py (hP q)), .v (TI (feltL r q v3)), .u, .u, .u, .u], h5, rfl, ?_, ps ++ [(feltL r q v3).drop 1 ++ [v5]], _, _, _, rfl, by simp [e2], fun p hp' => ?_, hs5⟩
        · have ev0 : PyData.eqv (.tuple (iL (feltL r q v3))) (.tuple []) = false := by
            have := eqv_T (feltL r q v3) []
            simpa [iL, c2] using this
          have sh : shal 64 (.tuple (iL (feltL r q v3))) = true := shal_T _ _
          have c1 := cut_from (iL (feltL r q v3)) 1 (by omega)
          have f1 : fits (v3 - 1 + 1) = true := fits_small (by omega)
          simp [callD, startE, look, lookV, Sl.get, Sl.getV, frzE, stoE, binF, addO, catL, iop, gAdd, gSub, gMul, gDiv, gMod, gPow, KF.listOf, ixU, dctAt, inUD, ninUD, inK, putU, ixO, ixD, L2.atI, L2.ixN, negD, truD, cmpF, icmp, isND, notND, isN, biF, fLen, lenD, fInt, fMax2, fMin2, fAbs, fTup, fLst, allPy, mkTup, mkLst, asI, revT, isiD, tyD, isTy, putO, putL, augF, promO, wipeE, itU, b__law_with_1, f14, d1, a1, v1l, hdL_len, px, d2, a2, v2l, hw3, d3, f15, d4, f0, eqD, sh, ev0, cutU, c1, iL_len, fl, f1, d5]
          simp [tI, iL]
        · rcases List.mem_append.mp hp' with z | z
          · exact e3 p z
          · rw [List.mem_singleton.mp z]
            refine ⟨by simp; omega, fun y hy => ?_⟩
            rcases List.mem_append.mp hy with u | u
            · exact hr y (fs y (List.mem_of_mem_drop u))
            · rw [List.mem_singleton.mp u]; omega) [.v (.loc 1), .v (.py (.int (k : Nat))), .v (.py (.int (s : Nat))), .v (TI r), .u, .o [], .u, .u, .u, .u, .u, .u] h ⟨[], .u, .u, .u, rfl, rfl, (fun p hp => by cases hp), hs⟩
  subst e1
  exact ⟨ps, s4, s6, s7, h', e, by simpa using e2, e3, e4⟩
def more (s : Nat) (rows : List (List Int)) : List (List Int) := rows.flatMap fun row => (List.range s).map fun (x : Nat) => row ++ [(x : Int)]
theorem more_len (s : Nat) (rows : List (List Int)) : (more s rows).length = rows.length * s := by
  induction rows with
  | nil => simp [more]
  | cons r rs ih =>
    unfold more at *
    rw [List.flatMap_cons, List.length_append, ih]
    simp
    rw [Nat.add_mul]
    omega
theorem row_in {F : FnS} {h : MH} {s : Nat} (hs : s ≤ 3) {a0 a1 a3 a4 a5 a6 a7 a8 : Sl} : ∀ (rows acc : List (List Int)) (s10 : Sl), acc.length + rows.length * 3 ≤ 10000 → (∀ row ∈ rows, row.length ≤ 10) → (∀ xs, s10 ≠ .o xs) →
    ∃ s10', (∀ xs, s10' ≠ .o xs) ∧ forF (ev F (.tn 10)).G (ev F b__law_with_2).S (rows.map (D.py ∘ tI)) [a0, a1, .v (.py (.int (s : Nat))), a3, a4, a5, a6, a7, a8, .o (acc.map tI), s10, .u] h = .nx [a0, a1, .v (.py (.int (s : Nat))), a3, a4, a5, a6, a7, a8, .o ((acc ++ more s rows).map tI), s10', .u] h
  | [], acc, s10, _, _, no => ⟨s10, no, by simp [forF, more]⟩
  | row :: rows, acc, s10, hn, hr, no => by
    have z : rng1 [.py (.int (s : Nat))] = some (rngL 0 s) := rng1_nat s (by omega)
    have L := lcF_pureA (g := (ev F (.tn 11)).G) (ft := (ev F .yes).T) (fe := (ev F e__law_with_2).E) (env := [a0, a1, .v (.py (.int (s : Nat))), a3, a4, a5, a6, a7, a8, .o (acc.map tI), .v (TI row), .u]) (h := h) (fun (j : Nat) => D.py (.int (j : Nat))) (fun _ => true) (fun (j : Nat) => tI (row ++ [(j : Int)])) (xs := List.range s) (fun j hj => by
      refine ⟨[a0, a1, .v (.py (.int (s : Nat))), a3, a4, a5, a6, a7, a8, .o (acc.map tI), .v (TI row), .v (.py (.int j))], rfl, rfl, fun _ => ?_⟩
      have f1 : fits (row.length + 1) = true := fits_small (by have := hr row List.mem_cons_self; omega)
      simp [callD, startE, look, lookV, Sl.get, Sl.getV, frzE, stoE, binF, addO, catL, iop, gAdd, gSub, gMul, gDiv, gMod, gPow, KF.listOf, ixU, dctAt, inUD, ninUD, inK, putU, ixO, ixD, L2.atI, L2.ixN, negD, truD, cmpF, icmp, isND, notND, isN, biF, fLen, lenD, fInt, fMax2, fMin2, fAbs, fTup, fLst, allPy, mkTup, mkLst, asI, revT, isiD, tyD, isTy, putO, putL, augF, promO, wipeE, itU, e__law_with_2, f1, iL_len]
      simp [tI, iL])
    rw [filter_true, ← rngL_map] at L
    simp only [List.length_cons] at hn
    have f2 : fits s = true := fits_small (by omega)
    have f3 : fits (acc.length + s) = true := fits_small (by omega)
    obtain ⟨s10', no', ih⟩ := row_in (F := F) (h := h) hs (a0 := a0) (a1 := a1) (a3 := a3) (a4 := a4) (a5 := a5) (a6 := a6) (a7 := a7) (a8 := a8) rows (acc ++ (List.range s).map fun (x : Nat) => row ++ [(x : Int)]) (.v (TI row)) (by rw [List.length_append, List.length_map, List.length_range]; omega) (fun q hq => hr q (List.mem_cons_of_mem _ hq)) (fun xs z => by cases z)
    refine ⟨s10', no', ?_⟩
    have em : (List.range s).map (fun (j : Nat) => tI (row ++ [(j : Int)])) = ((List.range s).map fun (x : Nat) => row ++ [(x : Int)]).map tI := by rw [List.map_map]; rfl
    rw [em] at L
    have step : (ev F b__law_with_2).S [a0, a1, .v (.py (.int (s : Nat))), a3, a4, a5, a6, a7, a8, .o (acc.map tI), .v (TI row), .u] h = .nx [a0, a1, .v (.py (.int (s : Nat))), a3, a4, a5, a6, a7, a8, .o ((acc ++ (List.range s).map fun (x : Nat) => row ++ [(x : Int)]).map tI), .v (TI row), .u] h := by
      rw [List.map_append]
      generalize hG : ((List.range s).map fun (x : Nat) => row ++ [(x : Int)]).map tI = G at L
      have gl : G.length = s := by rw [← hG]; simp
      simp [callD, startE, look, lookV, Sl.get, Sl.getV, frzE, stoE, binF, addO, catL, iop, gAdd, gSub, gMul, gDiv, gMod, gPow, KF.listOf, ixU, dctAt, inUD, ninUD, inK, putU, ixO, ixD, L2.atI, L2.ixN, negD, truD, cmpF, icmp, isND, notND, isN, biF, fLen, lenD, fInt, fMax2, fMin2, fAbs, fTup, fLst, allPy, mkTup, mkLst, asI, revT, isiD, tyD, isTy, putO, putL, augF, promO, wipeE, itU, b__law_with_2, z, L, mkL, gl, f2, f3]
    rw [List.map_cons, forF_cons]
    show ((ev F b__law_with_2).S [a0, a1, .v (.py (.int (s : Nat))), a3, a4, a5, a6, a7, a8, .o (acc.map tI), .v (TI row), .u] h).thn _ = _
    rw [step]
    show forF _ _ _ _ h = _
    rw [ih, List.append_assoc]
    rfl
theorem rowsN_more (s k : Nat) : rowsN s (k + 1) = more s (rowsN s k) := rfl
theorem rows_law {F : FnS} {h : MH} {k s : Nat} (hk : k < 7) (hs : s < 4) {a0 a3 a5 a6 a7 s4 : Sl} : ∃ s4' s8 s9 s10, forF (ev F (.tn 4)).G (ev F b__law_with_3).S (rngL 0 k) [a0, .v (.py (.int (k : Nat))), .v (.py (.int (s : Nat))), a3, s4, a5, a6, a7, .o [.tuple []], .u, .u, .u] h =
    .nx [a0, .v (.py (.int (k : Nat))), .v (.py (.int (s : Nat))), a3, s4', a5, a6, a7, s8, s9, s10, .u] h ∧ (s8 = .o ((rowsN s k).map tI) ∨ s8 = .v (.py (.list ((rowsN s k).map tI)))) ∧ ∀ xs, s10 ≠ .o xs := by
  rw [rngL_map]
  obtain ⟨env', h', e, s4', s8, s9, s10, e1, e2, no, e3⟩ := forF_rel (g := (ev F (.tn 4)).G) (b := (ev F b__law_with_3).S) (fun (j : Nat) => D.py (.int (j : Nat))) (fun pre env h' => ∃ s4' s8 s9 s10, env = [a0, .v (.py (.int (k : Nat))), .v (.py (.int (s : Nat))), a3, s4', a5, a6, a7, s8, s9, s10, .u] ∧ (s8 = .o ((rowsN s pre.length).map tI) ∨ s8 = .v (.py (.list ((rowsN s pre.length).map tI)))) ∧ (∀ xs, s10 ≠ .o xs) ∧ h' = h) (List.range k) (fun pre x suf env h0 ex ⟨s4', s8, s9, s10, e1, e2, no, e3⟩ => by
    subst e1 e3
    have hp : pre.length < k := by
      have := congrArg List.length ex
      simp at this
      omega
    have hl := rowsN_len s hs pre.length (by omega)
    obtain ⟨s10', no', L⟩ := row_in (F := F) (h := h0) (s := s) (by omega) (a0 := a0) (a1 := .v (.py (.int (k : Nat)))) (a3 := a3) (a4 := .v (.py (.int (x : Nat)))) (a5 := a5) (a6 := a6) (a7 := a7) (a8 := .v (.py (.list ((rowsN s pre.length).map tI)))) (rowsN s pre.length) [] s10 (by simp; omega) (fun row hr => by rw [(rowsN_mem hr).1]; omega) no
    rw [List.nil_append, ← rowsN_more] at L
    have L : forF (ev F (.tn 10)).G (ev F b__law_with_2).S ((rowsN s pre.length).map (D.py ∘ tI)) [a0, .v (.py (.int (k : Nat))), .v (.py (.int (s : Nat))), a3, .v (.py (.int (x : Nat))), a5, a6, a7, .v (.py (.list ((rowsN s pre.length).map tI))), .o [], s10, .u] h0 = _ := L
    refine ⟨[a0, .v (.py (.int (k : Nat))), .v (.py (.int (s : Nat))), a3, .v (.py (.int (x : Nat))), a5, a6, a7, s8, s9, s10, .u], [a0, .v (.py (.int (k : Nat))), .v (.py (.int (s : Nat))), a3, .v (.py (.int (x : Nat))), a5, a6, a7, .v (.py (.list ((rowsN s (pre.length + 1)).map tI))), .v (.py (.list ((rowsN s (pre.length + 1)).map tI))), s10', .u], h0, rfl, ?_, _, _, _, _, rfl, .inr (by simp), no', rfl⟩
    rcases e2 with e2 | e2 <;> subst e2 <;> simp [callD, startE, look, lookV, Sl.get, Sl.getV, frzE, stoE, binF, addO, catL, iop, gAdd, gSub, gMul, gDiv, gMod, gPow, KF.listOf, ixU, dctAt, inUD, ninUD, inK, putU, ixO, ixD, L2.atI, L2.ixN, negD, truD, cmpF, icmp, isND, notND, isN, biF, fLen, lenD, fInt, fMax2, fMin2, fAbs, fTup, fLst, allPy, mkTup, mkLst, asI, revT, isiD, tyD, isTy, putO, putL, augF, promO, wipeE, itU, b__law_with_3, L]) [a0, .v (.py (.int (k : Nat))), .v (.py (.int (s : Nat))), a3, s4, a5, a6, a7, .o [.tuple []], .u, .u, .u] h ⟨s4, _, .u, .u, rfl, .inl rfl, (fun xs z => by cases z), rfl⟩
  subst e1 e3
  rw [List.length_range] at e2
  exact ⟨s4', s8, s9, s10, e, e2, no⟩
end LW
set_option Elab.async false
set_option linter.all false
set_option maxRecDepth 100000
set_option maxHeartbeats 4000000
/-! KM, part I: all rows with so many keys of each shape. -/
namespace LW
open PySem KF
variable {P : Prog}
def kidsC (cs : List Nat) : List (Nat × List Nat) := ((List.range cs.length).filter fun s => decide (0 < cs.getD s 0)).map fun s => (s, cs.set s (cs.getD s 0 - 1))
def rowsF : Nat → List Nat → List (List Nat)
  | 0, _ => [[]]
  | t + 1, cs => (kidsC cs).flatMap fun x => (rowsF t x.2).map (x.1 :: ·)
def pairsF : Nat → List Nat → List (List Nat × List Nat)
  | 0, cs => [([], cs)]
  | t + 1, cs => (pairsF t cs).flatMap fun y => (kidsC y.2).map fun x => (y.1 ++ [x.1], x.2)
theorem pairsF_front : ∀ (t : Nat) (cs : List Nat), pairsF (t + 1) cs = (kidsC cs).flatMap fun x => (pairsF t x.2).map fun y => (x.1 :: y.1, y.2)
  | 0, cs => by
    show ([([], cs)] : List (List Nat × List Nat)).flatMap _ = _
    rw [List.flatMap_cons, List.flatMap_nil, List.append_nil]
    simp only [pairsF, List.map_cons, List.map_nil, List.nil_append]
    induction kidsC cs with
    | nil => rfl
    | cons x r ih => rw [List.map_cons, List.flatMap_cons, ih]; rfl
  | t + 1, cs => by
    show (pairsF (t + 1) cs).flatMap _ = _
    rw [pairsF_front t cs, List.flatMap_assoc]
    congr 1
    funext x
    rw [List.flatMap_map]
    show _ = ((pairsF t x.2).flatMap fun y => (kidsC y.2).map fun x => (y.1 ++ [x.1], x.2)).map _
    rw [List.map_flatMap]
    congr 1
    funext y
    rw [List.map_map]
    rfl
theorem pairs_rows : ∀ (t : Nat) (cs : List Nat), (pairsF t cs).map (·.1) = rowsF t cs
  | 0, cs => rfl
  | t + 1, cs => by
    rw [pairsF_front, List.map_flatMap]
    show _ = (kidsC cs).flatMap fun x => (rowsF t x.2).map (x.1 :: ·)
    congr 1
    funext x
    rw [← pairs_rows t x.2, List.map_map, List.map_map]
    rfl
theorem kidsC_len (cs : List Nat) : (kidsC cs).length ≤ cs.length := by
  unfold kidsC
  rw [List.length_map]
  exact Nat.le_trans (List.length_filter_le _ _) (by simp)
theorem kidsC_mem {cs : List Nat} {x : Nat × List Nat} (h : x ∈ kidsC cs) : x.1 < cs.length ∧ 0 < cs.getD x.1 0 ∧ x.2 = cs.set x.1 (cs.getD x.1 0 - 1) := by
  obtain ⟨s, hs, e⟩ := List.mem_map.mp h
  obtain ⟨h1, h2⟩ := List.mem_filter.mp hs
  subst e
  exact ⟨List.mem_range.mp h1, of_decide_eq_true h2, rfl⟩
theorem set_sum : ∀ (cs : List Nat) (s v : Nat), s < cs.length → (cs.set s v).sum + cs.getD s 0 = cs.sum + v
  | [], _, _, h => by simp at h
  | c :: cs, 0, v, _ => by simp; omega
  | c :: cs, s + 1, v, h => by
    have := set_sum cs s v (by simpa using h)
    simp at this ⊢
    omega
theorem kid_sum {cs : List Nat} {x : Nat × List Nat} (h : x ∈ kidsC cs) : x.2.sum + 1 = cs.sum := by
  obtain ⟨h1, h2, h3⟩ := kidsC_mem h
  have := set_sum cs x.1 (cs.getD x.1 0 - 1) h1
  rw [h3]
  omega
theorem kid_len {cs : List Nat} {x : Nat × List Nat} (h : x ∈ kidsC cs) : x.2.length = cs.length := by
  rw [(kidsC_mem h).2.2]; simp
theorem flat_le {α β : Type} (f : α → List β) (k : Nat) : ∀ xs : List α, (∀ x ∈ xs, (f x).length ≤ k) → (xs.flatMap f).length ≤ xs.length * k
  | [], _ => by simp
  | x :: r, h => by
    rw [List.flatMap_cons, List.length_append, List.length_cons, Nat.add_mul]
    have := flat_le f k r fun y hy => h y (List.mem_cons_of_mem _ hy)
    have := h x List.mem_cons_self
    omega
theorem rowsF_len : ∀ (t : Nat) (cs : List Nat), (rowsF t cs).length ≤ cs.length ^ t
  | 0, cs => by simp [rowsF]
  | t + 1, cs => by
    have h := flat_le (fun x : Nat × List Nat => (rowsF t x.2).map (x.1 :: ·)) (cs.length ^ t) (kidsC cs) (fun x hx => by
      rw [List.length_map]
      have := rowsF_len t x.2
      rw [kid_len hx] at this
      exact this)
    have h2 := Nat.mul_le_mul (kidsC_len cs) (Nat.le_refl (cs.length ^ t))
    show ((kidsC cs).flatMap fun x => (rowsF t x.2).map (x.1 :: ·)).length ≤ _
    rw [Nat.pow_succ, Nat.mul_comm]
    exact Nat.le_trans h h2
theorem pairsF_len (t : Nat) (cs : List Nat) : (pairsF t cs).length ≤ cs.length ^ t := by
  have := rowsF_len t cs
  rw [← pairs_rows, List.length_map] at this
  exact this
theorem pairsF_mem : ∀ {t : Nat} {cs : List Nat} {y : List Nat × List Nat}, y ∈ pairsF t cs → y.1.length = t ∧ y.2.length = cs.length
  | 0, cs, y, h => by
    simp [pairsF] at h
    subst h
    exact ⟨rfl, rfl⟩
  | t + 1, cs, y, h => by
    obtain ⟨z, h1, h2⟩ := List.mem_flatMap.mp h
    obtain ⟨x, h3, e⟩ := List.mem_map.mp h2
    obtain ⟨a, b⟩ := pairsF_mem h1
    subst e
    exact ⟨by simp [a], by rw [kid_len h3, b]⟩
theorem rowsF_mem {t : Nat} {cs row : List Nat} (h : row ∈ rowsF t cs) : row.length = t ∧ ∀ x ∈ row, x < cs.length := by
  induction t generalizing cs row with
  | zero =>
    simp [rowsF] at h
    subst h
    simp
  | succ t ih =>
    obtain ⟨x, h1, h2⟩ := List.mem_flatMap.mp h
    obtain ⟨y, h3, e⟩ := List.mem_map.mp h2
    obtain ⟨a, b⟩ := ih h3
    subst e
    refine ⟨by simp [a], fun z hz => ?_⟩
    rcases List.mem_cons.mp hz with e | e
    · rw [e]; exact (kidsC_mem h1).1
    · have := b z e; rw [kid_len h1] at this; exact this
/-! ### all_rows -/
def pP (y : List Nat × List Nat) : PyData := .tuple [cT y.1, cT y.2]
theorem cT_take (c : List Nat) (k : Nat) : (c.map fun (k : Nat) => PyData.int (k : Nat)).take k = (c.take k).map fun (k : Nat) => PyData.int (k : Nat) := by simp
theorem set_cut {cs : List Nat} {s : Nat} (v : Nat) (h : s < cs.length) : cs.take s ++ v :: cs.drop (s + 1) = cs.set s v := by
  rw [List.set_eq_take_append_cons_drop, if_pos h]
def kidsFrom (cs : List Nat) (m : Nat) : List (Nat × List Nat) := ((List.range m).filter fun s => decide (0 < cs.getD s 0)).map fun s => (s, cs.set s (cs.getD s 0 - 1))
theorem kid_loop {F : FnS} {h : MH} {a0 a1 a2 : Sl} (row cs : List Nat) (hr : row.length ≤ 20) (hc : cs.length ≤ 9) (acc : List (List Nat × List Nat)) (ha : acc.length ≤ 900000) (s6 s7 : Sl) :
    ∃ s6' s7', forF (ev F (.tt 2 (.cons (.tn 6) (.cons (.tn 7) (.nil))))).G (ev F b_all_rows_1).S (enumD (cs.map fun (k : Nat) => PyData.int (k : Nat))) [a0, a1, a2, .o (acc.map pP), .v (.py (cT row)), .v (.py (cT cs)), s6, s7] h =
      .nx [a0, a1, a2, .o ((acc ++ (kidsC cs).map fun x => (row ++ [x.1], x.2)).map pP), .v (.py (cT row)), .v (.py (cT cs)), s6', s7'] h := by
  have ee : enumD (cs.map fun (k : Nat) => PyData.int (k : Nat)) = (List.range cs.length).map fun (s : Nat) => D.py (.tuple [.int (s : Nat), .int (cs.getD s 0 : Nat)]) := by
    refine List.ext_getElem? fun i => ?_
    by_cases c : i < cs.length
    · simp [enumD, List.getElem?_map, List.getElem?_zipIdx, c]
    · simp [enumD, List.getElem?_map, List.getElem?_zipIdx, c]
  rw [ee]
  obtain ⟨env', h', e, s6', s7', e1, e2⟩ := forF_rel (g := (ev F (.tt 2 (.cons (.tn 6) (.cons (.tn 7) (.nil))))).G) (b := (ev F b_all_rows_1).S) (fun (s : Nat) => D.py (.tuple [.int (s : Nat), .int (cs.getD s 0 : Nat)])) (fun pre env h' => ∃ s6' s7', env = [a0, a1, a2, .o ((acc ++ (kidsFrom cs pre.length).map fun x => (row ++ [x.1], x.2)).map pP), .v (.py (cT row)), .v (.py (cT cs)), s6', s7'] ∧ h' = h) (List.range cs.length) (fun pre s suf env h0 ex ⟨s6', s7', e1, e2⟩ => by
    subst e1 e2
    have hs : s = pre.length ∧ s < cs.length := by
      have hl2 : pre.length < cs.length := by have := congrArg List.length ex; simp at this; omega
      have q := congrArg (fun l => l[pre.length]?) ex
      simp [hl2] at q
      omega
    obtain ⟨hs1, hs2⟩ := hs
    rw [List.length_append, List.length_singleton, ← hs1]
    have c1 := cut_from (cs.map fun (k : Nat) => PyData.int (k : Nat)) (((s : Nat) : Int) + 1) (by omega)
    have c2 := cut_to (cs.map fun (k : Nat) => PyData.int (k : Nat)) ((s : Nat) : Int) (by omega)
    have t1 : ((s : Int) + 1).toNat = s + 1 := by omega
    have kl : (kidsFrom cs s).length ≤ 9 := by
      unfold kidsFrom
      rw [List.length_map]
      refine Nat.le_trans (List.length_filter_le _ _) ?_
      simp; omega
    have f1 : fits (row.length + 1) = true := fits_small (by omega)
    have f2 : fits (min s cs.length + 1 + (cs.length - (s + 1))) = true := fits_small (by omega)
    have f3 : fits (min s cs.length + 1) = true := fits_small (by omega)
    have f4 : fits (min s cs.length + (cs.length - (s + 1) + 1)) = true := fits_small (by omega)
    have f5 : fits (acc.length + (kidsFrom cs s).length + 1) = true := fits_small (by omega)
    have f6 : fits (acc.length + ((kidsFrom cs s).length + 1)) = true := fits_small (by omega)
    refine ⟨[a0, a1, a2, .o ((acc ++ (kidsFrom cs s).map fun x => (row ++ [x.1], x.2)).map pP), .v (.py (cT row)), .v (.py (cT cs)), .v (.py (.int (s : Nat))), .v (.py (.int (cs.getD s 0 : Nat)))], [a0, a1, a2, .o ((acc ++ (kidsFrom cs (s + 1)).map fun x => (row ++ [x.1], x.2)).map pP), .v (.py (cT row)), .v (.py (cT cs)), .v (.py (.int (s : Nat))), .v (.py (.int (cs.getD s 0 : Nat)))], h0, by simp [callD, startE, look, lookV, Sl.get, Sl.getV, frzE, stoE, binF, addO, catL, iop, gAdd, gSub, gMul, gDiv, gMod, gPow, KF.listOf, ixU, dctAt, inUD, ninUD, inK, putU, ixO, ixD, L2.atI, L2.ixN, negD, truD, cmpF, icmp, isND, notND, isN, biF, fLen, lenD, fInt, fMax2, fMin2, fAbs, fTup, fLst, allPy, mkTup, mkLst, asI, revT, isiD, tyD, isTy, putO, putL, augF, promO, wipeE, itU], ?_, _, _, rfl, rfl⟩
    by_cases c : 0 < cs.getD s 0
    · have ek : kidsFrom cs (s + 1) = kidsFrom cs s ++ [(s, cs.set s (cs.getD s 0 - 1))] := by
        unfold kidsFrom
        rw [List.range_succ, List.filter_append, List.map_append]
        simp only [List.filter_cons, List.filter_nil, decide_eq_true c, if_true, List.map_cons, List.map_nil]
      have sc := set_cut (cs.getD s 0 - 1) hs2
      rw [ek]
      generalize hg : cs.getD s 0 = g at *
      have c' : (0 : Int) < (g : Nat) := by omega
      have ei : ((g : Nat) : Int) - 1 = ((g - 1 : Nat) : Int) := by omega
      have e7 : (cs.take s).map (fun (k : Nat) => PyData.int (k : Nat)) ++ PyData.int ((g - 1 : Nat) : Int) :: (cs.drop (s + 1)).map (fun (k : Nat) => PyData.int (k : Nat)) = (cs.set s (g - 1)).map fun (k : Nat) => PyData.int (k : Nat) := by
        rw [← sc]; simp
      simp [callD, startE, look, lookV, Sl.get, Sl.getV, frzE, stoE, binF, addO, catL, iop, gAdd, gSub, gMul, gDiv, gMod, gPow, KF.listOf, ixU, dctAt, inUD, ninUD, inK, putU, ixO, ixD, L2.atI, L2.ixN, negD, truD, cmpF, icmp, isND, notND, isN, biF, fLen, lenD, fInt, fMax2, fMin2, fAbs, fTup, fLst, allPy, mkTup, mkLst, asI, revT, isiD, tyD, isTy, putO, putL, augF, promO, wipeE, itU, b_all_rows_1, cT, c, c', cutU, c1, c2, t1, f1, f2, f3, f4, f5, f6, ei]
      rw [← List.map_take, ← List.map_drop, e7]
      simp [pP, cT]
    · have ek : kidsFrom cs (s + 1) = kidsFrom cs s := by
        unfold kidsFrom
        rw [List.range_succ, List.filter_append, List.map_append]
        simp only [List.filter_cons, List.filter_nil, decide_eq_false c, List.map_nil, List.append_nil]
        simp
      rw [ek]
      have c0 : cs.getD s 0 = 0 := by omega
      generalize cs.getD s 0 = g at *
      subst c0
      simp [callD, startE, look, lookV, Sl.get, Sl.getV, frzE, stoE, binF, addO, catL, iop, gAdd, gSub, gMul, gDiv, gMod, gPow, KF.listOf, ixU, dctAt, inUD, ninUD, inK, putU, ixO, ixD, L2.atI, L2.ixN, negD, truD, cmpF, icmp, isND, notND, isN, biF, fLen, lenD, fInt, fMax2, fMin2, fAbs, fTup, fLst, allPy, mkTup, mkLst, asI, revT, isiD, tyD, isTy, putO, putL, augF, promO, wipeE, itU, b_all_rows_1]) [a0, a1, a2, .o (acc.map pP), .v (.py (cT row)), .v (.py (cT cs)), s6, s7] h ⟨s6, s7, by simp [kidsFrom], rfl⟩
  subst e1 e2
  refine ⟨s6', s7', ?_⟩
  rw [e]
  simp [kidsC, kidsFrom]
theorem turn_loop {F : FnS} {h : MH} {cs0 : D} {s2 : Sl} {n : Nat} (hn : n ≤ 9) : ∀ (ys acc : List (List Nat × List Nat)) (s4 s5 s6 s7 : Sl), (∀ y ∈ ys, y.1.length ≤ 20 ∧ y.2.length = n) → acc.length + ys.length * 9 ≤ 900000 → (∀ xs, s4 ≠ .o xs) → (∀ xs, s5 ≠ .o xs) →
    ∃ s4' s5' s6' s7', (∀ xs, s4' ≠ .o xs) ∧ (∀ xs, s5' ≠ .o xs) ∧ forF (ev F (.tt 2 (.cons (.tn 4) (.cons (.tn 5) (.nil))))).G (ev F b_all_rows_2).S (ys.map (D.py ∘ pP)) [.v cs0, s1, s2, .o (acc.map pP), s4, s5, s6, s7] h =
      .nx [.v cs0, s1, s2, .o ((acc ++ ys.flatMap fun y => (kidsC y.2).map fun x => (y.1 ++ [x.1], x.2)).map pP), s4', s5', s6', s7'] h
  | [], acc, s4, s5, s6, s7, _, _, n4, n5 => ⟨s4, s5, s6, s7, n4, n5, by simp [forF]⟩
  | y :: ys, acc, s4, s5, s6, s7, hy, ha, n4, n5 => by
    obtain ⟨h1, h2⟩ := hy y List.mem_cons_self
    simp only [List.length_cons] at ha
    obtain ⟨s6', s7', L⟩ := kid_loop (F := F) (h := h) (a0 := .v cs0) (a1 := s1) (a2 := s2) y.1 y.2 h1 (by omega) acc (by omega) s6 s7
    have kl := kidsC_len y.2
    obtain ⟨t4, t5, t6, t7, m4, m5, ih⟩ := turn_loop (F := F) (h := h) (cs0 := cs0) (s1 := s1) (s2 := s2) hn ys (acc ++ (kidsC y.2).map fun x => (y.1 ++ [x.1], x.2)) (.v (.py (cT y.1))) (.v (.py (cT y.2))) s6' s7' (fun z hz => hy z (List.mem_cons_of_mem _ hz)) (by rw [List.length_append, List.length_map]; omega) (fun xs z => by cases z) (fun xs z => by cases z)
    refine ⟨t4, t5, t6, t7, m4, m5, ?_⟩
    rw [List.map_cons, forF_cons]
    have g1 : (ev F (.tt 2 (.cons (.tn 4) (.cons (.tn 5) (.nil))))).G ((D.py ∘ pP) y) [.v cs0, s1, s2, .o (acc.map pP), s4, s5, s6, s7] = some [.v cs0, s1, s2, .o (acc.map pP), .v (.py (cT y.1)), .v (.py (cT y.2)), s6, s7] := by simp [callD, startE, look, lookV, Sl.get, Sl.getV, frzE, stoE, binF, addO, catL, iop, gAdd, gSub, gMul, gDiv, gMod, gPow, KF.listOf, ixU, dctAt, inUD, ninUD, inK, putU, ixO, ixD, L2.atI, L2.ixN, negD, truD, cmpF, icmp, isND, notND, isN, biF, fLen, lenD, fInt, fMax2, fMin2, fAbs, fTup, fLst, allPy, mkTup, mkLst, asI, revT, isiD, tyD, isTy, putO, putL, augF, promO, wipeE, itU, pP]
    rw [g1]
    have step : (ev F b_all_rows_2).S [.v cs0, s1, s2, .o (acc.map pP), .v (.py (cT y.1)), .v (.py (cT y.2)), s6, s7] h = .nx [.v cs0, s1, s2, .o ((acc ++ (kidsC y.2).map fun x => (y.1 ++ [x.1], x.2)).map pP), .v (.py (cT y.1)), .v (.py (cT y.2)), s6', s7'] h := by
      have L' : forF (ev F (.tt 2 (.cons (.tn 6) (.cons (.tn 7) (.nil))))).G (ev F b_all_rows_1).S (enumD (y.2.map fun (k : Nat) => PyData.int (k : Nat))) [.v cs0, s1, s2, .o (acc.map pP), .v (.py (cT y.1)), .v (.py (.tuple (y.2.map fun (k : Nat) => PyData.int (k : Nat)))), s6, s7] h = _ := L
      unfold cT at L' ⊢
      simp [callD, startE, look, lookV, Sl.get, Sl.getV, frzE, stoE, binF, addO, catL, iop, gAdd, gSub, gMul, gDiv, gMod, gPow, KF.listOf, ixU, dctAt, inUD, ninUD, inK, putU, ixO, ixD, L2.atI, L2.ixN, negD, truD, cmpF, icmp, isND, notND, isN, biF, fLen, lenD, fInt, fMax2, fMin2, fAbs, fTup, fLst, allPy, mkTup, mkLst, asI, revT, isiD, tyD, isTy, putO, putL, augF, promO, wipeE, itU, b_all_rows_2, enumO, L']
    show ((ev F b_all_rows_2).S _ h).thn _ = _
    rw [step]
    show forF _ _ _ _ h = _
    rw [ih, List.append_assoc, List.flatMap_cons]
theorem intsOf_cT (cs : List Nat) : intsOf (cs.map fun (k : Nat) => PyData.int (k : Nat)) = some (cs.map fun (k : Nat) => (k : Int)) := by
  have : (cs.map fun (k : Nat) => PyData.int (k : Nat)) = iL (cs.map fun (k : Nat) => (k : Int)) := by simp [iL]
  rw [this, intsOf_iL]
theorem allrows_ok (H : findD P 81 = some p_all_rows) (n : Nat) (h : MH) (cs : List Nat) (hc : cs.length ≤ 9) (hp : ∀ t ≤ cs.sum, cs.length ^ t ≤ 90000) (hs : cs.sum ≤ 20) (es : ∀ h, fSum h [.py (cT cs)] = some (.py (.int (cs.sum : Nat)))) :
    runF P (n + 1) 81 [.py (cT cs)] h = .ok (.py (.list ((rowsF cs.sum cs).map cT))) h := by
  rw [run_of H]
  obtain ⟨env', h', e, s1, s2, s3, s4, s5, s6, s7, e1, e2, no4, no5, e3⟩ := forF_rel (g := (ev (runF P n) (.tn 2)).G) (b := (ev (runF P n) b_all_rows_3).S) (fun (k : Nat) => D.py (.int (k : Nat))) (fun pre env h' => ∃ s1 s2 s3 s4 s5 s6 s7, env = [.v (.py (cT cs)), s1, s2, s3, s4, s5, s6, s7] ∧ (s1 = .o ((pairsF pre.length cs).map pP) ∨ s1 = .v (.py (.list ((pairsF pre.length cs).map pP)))) ∧ (∀ xs, s4 ≠ .o xs) ∧ (∀ xs, s5 ≠ .o xs) ∧ h' = h) (List.range cs.sum) (fun pre x suf env h0 ex ⟨s1, s2, s3, s4, s5, s6, s7, e1, e2, no4, no5, e3⟩ => by
    subst e1 e3
    have hl2 : pre.length < cs.sum := by have := congrArg List.length ex; simp at this; omega
    have pl := pairsF_len pre.length cs
    have hb := hp pre.length (by omega)
    obtain ⟨t4, t5, t6, t7, m4, m5, L⟩ := turn_loop (F := runF P n) (h := h0) (cs0 := .py (cT cs)) (s1 := .v (.py (.list ((pairsF pre.length cs).map pP)))) (s2 := .v (.py (.int (x : Nat)))) hc (pairsF pre.length cs) [] s4 s5 s6 s7 (fun y hy => by
      obtain ⟨a, b⟩ := pairsF_mem hy
      exact ⟨by omega, b⟩) (by simp; omega) no4 no5
    rw [List.nil_append] at L
    have L : forF (ev (runF P n) (.tt 2 (.cons (.tn 4) (.cons (.tn 5) (.nil))))).G (ev (runF P n) b_all_rows_2).S ((pairsF pre.length cs).map (D.py ∘ pP)) [.v (.py (cT cs)), .v (.py (.list ((pairsF pre.length cs).map pP))), .v (.py (.int (x : Nat))), .o [], s4, s5, s6, s7] h0 = .nx [.v (.py (cT cs)), .v (.py (.list ((pairsF pre.length cs).map pP))), .v (.py (.int (x : Nat))), .o ((pairsF (pre.length + 1) cs).map pP), t4, t5, t6, t7] h0 := L
    refine ⟨[.v (.py (cT cs)), s1, .v (.py (.int (x : Nat))), s3, s4, s5, s6, s7], [.v (.py (cT cs)), .v (.py (.list ((pairsF (pre.length + 1) cs).map pP))), .v (.py (.int (x : Nat))), .v (.py (.list ((pairsF (pre.length + 1) cs).map pP))), t4, t5, t6, t7], h0, rfl, ?_, _, _, _, _, _, _, _, rfl, .inr (by simp), m4, m5, rfl⟩
    generalize pairsF (pre.length + 1) cs = G2 at *
    generalize pairsF pre.length cs = G1 at *
    rcases e2 with e2 | e2 <;> subst e2 <;> simp [callD, startE, look, lookV, Sl.get, Sl.getV, frzE, stoE, binF, addO, catL, iop, gAdd, gSub, gMul, gDiv, gMod, gPow, KF.listOf, ixU, dctAt, inUD, ninUD, inK, putU, ixO, ixD, L2.atI, L2.ixN, negD, truD, cmpF, icmp, isND, notND, isN, biF, fLen, lenD, fInt, fMax2, fMin2, fAbs, fTup, fLst, allPy, mkTup, mkLst, asI, revT, isiD, tyD, isTy, putO, putL, augF, promO, wipeE, itU, b_all_rows_3, L]) [.v (.py (cT cs)), .o [pP ([], cs)], .u, .u, .u, .u, .u, .u] h ⟨_, _, _, _, _, _, _, rfl, .inl rfl, (fun xs z => by cases z), (fun xs z => by cases z), rfl⟩
  subst e1 e3
  rw [List.length_range] at e2
  rw [← rngL_map] at e
  have z : rng1 [.py (.int (cs.sum : Nat))] = some (rngL 0 cs.sum) := rng1_nat cs.sum (by omega)
  have es := es h'
  have p0 : pP ([], cs) = .tuple [.tuple [], cT cs] := rfl
  rw [p0] at e
  have pl := pairsF_len cs.sum cs
  have hb := hp cs.sum (Nat.le_refl _)
  have pr := pairs_rows cs.sum cs
  have f3 : fits (pairsF cs.sum cs).length = true := fits_small (by omega)
  have L := lcF_pureA (g := (ev (runF P n) (.tt 2 (.cons (.tn 4) (.cons (.tn 5) (.nil))))).G) (ft := (ev (runF P n) .yes).T) (fe := (ev (runF P n) (.varV 4)).E) (env := [.v (.py (cT cs)), .v (.py (.list ((pairsF cs.sum cs).map pP))), s2, s3, .u, .u, s6, s7]) (h := h') (D.py ∘ pP) (fun _ => true) (fun y => cT y.1) (xs := pairsF cs.sum cs) (fun y hy => by
    refine ⟨[.v (.py (cT cs)), .v (.py (.list ((pairsF cs.sum cs).map pP))), s2, s3, .v (.py (cT y.1)), .v (.py (cT y.2)), s6, s7], by simp [callD, startE, look, lookV, Sl.get, Sl.getV, frzE, stoE, binF, addO, catL, iop, gAdd, gSub, gMul, gDiv, gMod, gPow, KF.listOf, ixU, dctAt, inUD, ninUD, inK, putU, ixO, ixD, L2.atI, L2.ixN, negD, truD, cmpF, icmp, isND, notND, isN, biF, fLen, lenD, fInt, fMax2, fMin2, fAbs, fTup, fLst, allPy, mkTup, mkLst, asI, revT, isiD, tyD, isTy, putO, putL, augF, promO, wipeE, itU, pP], rfl, fun _ => by simp [callD, startE, look, lookV, Sl.get, Sl.getV, frzE, stoE, binF, addO, catL, iop, gAdd, gSub, gMul, gDiv, gMod, gPow, KF.listOf, ixU, dctAt, inUD, ninUD, inK, putU, ixO, ixD, L2.atI, L2.ixN, negD, truD, cmpF, icmp, isND, notND, isN, biF, fLen, lenD, fInt, fMax2, fMin2, fAbs, fTup, fLst, allPy, mkTup, mkLst, asI, revT, isiD, tyD, isTy, putO, putL, augF, promO, wipeE, itU]⟩)
  rw [filter_true] at L
  have er : (pairsF cs.sum cs).map (fun y => cT y.1) = (rowsF cs.sum cs).map cT := by rw [← pr, List.map_map]; rfl
  have fr : fits (rowsF cs.sum cs).length = true := by rw [← pr, List.length_map]; exact f3
  rw [er] at L
  clear er pr
  generalize rowsF cs.sum cs = R at *
  generalize pairsF cs.sum cs = G at *
  cases s4 with
  | o xs => exact absurd rfl (no4 xs)
  | u =>
    cases s5 with
    | o xs => exact absurd rfl (no5 xs)
    | u => rcases e2 with e2 | e2 <;> subst e2 <;> simp [callD, startE, look, lookV, Sl.get, Sl.getV, frzE, stoE, binF, addO, catL, iop, gAdd, gSub, gMul, gDiv, gMod, gPow, KF.listOf, ixU, dctAt, inUD, ninUD, inK, putU, ixO, ixD, L2.atI, L2.ixN, negD, truD, cmpF, icmp, isND, notND, isN, biF, fLen, lenD, fInt, fMax2, fMin2, fAbs, fTup, fLst, allPy, mkTup, mkLst, asI, revT, isiD, tyD, isTy, putO, putL, augF, promO, wipeE, itU, p_all_rows, k_all_rows, es, z, e, L, mkL, fr]
    | v d => rcases e2 with e2 | e2 <;> subst e2 <;> simp [callD, startE, look, lookV, Sl.get, Sl.getV, frzE, stoE, binF, addO, catL, iop, gAdd, gSub, gMul, gDiv, gMod, gPow, KF.listOf, ixU, dctAt, inUD, ninUD, inK, putU, ixO, ixD, L2.atI, L2.ixN, negD, truD, cmpF, icmp, isND, notND, isN, biF, fLen, lenD, fInt, fMax2, fMin2, fAbs, fTup, fLst, allPy, mkTup, mkLst, asI, revT, isiD, tyD, isTy, putO, putL, augF, promO, wipeE, itU, p_all_rows, k_all_rows, es, z, e, L, mkL, fr]
  | v d =>
    cases s5 with
    | o xs => exact absurd rfl (no5 xs)
    | u => rcases e2 with e2 | e2 <;> subst e2 <;> simp [callD, startE, look, lookV, Sl.get, Sl.getV, frzE, stoE, binF, addO, catL, iop, gAdd, gSub, gMul, gDiv, gMod, gPow, KF.listOf, ixU, dctAt, inUD, ninUD, inK, putU, ixO, ixD, L2.atI, L2.ixN, negD, truD, cmpF, icmp, isND, notND, isN, biF, fLen, lenD, fInt, fMax2, fMin2, fAbs, fTup, fLst, allPy, mkTup, mkLst, asI, revT, isiD, tyD, isTy, putO, putL, augF, promO, wipeE, itU, p_all_rows, k_all_rows, es, z, e, L, mkL, fr]
    | v d => rcases e2 with e2 | e2 <;> subst e2 <;> simp [callD, startE, look, lookV, Sl.get, Sl.getV, frzE, stoE, binF, addO, catL, iop, gAdd, gSub, gMul, gDiv, gMod, gPow, KF.listOf, ixU, dctAt, inUD, ninUD, inK, putU, ixO, ixD, L2.atI, L2.ixN, negD, truD, cmpF, icmp, isND, notND, isN, biF, fLen, lenD, fInt, fMax2, fMin2, fAbs, fTup, fLst, allPy, mkTup, mkLst, asI, revT, isiD, tyD, isTy, putO, putL, augF, promO, wipeE, itU, p_all_rows, k_all_rows, es, z, e, L, mkL, fr]
end LW
set_option Elab.async false
set_option linter.all false
set_option maxRecDepth 100000
set_option maxHeartbeats 4000000
/-! KM, part J: the law's rows; all rings. -/
namespace LW
open PySem KF
variable {P : Prog}
theorem sum_cT (h : MH) (cs : List Nat) : fSum h [.py (cT cs)] = some (.py (.int (cs.sum : Nat))) := by
  show (intsOf (cs.map fun (k : Nat) => PyData.int (k : Nat))).map _ = _
  rw [intsOf_cT]
  show some (D.py (.int (cs.map fun (k : Nat) => (k : Int)).sum)) = _
  congr 3
  induction cs with
  | nil => rfl
  | cons c cs ih => rw [List.map_cons, List.sum_cons, List.sum_cons, ih]; omega
theorem getN (cs : List Nat) {s : Nat} (hs : s < cs.length) : ∀ pf, cs[s]'pf = cs.getD s 0 := fun pf => by
  rw [List.getD_eq_getElem?_getD, List.getElem?_eq_getElem hs]
  rfl
def rowKids (t : Nat) (ks : List (Nat × List Nat)) : List (List Nat) := ks.flatMap fun x => (rowsF t x.2).map (x.1 :: ·)
theorem lawrows_ok (H : findD P 84 = some p__law_rows) : ∀ (t n : Nat) (h : MH) (cs : List Nat), cs.sum = t → cs.length ≤ 9 → (∀ u ≤ t, cs.length ^ u ≤ 90000) → t ≤ 20 → runF P (n + t + 1) 84 [.py (cT cs)] h = .ok (.py (.list ((rowsF t cs).map cT))) h
  | 0, n, h, cs, hs, hc, hp, ht => by
    rw [run_of H]
    have es := sum_cT h cs
    rw [hs] at es
    have es : fSum h [.py (cT cs)] = some (.py (.int 0)) := es
    simp [callD, startE, look, lookV, Sl.get, Sl.getV, frzE, stoE, binF, addO, catL, iop, gAdd, gSub, gMul, gDiv, gMod, gPow, KF.listOf, ixU, dctAt, inUD, ninUD, inK, putU, ixO, ixD, L2.atI, L2.ixN, negD, truD, cmpF, icmp, isND, notND, isN, biF, fLen, lenD, fInt, fMax2, fMin2, fAbs, fTup, fLst, allPy, mkTup, mkLst, asI, revT, isiD, tyD, isTy, putO, putL, augF, promO, wipeE, itU, p__law_rows, k__law_rows, es, eqD, shal_int, eqv_ii, rowsF]
    rfl
  | t + 1, n, h, cs, hs, hc, hp, ht => by
    rw [run_of H]
    have es := sum_cT h cs
    rw [hs] at es
    have e0 : ¬ (t : Int) + 1 = 0 := by omega
    have hb := hp (t + 1) (Nat.le_refl _)
    obtain ⟨env', h', e, s2, s3, e1, no3, e2⟩ := forF_rel (g := (ev (runF P (n + (t + 1))) (.tn 2)).G) (b := (ev (runF P (n + (t + 1))) b__law_rows_1).S) (fun (k : Nat) => D.py (.int (k : Nat))) (fun pre env h' => ∃ s2 s3, env = [.v (.py (cT cs)), .o ((rowKids t (kidsFrom cs pre.length)).map cT), s2, s3, .u] ∧ (∀ xs, s3 ≠ .o xs) ∧ h' = h) (List.range cs.length) (fun pre s suf env h0 ex ⟨s2, s3, e1, no3, e2⟩ => by
      subst e1 e2
      have hs' : s = pre.length ∧ s < cs.length := by
        have hl2 : pre.length < cs.length := by have := congrArg List.length ex; simp at this; omega
        have q := congrArg (fun l => l[pre.length]?) ex
        simp [hl2] at q
        omega
      obtain ⟨hs1, hs2⟩ := hs'
      rw [List.length_append, List.length_singleton, ← hs1]
      have gi := getN cs hs2
      have hl : s < cs.length := hs2
      by_cases c : 0 < cs.getD s 0
      · have ek : kidsFrom cs (s + 1) = kidsFrom cs s ++ [(s, cs.set s (cs.getD s 0 - 1))] := by
          unfold kidsFrom
          rw [List.range_succ, List.filter_append, List.map_append]
          simp only [List.filter_cons, List.filter_nil, decide_eq_true c, if_true, List.map_cons, List.map_nil]
        have hkid : (s, cs.set s (cs.getD s 0 - 1)) ∈ kidsC cs := by
          unfold kidsC
          exact List.mem_map.mpr ⟨s, List.mem_filter.mpr ⟨List.mem_range.mpr hs2, decide_eq_true c⟩, rfl⟩
        have ks := kid_sum hkid
        have kl := kid_len hkid
        have ih := lawrows_ok H t n h0 (cs.set s (cs.getD s 0 - 1)) (by simp only at ks; omega) (by simp only at kl; omega) (fun u hu => by simp only at kl; rw [kl]; exact hp u (by omega)) (by omega)
        have er : rowKids t (kidsFrom cs (s + 1)) = rowKids t (kidsFrom cs s) ++ (rowsF t (cs.set s (cs.getD s 0 - 1))).map (s :: ·) := by
          rw [ek]; unfold rowKids; rw [List.flatMap_append]; simp
        have lim : (rowKids t (kidsFrom cs (s + 1))).length ≤ 900000 := by
          have h1 := flat_le (fun x : Nat × List Nat => (rowsF t x.2).map (x.1 :: ·)) 90000 (kidsFrom cs (s + 1)) (fun x hx => by
            rw [List.length_map]
            have hx' : x.2.length = cs.length := by
              obtain ⟨q, _, e⟩ := List.mem_map.mp hx
              rw [← e]; simp
            have := rowsF_len t x.2
            rw [hx'] at this
            exact Nat.le_trans this (hp t (by omega)))
          have h2 : (kidsFrom cs (s + 1)).length ≤ 9 := by
            unfold kidsFrom
            rw [List.length_map]
            refine Nat.le_trans (List.length_filter_le _ _) ?_
            simp; omega
          have h3 := Nat.mul_le_mul h2 (Nat.le_refl 90000)
          unfold rowKids
          omega
        have sc := set_cut (cs.getD s 0 - 1) hs2
        have c1 := cut_from (cs.map fun (k : Nat) => PyData.int (k : Nat)) (((s : Nat) : Int) + 1) (by omega)
        have c2 := cut_to (cs.map fun (k : Nat) => PyData.int (k : Nat)) ((s : Nat) : Int) (by omega)
        have t1 : ((s : Int) + 1).toNat = s + 1 := by omega
        rw [er] at lim ⊢
        rw [List.length_append, List.length_map] at lim
        have rl : ∀ row ∈ rowsF t (cs.set s (cs.getD s 0 - 1)), row.length ≤ 20 := fun row hr => by rw [(rowsF_mem hr).1]; omega
        generalize rowsF t (cs.set s (cs.getD s 0 - 1)) = RR at *
        generalize rowKids t (kidsFrom cs s) = AA at *
        have e7 : (cs.take s).map (fun (k : Nat) => PyData.int (k : Nat)) ++ PyData.int ((cs.getD s 0 - 1 : Nat) : Int) :: (cs.drop (s + 1)).map (fun (k : Nat) => PyData.int (k : Nat)) = (cs.set s (cs.getD s 0 - 1)).map fun (k : Nat) => PyData.int (k : Nat) := by
          rw [← sc]; simp
        have L := lcF_pureA (g := (ev (runF P (n + (t + 1))) (.tn 4)).G) (ft := (ev (runF P (n + (t + 1))) .yes).T) (fe := (ev (runF P (n + (t + 1))) e__law_rows_1).E) (env := [.v (.py (cT cs)), .o (AA.map cT), .v (.py (.int (s : Nat))), .v (.py (cT (cs.set s (cs.getD s 0 - 1)))), .u]) (h := h0) (D.py ∘ cT) (fun _ => true) (fun row => cT (s :: row)) (xs := RR) (fun row hr => by
          refine ⟨[.v (.py (cT cs)), .o (AA.map cT), .v (.py (.int (s : Nat))), .v (.py (cT (cs.set s (cs.getD s 0 - 1)))), .v (.py (cT row))], rfl, rfl, fun _ => ?_⟩
          have f1 : fits (1 + row.length) = true := fits_small (by have := rl row hr; omega)
          have f2 : fits (row.length + 1) = true := fits_small (by have := rl row hr; omega)
          simp [callD, startE, look, lookV, Sl.get, Sl.getV, frzE, stoE, binF, addO, catL, iop, gAdd, gSub, gMul, gDiv, gMod, gPow, KF.listOf, ixU, dctAt, inUD, ninUD, inK, putU, ixO, ixD, L2.atI, L2.ixN, negD, truD, cmpF, icmp, isND, notND, isN, biF, fLen, lenD, fInt, fMax2, fMin2, fAbs, fTup, fLst, allPy, mkTup, mkLst, asI, revT, isiD, tyD, isTy, putO, putL, augF, promO, wipeE, itU, e__law_rows_1, cT, f1, f2])
        rw [filter_true] at L
        have f1 : fits RR.length = true := fits_small (by omega)
        have f2 : fits (AA.length + RR.length) = true := fits_small (by omega)
        have f3 : fits (min s cs.length + 1 + (cs.length - (s + 1))) = true := fits_small (by omega)
        have f4 : fits (min s cs.length + 1) = true := fits_small (by omega)
        have f5 : fits (min s cs.length + (cs.length - (s + 1) + 1)) = true := fits_small (by omega)
        refine ⟨[.v (.py (cT cs)), .o (AA.map cT), .v (.py (.int (s : Nat))), s3, .u], [.v (.py (cT cs)), .o ((AA ++ RR.map (s :: ·)).map cT), .v (.py (.int (s : Nat))), .v (.py (cT (cs.set s (cs.getD s 0 - 1)))), .u], h0, rfl, ?_, _, _, rfl, (fun xs z => by cases z), rfl⟩
        generalize hg : cs.getD s 0 = g at *
        have ei : ((g : Nat) : Int) - 1 = ((g - 1 : Nat) : Int) := by omega
        have em : RR.map (fun row => cT (s :: row)) = (RR.map (s :: ·)).map cT := by rw [List.map_map]; rfl
        rw [em] at L
        have ih' : runF P (n + (t + 1)) 84 [.py (cT (cs.set s (g - 1)))] h0 = .ok (.py (.list (RR.map cT))) h0 := ih
        have rsl : (RR.map (s :: ·)).length = RR.length := by simp
        generalize RR.map (s :: ·) = RS at *
        have e8 : (cs.map fun (k : Nat) => PyData.int (k : Nat)).take s ++ PyData.int ((g - 1 : Nat) : Int) :: (cs.map fun (k : Nat) => PyData.int (k : Nat)).drop (s + 1) = (cs.set s (g - 1)).map fun (k : Nat) => PyData.int (k : Nat) := by
          rw [← List.map_take, ← List.map_drop]; exact e7
        unfold cT at L ih' ⊢
        generalize cs.set s (g - 1) = C2 at *
        simp [callD, startE, look, lookV, Sl.get, Sl.getV, frzE, stoE, binF, addO, catL, iop, gAdd, gSub, gMul, gDiv, gMod, gPow, KF.listOf, ixU, dctAt, inUD, ninUD, inK, putU, ixO, ixD, L2.atI, L2.ixN, negD, truD, cmpF, icmp, isND, notND, isN, biF, fLen, lenD, fInt, fMax2, fMin2, fAbs, fTup, fLst, allPy, mkTup, mkLst, asI, revT, isiD, tyD, isTy, putO, putL, augF, promO, wipeE, itU, b__law_rows_1, hl, gi, hg, c, ei, cutU, c1, c2, t1, f3, f4, f5, e8, ih', L, mkL, rsl, f1, f2]
      · have c0 : cs.getD s 0 = 0 := by omega
        have ek : kidsFrom cs (s + 1) = kidsFrom cs s := by
          unfold kidsFrom
          rw [List.range_succ, List.filter_append, List.map_append]
          simp only [List.filter_cons, List.filter_nil, decide_eq_false c, List.map_nil, List.append_nil]
          simp
        rw [ek]
        refine ⟨[.v (.py (cT cs)), .o ((rowKids t (kidsFrom cs s)).map cT), .v (.py (.int (s : Nat))), s3, .u], [.v (.py (cT cs)), .o ((rowKids t (kidsFrom cs s)).map cT), .v (.py (.int (s : Nat))), s3, .u], h0, rfl, ?_, _, _, rfl, no3, rfl⟩
        rw [c0] at gi
        generalize rowKids t (kidsFrom cs s) = AA
        unfold cT
        simp [callD, startE, look, lookV, Sl.get, Sl.getV, frzE, stoE, binF, addO, catL, iop, gAdd, gSub, gMul, gDiv, gMod, gPow, KF.listOf, ixU, dctAt, inUD, ninUD, inK, putU, ixO, ixD, L2.atI, L2.ixN, negD, truD, cmpF, icmp, isND, notND, isN, biF, fLen, lenD, fInt, fMax2, fMin2, fAbs, fTup, fLst, allPy, mkTup, mkLst, asI, revT, isiD, tyD, isTy, putO, putL, augF, promO, wipeE, itU, b__law_rows_1, hl, gi]) [.v (.py (cT cs)), .o [], .u, .u, .u] h ⟨.u, .u, rfl, (fun xs z => by cases z), rfl⟩
    subst e1 e2
    rw [List.length_range] at e
    rw [← rngL_map] at e
    have z : rng1 [.py (.int (cs.length : Nat))] = some (rngL 0 cs.length) := rng1_nat cs.length (by omega)
    have ef : rowKids t (kidsFrom cs cs.length) = rowsF (t + 1) cs := rfl
    have rl := rowsF_len (t + 1) cs
    have f1 : fits (rowsF (t + 1) cs).length = true := fits_small (by omega)
    rw [ef] at e
    generalize rowsF (t + 1) cs = R at *
    unfold cT at e es ⊢
    simp [callD, startE, look, lookV, Sl.get, Sl.getV, frzE, stoE, binF, addO, catL, iop, gAdd, gSub, gMul, gDiv, gMod, gPow, KF.listOf, ixU, dctAt, inUD, ninUD, inK, putU, ixO, ixD, L2.atI, L2.ixN, negD, truD, cmpF, icmp, isND, notND, isN, biF, fLen, lenD, fInt, fMax2, fMin2, fAbs, fTup, fLst, allPy, mkTup, mkLst, asI, revT, isiD, tyD, isTy, putO, putL, augF, promO, wipeE, itU, p__law_rows, k__law_rows, es, eqD, shal_int, eqv_ii, e0, z, e, f1]
end LW
set_option Elab.async false
set_option linter.all false
set_option maxRecDepth 100000
set_option maxHeartbeats 4000000
/-! KM, part K: all rings with so many keys of each shape. -/
namespace LW
open PySem KF
variable {P : Prog}
def zI (c : List Nat) : List Int := c.map fun (k : Nat) => (k : Int)
theorem cT_tI (c : List Nat) : cT c = tI (zI c) := by simp [cT, tI, zI]
theorem zI_len (c : List Nat) : (zI c).length = c.length := by simp [zI]
theorem tupsOf_tI : ∀ L : List (List Int), tupsOf (L.map tI) = some L
  | [] => rfl
  | x :: r => by
    show (intsOf (iL x)).bind (fun ns => (tupsOf (r.map tI)).bind fun nss => some (ns :: nss)) = _
    rw [intsOf_iL, tupsOf_tI r]
    rfl
theorem ss_tIs (h : MH) (L : List (List Int)) (ne : L ≠ []) (hn : ∀ x ∈ L, x ≠ []) (few : (ssU ltIs L).length < 63) : ssO h (.py (.list (L.map tI))) = some (.py (.list ((ssU ltIs L).map tI))) := by
  show (ssP (L.map tI)).map _ = _
  have e1 : intsOf (L.map tI) = none := by
    cases L with
    | nil => exact absurd rfl ne
    | cons x r => rfl
  unfold ssP
  rw [e1, tupsOf_tI]
  dsimp only
  have e2 : (Nat.blt (ssU ltIs L).length 63 && L.all nonE) = true := by
    refine Bool.and_eq_true_iff.mpr ⟨Nat.ble_eq_true_of_le few, ?_⟩
    rw [List.all_eq_true]
    intro x hx
    cases x with
    | nil => exact absurd rfl (hn [] hx)
    | cons y s => rfl
  rw [if_pos e2]
  rfl
theorem chkcounts_ok (C : Chk P) (H : findD P 74 = some p_check_counts) (n : Nat) (h : MH) (cs : List Nat) (h1 : 1 ≤ cs.length) (h2 : cs.length ≤ 9) (s1 : 1 ≤ cs.sum) (s2 : cs.sum ≤ 40) (hv : ∀ x ∈ cs, x ≤ 40) : runF P (n + 4) 74 [.py (cT cs)] h = .ok (.py .none) h := by
  rw [run_of H]
  have e := shapes_ok C n h (zI cs) 1 9 40 (by rw [zI_len]; omega) (by rw [zI_len]; omega) (fun x hx => by
    obtain ⟨k, hk, rfl⟩ := List.mem_map.mp hx
    have := hv k hk
    omega)
  have e : runF P (n + 3) 2 [.py (tI (zI cs)), .py (.int 1), .py (.int 9), .py (.int 40)] h = .ok (.py (.bool true)) h := e
  rw [← cT_tI] at e
  have es := sum_cT h cs
  have l1 : (1 : Int) ≤ (cs.sum : Nat) := by omega
  have l2 : ((cs.sum : Nat) : Int) ≤ 40 := by omega
  generalize cs.sum = S at *
  simp [callD, startE, look, lookV, Sl.get, Sl.getV, frzE, stoE, binF, addO, catL, iop, gAdd, gSub, gMul, gDiv, gMod, gPow, KF.listOf, ixU, dctAt, inUD, ninUD, inK, putU, ixO, ixD, L2.atI, L2.ixN, negD, truD, cmpF, icmp, isND, notND, isN, biF, fLen, lenD, fInt, fMax2, fMin2, fAbs, fTup, fLst, allPy, mkTup, mkLst, asI, revT, isiD, tyD, isTy, putO, putL, augF, promO, wipeE, itU, p_check_counts, k_check_counts, e, es, l1, l2, s1, s2]
def leastsC (cs : List Nat) : List (List Int) := (rowsF cs.sum cs).map fun row => leastR (zI row)
def ringsC (cs : List Nat) : List (List Int) := ssU ltIs (leastsC cs)
theorem rowsF_ne : ∀ (t : Nat) (cs : List Nat), cs.sum = t → rowsF t cs ≠ []
  | 0, cs, _ => by simp [rowsF]
  | t + 1, cs, h => by
    have : ∃ x, x ∈ kidsC cs := by
      have hne : ∃ s, s < cs.length ∧ 0 < cs.getD s 0 := by
        rcases Classical.em (∃ s, s < cs.length ∧ 0 < cs.getD s 0) with c | c
        · exact c
        · exfalso
          have key : ∀ cs : List Nat, (∀ s, s < cs.length → cs.getD s 0 = 0) → cs.sum = 0 := by
            intro cs
            induction cs with
            | nil => intro _; rfl
            | cons a r ih =>
              intro q
              have := q 0 (by simp)
              have h2 := ih fun s hs => by have := q (s + 1) (by simpa using hs); simpa using this
              simp at this
              simp [this, h2]
          have := key cs fun s hs => by
            have : ¬ 0 < cs.getD s 0 := fun z => c ⟨s, hs, z⟩
            omega
          omega
      obtain ⟨s, h1, h2⟩ := hne
      exact ⟨_, List.mem_map.mpr ⟨s, List.mem_filter.mpr ⟨List.mem_range.mpr h1, decide_eq_true h2⟩, rfl⟩⟩
    obtain ⟨x, hx⟩ := this
    have ks := kid_sum hx
    have ih := rowsF_ne t x.2 (by omega)
    intro z
    cases q : rowsF t x.2 with
    | nil => exact ih q
    | cons y ys =>
      have : (x.1 :: y) ∈ rowsF (t + 1) cs := List.mem_flatMap.mpr ⟨x, hx, List.mem_map.mpr ⟨y, by rw [q]; exact List.mem_cons_self, rfl⟩⟩
      rw [z] at this
      cases this
theorem leastsC_mem {cs : List Nat} (h1 : 1 ≤ cs.sum) {x : List Int} (hx : x ∈ leastsC cs) : x.length = cs.sum := by
  obtain ⟨row, hr, rfl⟩ := List.mem_map.mp hx
  have := (rowsF_mem hr).1
  have hm := least_mem (r := zI row) (by rw [zI_len]; omega)
  rw [orb_len hm, zI_len, this]
theorem ss_leasts (h : MH) {cs : List Nat} (h1 : 1 ≤ cs.sum) (few : (ringsC cs).length < 63) : ssO h (.py (.list ((leastsC cs).map tI))) = some (.py (.list ((ringsC cs).map tI))) := by
  refine ss_tIs h (leastsC cs) (fun z => ?_) (fun x hx z => ?_) few
  · unfold leastsC at z
    exact rowsF_ne cs.sum cs rfl (List.map_eq_nil_iff.mp z)
  · have := leastsC_mem h1 hx
    rw [z] at this
    simp at this
    omega
theorem allrings_ok (C : Chk P) (K : AlkK P) (H74 : findD P 74 = some p_check_counts) (H81 : findD P 81 = some p_all_rows) (H : findD P 82 = some p_all_rings) (n : Nat) (h : MH) (cs : List Nat) (h1 : 1 ≤ cs.length) (h2 : cs.length ≤ 9) (s1 : 1 ≤ cs.sum) (s2 : cs.sum ≤ 8) (hv : ∀ x ∈ cs, x ≤ 40) (hp : ∀ t ≤ cs.sum, cs.length ^ t ≤ 90000) (few : (ringsC cs).length < 63) :
    runF P (n + 5) 82 [.py (cT cs)] h = .ok (.py (.list ((ringsC cs).map tI))) h := by
  rw [run_of H]
  have e1 := chkcounts_ok C H74 n h cs h1 h2 s1 (by omega) hv
  have e2 := allrows_ok H81 (n + 3) h cs h2 hp (by omega) (fun h => sum_cT h cs)
  have es := sum_cT h cs
  have L := lcF_pureA (g := (ev (runF P (n + 4)) (.tn 1)).G) (ft := (ev (runF P (n + 4)) .yes).T) (fe := (ev (runF P (n + 4)) e_all_rings_1).E) (env := [.v (.py (cT cs)), .u]) (h := h) (D.py ∘ cT) (fun _ => true) (fun row => tI (leastR (zI row))) (xs := rowsF cs.sum cs) (fun row hr => by
    refine ⟨[.v (.py (cT cs)), .v (.py (cT row))], rfl, rfl, fun _ => ?_⟩
    have hl := (rowsF_mem hr).1
    have e : runF P (n + 4) 71 [.py (tI (zI row))] h = .ok (.py (tI (leastR (zI row)))) h := leastof_ok K.a6 K.a7 K.a9 K.a71 (n + 1) h (zI row) (by rw [zI_len]; omega) (by rw [zI_len]; omega)
    rw [← cT_tI] at e
    simp [callD, startE, look, lookV, Sl.get, Sl.getV, frzE, stoE, binF, addO, catL, iop, gAdd, gSub, gMul, gDiv, gMod, gPow, KF.listOf, ixU, dctAt, inUD, ninUD, inK, putU, ixO, ixD, L2.atI, L2.ixN, negD, truD, cmpF, icmp, isND, notND, isN, biF, fLen, lenD, fInt, fMax2, fMin2, fAbs, fTup, fLst, allPy, mkTup, mkLst, asI, revT, isiD, tyD, isTy, putO, putL, augF, promO, wipeE, itU, e_all_rings_1, e])
  rw [filter_true] at L
  have em : (rowsF cs.sum cs).map (fun row => tI (leastR (zI row))) = (leastsC cs).map tI := by unfold leastsC; rw [List.map_map]; rfl
  rw [em] at L
  have hb := hp cs.sum (Nat.le_refl _)
  have rl := rowsF_len cs.sum cs
  have f1 : fits (leastsC cs).length = true := fits_small (by unfold leastsC; rw [List.length_map]; omega)
  have ss := ss_leasts h s1 few
  have l1 : ¬ (8 : Int) < (cs.sum : Nat) := by omega
  have l2 : ¬ 8 < cs.sum := by omega
  generalize leastsC cs = LL at *
  generalize ringsC cs = RR at *
  generalize rowsF cs.sum cs = R0 at *
  generalize cs.sum = S at *
  simp [callD, startE, look, lookV, Sl.get, Sl.getV, frzE, stoE, binF, addO, catL, iop, gAdd, gSub, gMul, gDiv, gMod, gPow, KF.listOf, ixU, dctAt, inUD, ninUD, inK, putU, ixO, ixD, L2.atI, L2.ixN, negD, truD, cmpF, icmp, isND, notND, isN, biF, fLen, lenD, fInt, fMax2, fMin2, fAbs, fTup, fLst, allPy, mkTup, mkLst, asI, revT, isiD, tyD, isTy, putO, putL, augF, promO, wipeE, itU, p_all_rings, k_all_rings, e1, e2, es, l1, l2, L, mkL, f1, ss]
end LW
set_option Elab.async false
set_option linter.all false
set_option maxRecDepth 100000
set_option maxHeartbeats 4000000
/-! KM, part M: rings told soonest. -/
namespace LW
open PySem KF
open PySem.W (dataLt minD)
variable {P : Prog}
/-- a comprehension whose items make the heap longer -/
theorem lcF_grow {α : Type} {g : TgF} {ft : EvF Bool} {fe : EvF D} {env : KF.Env} (c : α → D) (t : α → Bool) (f : α → PyData) : ∀ {xs : List α}, (∀ x ∈ xs, ∃ env1, g (c x) env = some env1 ∧ ∀ h, ft env1 h = .ok (t x) h ∧ (t x = true → ∃ j, fe env1 h = .ok (.py (f x)) (h ++ j))) → ∀ h, ∃ j, lcF g ft fe env (xs.map c) h = .ok ((xs.filter t).map f) (h ++ j)
  | [], _, h => ⟨[], by simp [lcF]⟩
  | x :: r, H, h => by
    obtain ⟨env1, e1, e2⟩ := H x List.mem_cons_self
    obtain ⟨e3, e4⟩ := e2 h
    rw [List.map_cons]
    cases ht : t x with
    | false =>
      obtain ⟨j, ih⟩ := lcF_grow c t f (xs := r) (fun y hy => H y (List.mem_cons_of_mem _ hy)) h
      refine ⟨j, ?_⟩
      rw [ht] at e3
      simp [lcF, e1, e3, ih, ht]
    | true =>
      obtain ⟨j1, e5⟩ := e4 ht
      obtain ⟨j, ih⟩ := lcF_grow c t f (xs := r) (fun y hy => H y (List.mem_cons_of_mem _ hy)) (h ++ j1)
      refine ⟨j1 ++ j, ?_⟩
      rw [ht] at e3
      simp [lcF, e1, e3, e5, ih, ht]
def mP (x : Nat × List Int) : PyData := .tuple [.int (x.1 : Nat), tI x.2]
def oP (a : Bool) (r : List Int) : PyData := .tuple [optI (leastM r a), tI r]
def minT (x : Nat × List Int) (xs : List (Nat × List Int)) : Nat × List Int := xs.foldl (fun m y => if dataLt (mP y) (mP m) = true then y else m) x
theorem minD_mP (x : Nat × List Int) (xs : List (Nat × List Int)) : minD (mP x) (xs.map mP) = mP (minT x xs) := by
  induction xs generalizing x with
  | nil => rfl
  | cons y r ih =>
    show (r.map mP).foldl _ (if dataLt (mP y) (mP x) = true then mP y else mP x) = mP (minT (if dataLt (mP y) (mP x) = true then y else x) r)
    by_cases c : dataLt (mP y) (mP x) = true
    · rw [if_pos c, if_pos c]; exact ih y
    · rw [if_neg c, if_neg c]; exact ih x
theorem al2_mP (x y : Nat × List Int) : al2 (mP x) (mP y) = true := by
  have h := al2_tI x.2 y.2
  unfold mP
  rw [al2]
  have i1 : ([PyData.int (x.1 : Nat), tI x.2].all isI) = false := by simp [isI, tI]
  have i2 : ([PyData.int (y.1 : Nat), tI y.2].all isI) = false := by simp [isI, tI]
  rw [i1, i2]
  simp [al2s, h, al2]
theorem shal_mP (x : Nat × List Int) (n : Nat) : shal (n + 2) (mP x) = true := by
  show ([PyData.int (x.1 : Nat), tI x.2].all (shal (n + 1))) = true
  simp [shal_int, shal_tI]
theorem min_mP (x : Nat × List Int) (xs : List (Nat × List Int)) (h : MH) : fMm minD h [.py (.list ((x :: xs).map mP))] = some (.py (mP (minT x xs))) := by
  have e1 : oneForm (mP x) (xs.map mP) = true := by
    unfold oneForm
    rw [al2_mP, Bool.true_and, List.all_eq_true]
    intro d hd
    obtain ⟨y, _, e⟩ := List.mem_map.mp hd
    rw [← e]; exact al2_mP x y
  have e2 : ((x :: xs).map mP).all (shal 60) = true := by
    rw [List.all_eq_true]
    intro d hd
    obtain ⟨y, _, e⟩ := List.mem_map.mp hd
    rw [← e]; exact shal_mP y 58
  show (match (x :: xs).map mP with
    | x :: r => if (oneForm x r && (x :: r).all (shal 60)) = true then some (D.py (minD x r)) else none
    | [] => none) = _
  rw [List.map_cons] at e2 ⊢
  dsimp only
  rw [e1, e2, Bool.and_self, if_pos rfl, minD_mP]
def toldL (a : Bool) (rs : List (List Int)) : List (Nat × List Int) := rs.filterMap fun r => (leastM r a).map fun m => (m, r)
def bestR (T : List (Nat × List Int)) : PyData := match T with
  | [] => .none
  | x :: xs => .tuple [.int ((minT x xs).1 : Nat), .list ((T.filter fun y => decide (y.1 = (minT x xs).1)).map fun y => tI y.2)]
theorem told_filter (a : Bool) (rs : List (List Int)) : ((rs.filter fun r => (leastM r a).isSome).map (oP a)) = (toldL a rs).map mP := by
  unfold toldL
  induction rs with
  | nil => rfl
  | cons r rs ih =>
    cases q : leastM r a with
    | none => simp [q, ih]
    | some m => simp [q, ih, oP, mP, optI]
theorem toldL_len (a : Bool) (rs : List (List Int)) : (toldL a rs).length ≤ rs.length := List.length_filterMap_le _ _
structure BestK (P : Prog) : Prop where
  a19 : findD P 19 = some p_check_aim
  a20 : findD P 20 = some p_is_known
  a21 : findD P 21 = some p_least_by
theorem bestrings_ok (C : Chk P) (K : AlkK P) (B : BestK P) (H74 : findD P 74 = some p_check_counts) (H81 : findD P 81 = some p_all_rows) (H82 : findD P 82 = some p_all_rings) (H : findD P 191 = some p_best_rings) (n : Nat) (h : MH) (cs : List Nat) (a : Bool) (h1 : 1 ≤ cs.length) (h2 : cs.length ≤ 9) (s1 : 1 ≤ cs.sum) (s2 : cs.sum ≤ 8) (hv : ∀ x ∈ cs, x ≤ 40) (hp : ∀ t ≤ cs.sum, cs.length ^ t ≤ 90000) (few : (ringsC cs).length < 63) :
    ∃ j, runF P (n + 6) 191 [.py (cT cs), AimD a] h = .ok (.py (bestR (toldL a (ringsC cs)))) (h ++ j) := by
  rw [run_of H]
  have e1 := allrings_ok C K H74 H81 H82 n h cs h1 h2 s1 s2 hv hp few
  have e2 := aim_ok B.a19 (n + 4) h a
  have rlen : ∀ r ∈ ringsC cs, r.length = cs.sum := fun r hr => leastsC_mem s1 ((ssU_mem lin_Is).mp hr)
  obtain ⟨j, L⟩ := lcF_grow (g := (ev (runF P (n + 5)) (.tn 4)).G) (ft := (ev (runF P (n + 5)) .yes).T) (fe := (ev (runF P (n + 5)) e_best_rings_1).E) (env := [.v (.py (cT cs)), .v (AimD a), .v (.py (.list ((ringsC cs).map tI))), .u, .u, .u, .u]) (D.py ∘ tI) (fun _ => true) (oP a) (xs := ringsC cs) (fun r hr => by
    refine ⟨[.v (.py (cT cs)), .v (AimD a), .v (.py (.list ((ringsC cs).map tI))), .u, .v (.py (tI r)), .u, .u], rfl, fun h' => ⟨rfl, fun _ => ?_⟩⟩
    have rl := rlen r hr
    obtain ⟨j, e⟩ := leastby_ok K.a6 K.a7 K.a9 B.a20 B.a21 (n + 2) h' r (by omega) (by omega) a
    have e : runF P (n + 5) 21 [.py (tI r), AimD a] h' = .ok (.py (optI (leastM r a))) (h' ++ j) := e
    exact ⟨j, by simp [callD, startE, look, lookV, Sl.get, Sl.getV, frzE, stoE, binF, addO, catL, iop, gAdd, gSub, gMul, gDiv, gMod, gPow, KF.listOf, ixU, dctAt, inUD, ninUD, inK, putU, ixO, ixD, L2.atI, L2.ixN, negD, truD, cmpF, icmp, isND, notND, isN, biF, fLen, lenD, fInt, fMax2, fMin2, fAbs, fTup, fLst, allPy, mkTup, mkLst, asI, revT, isiD, tyD, isTy, putO, putL, augF, promO, wipeE, itU, e_best_rings_1, e, oP]⟩) h
  rw [filter_true] at L
  have Lc := lcF_pureA (g := (ev (runF P (n + 5)) (.tt 2 (.cons (.tn 5) (.cons (.tn 4) (.nil))))).G) (ft := (ev (runF P (n + 5)) t_best_rings_1).T) (fe := (ev (runF P (n + 5)) e_best_rings_2).E) (env := [.v (.py (cT cs)), .v (AimD a), .v (.py (.list ((ringsC cs).map tI))), .v (.py (.list ((ringsC cs).map (oP a)))), .u, .u, .u]) (h := h ++ j) (D.py ∘ oP a) (fun r => (leastM r a).isSome) (oP a) (xs := ringsC cs) (fun r hr => by
    refine ⟨[.v (.py (cT cs)), .v (AimD a), .v (.py (.list ((ringsC cs).map tI))), .v (.py (.list ((ringsC cs).map (oP a)))), .v (.py (tI r)), .v (.py (optI (leastM r a))), .u], by simp [callD, startE, look, lookV, Sl.get, Sl.getV, frzE, stoE, binF, addO, catL, iop, gAdd, gSub, gMul, gDiv, gMod, gPow, KF.listOf, ixU, dctAt, inUD, ninUD, inK, putU, ixO, ixD, L2.atI, L2.ixN, negD, truD, cmpF, icmp, isND, notND, isN, biF, fLen, lenD, fInt, fMax2, fMin2, fAbs, fTup, fLst, allPy, mkTup, mkLst, asI, revT, isiD, tyD, isTy, putO, putL, augF, promO, wipeE, itU, oP], ?_, fun _ => by simp [callD, startE, look, lookV, Sl.get, Sl.getV, frzE, stoE, binF, addO, catL, iop, gAdd, gSub, gMul, gDiv, gMod, gPow, KF.listOf, ixU, dctAt, inUD, ninUD, inK, putU, ixO, ixD, L2.atI, L2.ixN, negD, truD, cmpF, icmp, isND, notND, isN, biF, fLen, lenD, fInt, fMax2, fMin2, fAbs, fTup, fLst, allPy, mkTup, mkLst, asI, revT, isiD, tyD, isTy, putO, putL, augF, promO, wipeE, itU, e_best_rings_2, oP]⟩
    cases q : leastM r a with
    | none => simp [callD, startE, look, lookV, Sl.get, Sl.getV, frzE, stoE, binF, addO, catL, iop, gAdd, gSub, gMul, gDiv, gMod, gPow, KF.listOf, ixU, dctAt, inUD, ninUD, inK, putU, ixO, ixD, L2.atI, L2.ixN, negD, truD, cmpF, icmp, isND, notND, isN, biF, fLen, lenD, fInt, fMax2, fMin2, fAbs, fTup, fLst, allPy, mkTup, mkLst, asI, revT, isiD, tyD, isTy, putO, putL, augF, promO, wipeE, itU, t_best_rings_1, optI]
    | some m => simp [callD, startE, look, lookV, Sl.get, Sl.getV, frzE, stoE, binF, addO, catL, iop, gAdd, gSub, gMul, gDiv, gMod, gPow, KF.listOf, ixU, dctAt, inUD, ninUD, inK, putU, ixO, ixD, L2.atI, L2.ixN, negD, truD, cmpF, icmp, isND, notND, isN, biF, fLen, lenD, fInt, fMax2, fMin2, fAbs, fTup, fLst, allPy, mkTup, mkLst, asI, revT, isiD, tyD, isTy, putO, putL, augF, promO, wipeE, itU, t_best_rings_1, optI])
  rw [told_filter] at Lc
  have tl := toldL_len a (ringsC cs)
  have f1 : fits (ringsC cs).length = true := fits_small (by omega)
  have f2 : fits (toldL a (ringsC cs)).length = true := fits_small (by omega)
  generalize hT : toldL a (ringsC cs) = T at *
  generalize ringsC cs = R at *
  refine ⟨j, ?_⟩
  cases T with
  | nil =>
    have f0 : fits 0 = true := fits_small (by omega)
    simp [callD, startE, look, lookV, Sl.get, Sl.getV, frzE, stoE, binF, addO, catL, iop, gAdd, gSub, gMul, gDiv, gMod, gPow, KF.listOf, ixU, dctAt, inUD, ninUD, inK, putU, ixO, ixD, L2.atI, L2.ixN, negD, truD, cmpF, icmp, isND, notND, isN, biF, fLen, lenD, fInt, fMax2, fMin2, fAbs, fTup, fLst, allPy, mkTup, mkLst, asI, revT, isiD, tyD, isTy, putO, putL, augF, promO, wipeE, itU, p_best_rings, k_best_rings, e1, e2, L, Lc, mkL, f1, f0, bestR]
  | cons x xs =>
    have em := min_mP x xs (h ++ j)
    rw [List.map_cons] at em
    have Lb := lcF_pureA (g := (ev (runF P (n + 5)) (.tt 2 (.cons (.tn 5) (.cons (.tn 4) (.nil))))).G) (ft := (ev (runF P (n + 5)) t_best_rings_2).T) (fe := (ev (runF P (n + 5)) (.varV 4)).E) (env := [.v (.py (cT cs)), .v (AimD a), .v (.py (.list (R.map tI))), .v (.py (.list ((x :: xs).map mP))), .u, .u, .v (.py (.int ((minT x xs).1 : Nat)))]) (h := h ++ j) (D.py ∘ mP) (fun y => decide (y.1 = (minT x xs).1)) (fun y => tI y.2) (xs := x :: xs) (fun y hy => by
      refine ⟨[.v (.py (cT cs)), .v (AimD a), .v (.py (.list (R.map tI))), .v (.py (.list ((x :: xs).map mP))), .v (.py (tI y.2)), .v (.py (.int (y.1 : Nat))), .v (.py (.int ((minT x xs).1 : Nat)))], by simp [callD, startE, look, lookV, Sl.get, Sl.getV, frzE, stoE, binF, addO, catL, iop, gAdd, gSub, gMul, gDiv, gMod, gPow, KF.listOf, ixU, dctAt, inUD, ninUD, inK, putU, ixO, ixD, L2.atI, L2.ixN, negD, truD, cmpF, icmp, isND, notND, isN, biF, fLen, lenD, fInt, fMax2, fMin2, fAbs, fTup, fLst, allPy, mkTup, mkLst, asI, revT, isiD, tyD, isTy, putO, putL, augF, promO, wipeE, itU, mP], ?_, fun _ => by simp [callD, startE, look, lookV, Sl.get, Sl.getV, frzE, stoE, binF, addO, catL, iop, gAdd, gSub, gMul, gDiv, gMod, gPow, KF.listOf, ixU, dctAt, inUD, ninUD, inK, putU, ixO, ixD, L2.atI, L2.ixN, negD, truD, cmpF, icmp, isND, notND, isN, biF, fLen, lenD, fInt, fMax2, fMin2, fAbs, fTup, fLst, allPy, mkTup, mkLst, asI, revT, isiD, tyD, isTy, putO, putL, augF, promO, wipeE, itU]⟩
      simp [callD, startE, look, lookV, Sl.get, Sl.getV, frzE, stoE, binF, addO, catL, iop, gAdd, gSub, gMul, gDiv, gMod, gPow, KF.listOf, ixU, dctAt, inUD, ninUD, inK, putU, ixO, ixD, L2.atI, L2.ixN, negD, truD, cmpF, icmp, isND, notND, isN, biF, fLen, lenD, fInt, fMax2, fMin2, fAbs, fTup, fLst, allPy, mkTup, mkLst, asI, revT, isiD, tyD, isTy, putO, putL, augF, promO, wipeE, itU, t_best_rings_2, eqD, shal_int, eqv_ii]
      omega)
    have f3 : fits ((x :: xs).filter fun y => decide (y.1 = (minT x xs).1)).length = true := fits_small (by
      have := List.length_filter_le (fun y => decide (y.1 = (minT x xs).1)) (x :: xs)
      omega)
    have eb : bestR (x :: xs) = .tuple [.int ((minT x xs).1 : Nat), .list (((x :: xs).filter fun y => decide (y.1 = (minT x xs).1)).map fun y => tI y.2)] := rfl
    rw [eb]
    generalize (x :: xs).filter (fun y => decide (y.1 = (minT x xs).1)) = Z at *
    rw [List.map_cons] at Lb Lc
    have f2 : fits (xs.length + 1) = true := f2
    generalize minT x xs = mm at *
    have mm0 : mP mm = .tuple [.int (mm.1 : Nat), tI mm.2] := rfl
    rw [mm0] at em
    rw [List.map_cons] at Lb
    simp only [Function.comp_apply] at Lb
    have f9 : fits 2 = true := rfl
    simp [callD, startE, look, lookV, Sl.get, Sl.getV, frzE, stoE, binF, addO, catL, iop, gAdd, gSub, gMul, gDiv, gMod, gPow, KF.listOf, ixU, dctAt, inUD, ninUD, inK, putU, ixO, ixD, L2.atI, L2.ixN, negD, truD, cmpF, icmp, isND, notND, isN, biF, fLen, lenD, fInt, fMax2, fMin2, fAbs, fTup, fLst, allPy, mkTup, mkLst, asI, revT, isiD, tyD, isTy, putO, putL, augF, promO, wipeE, itU, p_best_rings, k_best_rings, e1, e2, L, Lc, mkL, f1, f2, em, Lb, f3]
def tm (a : Bool) (many : Int) (r : List Int) : Bool := match leastM r a with
  | some m => decide ((m : Int) ≤ many)
  | none => false
theorem toldrings_loop {F : FnS} {a : Bool} {many : Int} {d0 d1 : Sl} : ∀ (rs acc : List (List Int)) (s5 s6 : Sl) (h : MH), acc.length + rs.length ≤ 1000 → (∀ r ∈ rs, ∀ h, ∃ j, F 21 [TI r, AimD a] h = .ok (.py (optI (leastM r a))) (h ++ j)) →
    ∃ s5' s6' j, forF (ev F (.tn 5)).G (ev F b_told_rings_1).S (rs.map (D.py ∘ tI)) [d0, d1, .v (.py (.int many)), .v (AimD a), .o (acc.map tI), s5, s6] h = .nx [d0, d1, .v (.py (.int many)), .v (AimD a), .o ((acc ++ rs.filter (tm a many)).map tI), s5', s6'] (h ++ j)
  | [], acc, s5, s6, h, _, _ => ⟨s5, s6, [], by simp [forF]⟩
  | r :: rs, acc, s5, s6, h, hn, hf => by
    obtain ⟨j1, e1⟩ := hf r List.mem_cons_self h
    have e1 : F 21 [.py (tI r), AimD a] h = .ok (.py (optI (leastM r a))) (h ++ j1) := e1
    simp only [List.length_cons] at hn
    have f1 : fits (acc.length + 1) = true := fits_small (by omega)
    have step : ∃ s6', (ev F b_told_rings_1).S [d0, d1, .v (.py (.int many)), .v (AimD a), .o (acc.map tI), .v (.py (tI r)), s6] h = .nx [d0, d1, .v (.py (.int many)), .v (AimD a), .o ((acc ++ [r].filter (tm a many)).map tI), .v (.py (tI r)), s6'] (h ++ j1) := by
      cases q : leastM r a with
      | none =>
        rw [q] at e1
        have : tm a many r = false := by simp [tm, q]
        exact ⟨.v (.py .none), by simp [callD, startE, look, lookV, Sl.get, Sl.getV, frzE, stoE, binF, addO, catL, iop, gAdd, gSub, gMul, gDiv, gMod, gPow, KF.listOf, ixU, dctAt, inUD, ninUD, inK, putU, ixO, ixD, L2.atI, L2.ixN, negD, truD, cmpF, icmp, isND, notND, isN, biF, fLen, lenD, fInt, fMax2, fMin2, fAbs, fTup, fLst, allPy, mkTup, mkLst, asI, revT, isiD, tyD, isTy, putO, putL, augF, promO, wipeE, itU, b_told_rings_1, e1, optI, this]⟩
      | some m =>
        rw [q] at e1
        by_cases c : (m : Int) ≤ many
        · have : tm a many r = true := by simp [tm, q, c]
          exact ⟨.v (.py (.int (m : Nat))), by simp [callD, startE, look, lookV, Sl.get, Sl.getV, frzE, stoE, binF, addO, catL, iop, gAdd, gSub, gMul, gDiv, gMod, gPow, KF.listOf, ixU, dctAt, inUD, ninUD, inK, putU, ixO, ixD, L2.atI, L2.ixN, negD, truD, cmpF, icmp, isND, notND, isN, biF, fLen, lenD, fInt, fMax2, fMin2, fAbs, fTup, fLst, allPy, mkTup, mkLst, asI, revT, isiD, tyD, isTy, putO, putL, augF, promO, wipeE, itU, b_told_rings_1, e1, optI, this, c, f1]⟩
        · have : tm a many r = false := by simp [tm, q]; omega
          exact ⟨.v (.py (.int (m : Nat))), by simp [callD, startE, look, lookV, Sl.get, Sl.getV, frzE, stoE, binF, addO, catL, iop, gAdd, gSub, gMul, gDiv, gMod, gPow, KF.listOf, ixU, dctAt, inUD, ninUD, inK, putU, ixO, ixD, L2.atI, L2.ixN, negD, truD, cmpF, icmp, isND, notND, isN, biF, fLen, lenD, fInt, fMax2, fMin2, fAbs, fTup, fLst, allPy, mkTup, mkLst, asI, revT, isiD, tyD, isTy, putO, putL, augF, promO, wipeE, itU, b_told_rings_1, e1, optI, this, c]⟩
    obtain ⟨s6', step⟩ := step
    obtain ⟨t5, t6, j2, ih⟩ := toldrings_loop (F := F) (d0 := d0) (d1 := d1) (many := many) rs (acc ++ [r].filter (tm a many)) (.v (.py (tI r))) s6' (h ++ j1) (by
      have := List.length_filter_le (tm a many) [r]
      rw [List.length_append]
      simp only [List.length_singleton] at this
      omega) fun q hq => hf q (List.mem_cons_of_mem _ hq)
    refine ⟨t5, t6, j1 ++ j2, ?_⟩
    rw [List.map_cons, forF_cons]
    show ((ev F b_told_rings_1).S [d0, d1, .v (.py (.int many)), .v (AimD a), .o (acc.map tI), .v (.py (tI r)), s6] h).thn _ = _
    rw [step]
    show forF _ _ _ _ (h ++ j1) = _
    rw [ih, List.append_assoc, ← List.filter_append, List.append_assoc]
    rfl
theorem toldrings_ok (C : Chk P) (K : AlkK P) (B : BestK P) (a5 : findD P 5 = some p_check_number) (H93 : findD P 93 = some p_check_pieces) (H94 : findD P 94 = some p_has_piece) (H95 : findD P 95 = some p_rings_with) (H : findD P 192 = some p_told_rings) (n : Nat) (h : MH) (k s : Nat) (many : Int) (a : Bool) (k1 : 1 ≤ k) (k2 : k ≤ 6) (s1 : 1 ≤ s) (s2 : s ≤ 3) (m0 : 0 ≤ many) (m1 : many ≤ 20) :
    ∃ j, runF P (n + 6) 192 [.py (.int (k : Nat)), .py (.int (s : Nat)), .py (.int many), AimD a] h = .ok (.py (.list (((ringsW k s []).filter (tm a many)).map tI))) (h ++ j) := by
  rw [run_of H]
  have h1 := chknum_ok C a5 (n + 2) h (k : Nat) 1 6 (by omega) (by omega)
  have h2 := chknum_ok C a5 (n + 2) h (s : Nat) 1 3 (by omega) (by omega)
  have h3 := chknum_ok C a5 (n + 2) h many 0 20 (by omega) (by omega)
  have h4 := aim_ok B.a19 (n + 4) h a
  have h5 := ringswith_ok C K a5 H93 H94 H95 n h k s k1 k2 s1 s2 [] (by simp) (fun p hp => by cases hp)
  have h5 : runF P (n + 5) 95 [.py (.int (k : Nat)), .py (.int (s : Nat)), .py (.tuple [])] h = .ok (.py (.list ((ringsW k s []).map tI))) h := h5
  have rl := rowsN_len s (by omega) k (by omega)
  have wl : (ringsW k s []).length ≤ 729 := Nat.le_trans (List.length_filter_le _ _) rl
  obtain ⟨s5, s6, j, L⟩ := toldrings_loop (F := runF P (n + 5)) (a := a) (many := many) (d0 := .v (.py (.int (k : Nat)))) (d1 := .v (.py (.int (s : Nat)))) (ringsW k s []) [] .u .u h (by simp; omega) (fun r hr h' => by
    have hm := (rowsN_mem (List.mem_filter.mp hr).1).1
    exact leastby_ok K.a6 K.a7 K.a9 B.a20 B.a21 (n + 2) h' r (by omega) (by omega) a)
  have f1 : fits ((ringsW k s []).filter (tm a many)).length = true := fits_small (Nat.le_trans (List.length_filter_le _ _) (by omega))
  have L : forF (ev (runF P (n + 5)) (.tn 5)).G (ev (runF P (n + 5)) b_told_rings_1).S ((ringsW k s []).map (D.py ∘ tI)) [.v (.py (.int (k : Nat))), .v (.py (.int (s : Nat))), .v (.py (.int many)), .v (AimD a), .o [], .u, .u] h = .nx [.v (.py (.int (k : Nat))), .v (.py (.int (s : Nat))), .v (.py (.int many)), .v (AimD a), .o (((ringsW k s []).filter (tm a many)).map tI), s5, s6] (h ++ j) := L
  refine ⟨j, ?_⟩
  generalize ((ringsW k s []).filter (tm a many)) = Z at *
  simp [callD, startE, look, lookV, Sl.get, Sl.getV, frzE, stoE, binF, addO, catL, iop, gAdd, gSub, gMul, gDiv, gMod, gPow, KF.listOf, ixU, dctAt, inUD, ninUD, inK, putU, ixO, ixD, L2.atI, L2.ixN, negD, truD, cmpF, icmp, isND, notND, isN, biF, fLen, lenD, fInt, fMax2, fMin2, fAbs, fTup, fLst, allPy, mkTup, mkLst, asI, revT, isiD, tyD, isTy, putO, putL, augF, promO, wipeE, itU, p_told_rings, k_told_rings, h1, h2, h3, h4, h5, L, f1]
end LW
set_option Elab.async false
set_option linter.all false
set_option maxRecDepth 100000
set_option maxHeartbeats 4000000
namespace LW
open PySem KF
open PySem.W (minD)
variable {P : Prog}
theorem row_in18 {F : FnS} {h : MH} {s : Nat} (hs : s ≤ 3) {a0 a1 a2 a3 a5 a6 a7 : Sl} {tl : List Sl} : ∀ (rows acc : List (List Int)) (s9 : Sl), acc.length + rows.length * 3 ≤ 10000 → (∀ row ∈ rows, row.length ≤ 10) → (∀ xs, s9 ≠ .o xs) →
    ∃ s9', (∀ xs, s9' ≠ .o xs) ∧ forF (ev F (.tn 9)).G (ev F b_law18_1).S (rows.map (D.py ∘ tI)) [a0, a1, a2, a3, .v (.py (.int (s : Nat))), a5, a6, a7, .o (acc.map tI), s9, .u, .u, .u, .u, .u, .u] h = .nx [a0, a1, a2, a3, .v (.py (.int (s : Nat))), a5, a6, a7, .o ((acc ++ more s rows).map tI), s9', .u, .u, .u, .u, .u, .u] h
  | [], acc, s9, _, _, no => ⟨s9, no, by simp [forF, more]⟩
  | row :: rows, acc, s9, hn, hr, no => by
    have z : rng1 [.py (.int (s : Nat))] = some (rngL 0 s) := rng1_nat s (by omega)
    have L := lcF_pureA (g := (ev F (.tn 10)).G) (ft := (ev F .yes).T) (fe := (ev F e_law18_1).E) (env := [a0, a1, a2, a3, .v (.py (.int (s : Nat))), a5, a6, a7, .o (acc.map tI), .v (TI row), .u, .u, .u, .u, .u, .u]) (h := h) (fun (j : Nat) => D.py (.int (j : Nat))) (fun _ => true) (fun (j : Nat) => tI (row ++ [(j : Int)])) (xs := List.range s) (fun j hj => by
      refine ⟨[a0, a1, a2, a3, .v (.py (.int (s : Nat))), a5, a6, a7, .o (acc.map tI), .v (TI row), .v (.py (.int j)), .u, .u, .u, .u, .u], rfl, rfl, fun _ => ?_⟩
      have f1 : fits (row.length + 1) = true := fits_small (by have := hr row List.mem_cons_self; omega)
      simp [callD, startE, look, lookV, Sl.get, Sl.getV, frzE, stoE, binF, addO, catL, iop, gAdd, gSub, gMul, gDiv, gMod, gPow, KF.listOf, ixU, dctAt, inUD, ninUD, inK, putU, ixO, ixD, L2.atI, L2.ixN, negD, truD, cmpF, icmp, isND, notND, isN, biF, fLen, lenD, fInt, fMax2, fMin2, fAbs, fTup, fLst, allPy, mkTup, mkLst, asI, revT, isiD, tyD, isTy, putO, putL, augF, promO, wipeE, itU, e_law18_1, f1, iL_len]
      simp [tI, iL])
    rw [filter_true, ← rngL_map] at L
    simp only [List.length_cons] at hn
    have f2 : fits s = true := fits_small (by omega)
    have f3 : fits (acc.length + s) = true := fits_small (by omega)
    obtain ⟨s9', no', ih⟩ := row_in18 (F := F) (h := h) hs (a0 := a0) (a1 := a1) (a2 := a2) (a3 := a3) (a5 := a5) (a6 := a6) (a7 := a7) (tl := tl) rows (acc ++ (List.range s).map fun (x : Nat) => row ++ [(x : Int)]) (.v (TI row)) (by rw [List.length_append, List.length_map, List.length_range]; omega) (fun q hq => hr q (List.mem_cons_of_mem _ hq)) (fun xs z => by cases z)
    refine ⟨s9', no', ?_⟩
    have em : (List.range s).map (fun (j : Nat) => tI (row ++ [(j : Int)])) = ((List.range s).map fun (x : Nat) => row ++ [(x : Int)]).map tI := by rw [List.map_map]; rfl
    rw [em] at L
    have step : (ev F b_law18_1).S [a0, a1, a2, a3, .v (.py (.int (s : Nat))), a5, a6, a7, .o (acc.map tI), .v (TI row), .u, .u, .u, .u, .u, .u] h = .nx [a0, a1, a2, a3, .v (.py (.int (s : Nat))), a5, a6, a7, .o ((acc ++ (List.range s).map fun (x : Nat) => row ++ [(x : Int)]).map tI), .v (TI row), .u, .u, .u, .u, .u, .u] h := by
      rw [List.map_append]
      generalize hG : ((List.range s).map fun (x : Nat) => row ++ [(x : Int)]).map tI = G at L
      have gl : G.length = s := by rw [← hG]; simp
      simp [callD, startE, look, lookV, Sl.get, Sl.getV, frzE, stoE, binF, addO, catL, iop, gAdd, gSub, gMul, gDiv, gMod, gPow, KF.listOf, ixU, dctAt, inUD, ninUD, inK, putU, ixO, ixD, L2.atI, L2.ixN, negD, truD, cmpF, icmp, isND, notND, isN, biF, fLen, lenD, fInt, fMax2, fMin2, fAbs, fTup, fLst, allPy, mkTup, mkLst, asI, revT, isiD, tyD, isTy, putO, putL, augF, promO, wipeE, itU, b_law18_1, z, L, mkL, gl, f2, f3]
    rw [List.map_cons, forF_cons]
    show ((ev F b_law18_1).S [a0, a1, a2, a3, .v (.py (.int (s : Nat))), a5, a6, a7, .o (acc.map tI), .v (TI row), .u, .u, .u, .u, .u, .u] h).thn _ = _
    rw [step]
    show forF _ _ _ _ h = _
    rw [ih, List.append_assoc]
    rfl
theorem rows_law18 {F : FnS} {h : MH} {k s : Nat} (hk : k < 7) (hs : s < 4) {a0 a1 a2 a5 : Sl} : ∃ s6 s7 s8 s9, forF (ev F (.tn 7)).G (ev F b_law18_2).S (rngL 0 k) [a0, a1, a2, .v (.py (.int (k : Nat))), .v (.py (.int (s : Nat))), a5, .o [.tuple []], .u, .u, .u, .u, .u, .u, .u, .u, .u] h =
    .nx [a0, a1, a2, .v (.py (.int (k : Nat))), .v (.py (.int (s : Nat))), a5, s6, s7, s8, s9, .u, .u, .u, .u, .u, .u] h ∧ (s6 = .o ((rowsN s k).map tI) ∨ s6 = .v (.py (.list ((rowsN s k).map tI)))) ∧ ∀ xs, s9 ≠ .o xs := by
  rw [rngL_map]
  obtain ⟨env', h', e, s6, s7, s8, s9, e1, e2, no, e3⟩ := forF_rel (g := (ev F (.tn 7)).G) (b := (ev F b_law18_2).S) (fun (j : Nat) => D.py (.int (j : Nat))) (fun pre env h' => ∃ s6 s7 s8 s9, env = [a0, a1, a2, .v (.py (.int (k : Nat))), .v (.py (.int (s : Nat))), a5, s6, s7, s8, s9, .u, .u, .u, .u, .u, .u] ∧ (s6 = .o ((rowsN s pre.length).map tI) ∨ s6 = .v (.py (.list ((rowsN s pre.length).map tI)))) ∧ (∀ xs, s9 ≠ .o xs) ∧ h' = h) (List.range k) (fun pre x suf env h0 ex ⟨s6, s7, s8, s9, e1, e2, no, e3⟩ => by
    subst e1 e3
    have hp : pre.length < k := by
      have := congrArg List.length ex
      simp at this
      omega
    have hl := rowsN_len s hs pre.length (by omega)
    obtain ⟨s9', no', L⟩ := row_in18 (F := F) (h := h0) (s := s) (by omega) (a0 := a0) (a1 := a1) (a2 := a2) (a3 := .v (.py (.int (k : Nat)))) (a5 := a5) (a6 := .v (.py (.list ((rowsN s pre.length).map tI)))) (a7 := .v (.py (.int (x : Nat)))) (tl := []) (rowsN s pre.length) [] s9 (by simp; omega) (fun row hr => by rw [(rowsN_mem hr).1]; omega) no
    rw [List.nil_append, ← rowsN_more] at L
    have L : forF (ev F (.tn 9)).G (ev F b_law18_1).S ((rowsN s pre.length).map (D.py ∘ tI)) [a0, a1, a2, .v (.py (.int (k : Nat))), .v (.py (.int (s : Nat))), a5, .v (.py (.list ((rowsN s pre.length).map tI))), .v (.py (.int (x : Nat))), .o [], s9, .u, .u, .u, .u, .u, .u] h0 = _ := L
    refine ⟨[a0, a1, a2, .v (.py (.int (k : Nat))), .v (.py (.int (s : Nat))), a5, s6, .v (.py (.int (x : Nat))), s8, s9, .u, .u, .u, .u, .u, .u], [a0, a1, a2, .v (.py (.int (k : Nat))), .v (.py (.int (s : Nat))), a5, .v (.py (.list ((rowsN s (pre.length + 1)).map tI))), .v (.py (.int (x : Nat))), .v (.py (.list ((rowsN s (pre.length + 1)).map tI))), s9', .u, .u, .u, .u, .u, .u], h0, rfl, ?_, _, _, _, _, rfl, .inr (by simp), no', rfl⟩
    generalize rowsN s (pre.length + 1) = G2 at *
    generalize rowsN s pre.length = G1 at *
    rcases e2 with e2 | e2 <;> subst e2 <;> simp [callD, startE, look, lookV, Sl.get, Sl.getV, frzE, stoE, binF, addO, catL, iop, gAdd, gSub, gMul, gDiv, gMod, gPow, KF.listOf, ixU, dctAt, inUD, ninUD, inK, putU, ixO, ixD, L2.atI, L2.ixN, negD, truD, cmpF, icmp, isND, notND, isN, biF, fLen, lenD, fInt, fMax2, fMin2, fAbs, fTup, fLst, allPy, mkTup, mkLst, asI, revT, isiD, tyD, isTy, putO, putL, augF, promO, wipeE, itU, b_law18_2, L]) [a0, a1, a2, .v (.py (.int (k : Nat))), .v (.py (.int (s : Nat))), a5, .o [.tuple []], .u, .u, .u, .u, .u, .u, .u, .u, .u] h ⟨_, _, _, _, rfl, .inl rfl, (fun xs z => by cases z), rfl⟩
  subst e1 e3
  rw [List.length_range] at e2
  exact ⟨s6, s7, s8, s9, e, e2, no⟩
def lt2 (a : Bool) (many : Int) (r : List Int) : Bool := decide (leastR r = r) && tm a many r
theorem due18 {F : FnS} {a : Bool} {many : Int} {a0 a1 a3 a4 a6 a7 a8 : Sl} : ∀ (rows acc : List (List Int)) (s9 s12 : Sl) (h : MH), acc.length + rows.length ≤ 1000 → (∀ r ∈ rows, 1 ≤ r.length ∧ ∀ h, F 83 [TI r] h = .ok (.py (.list ((turnL r).map tI))) h ∧ ∃ j, F 193 [TI r, AimD a] h = .ok (.py (optI (leastM r a))) (h ++ j)) →
    ∃ s9' s12' j, forF (ev F (.tn 9)).G (ev F b_law18_3).S (rows.map (D.py ∘ tI)) [a0, a1, .v (AimD a), a3, a4, .v (.py (.int many)), a6, a7, a8, s9, .u, .o (acc.map tI), s12, .u, .u, .u] h = .nx [a0, a1, .v (AimD a), a3, a4, .v (.py (.int many)), a6, a7, a8, s9', .u, .o ((acc ++ rows.filter (lt2 a many)).map tI), s12', .u, .u, .u] (h ++ j)
  | [], acc, s9, s12, h, _, _ => ⟨s9, s12, [], by simp [forF]⟩
  | r :: rows, acc, s9, s12, h, hn, hf => by
    obtain ⟨hr1, hf1⟩ := hf r List.mem_cons_self
    obtain ⟨e83, j1, e193⟩ := hf1 h
    have e83 : F 83 [.py (tI r)] h = .ok (.py (.list ((turnL r).map tI))) h := e83
    have e193 : F 193 [.py (tI r), AimD a] h = .ok (.py (optI (leastM r a))) (h ++ j1) := e193
    obtain ⟨x, xs, ex⟩ := turn_ne hr1
    have em := min_tI x xs h
    rw [least_turn ex hr1] at em
    rw [ex] at e83
    rw [List.map_cons] at em e83
    have em : fMm minD h [.py (.list (tI x :: xs.map tI))] = some (.py (tI (leastR r))) := em
    simp only [List.length_cons] at hn
    have f1 : fits (acc.length + 1) = true := fits_small (by omega)
    have f0 : fits acc.length = true := fits_small (by omega)
    have step : ∃ s12' j, (ev F b_law18_3).S [a0, a1, .v (AimD a), a3, a4, .v (.py (.int many)), a6, a7, a8, .v (.py (tI r)), .u, .o (acc.map tI), s12, .u, .u, .u] h = .nx [a0, a1, .v (AimD a), a3, a4, .v (.py (.int many)), a6, a7, a8, .v (.py (tI r)), .u, .o ((acc ++ [r].filter (lt2 a many)).map tI), s12', .u, .u, .u] (h ++ j) := by
      by_cases c1 : leastR r = r
      · rw [c1] at em
        cases q : leastM r a with
        | none =>
          rw [q] at e193
          have : lt2 a many r = false := by simp [lt2, tm, q]
          exact ⟨.v (.py .none), j1, by simp [callD, startE, look, lookV, Sl.get, Sl.getV, frzE, stoE, binF, addO, catL, iop, gAdd, gSub, gMul, gDiv, gMod, gPow, KF.listOf, ixU, dctAt, inUD, ninUD, inK, putU, ixO, ixD, L2.atI, L2.ixN, negD, truD, cmpF, icmp, isND, notND, isN, biF, fLen, lenD, fInt, fMax2, fMin2, fAbs, fTup, fLst, allPy, mkTup, mkLst, asI, revT, isiD, tyD, isTy, putO, putL, augF, promO, wipeE, itU, b_law18_3, e83, em, eqD, shal_tI, eqv_tI, e193, optI, this, f0]⟩
        | some m =>
          rw [q] at e193
          by_cases c : (m : Int) ≤ many
          · have : lt2 a many r = true := by simp [lt2, tm, q, c, c1]
            exact ⟨.v (.py (.int (m : Nat))), j1, by simp [callD, startE, look, lookV, Sl.get, Sl.getV, frzE, stoE, binF, addO, catL, iop, gAdd, gSub, gMul, gDiv, gMod, gPow, KF.listOf, ixU, dctAt, inUD, ninUD, inK, putU, ixO, ixD, L2.atI, L2.ixN, negD, truD, cmpF, icmp, isND, notND, isN, biF, fLen, lenD, fInt, fMax2, fMin2, fAbs, fTup, fLst, allPy, mkTup, mkLst, asI, revT, isiD, tyD, isTy, putO, putL, augF, promO, wipeE, itU, b_law18_3, e83, em, eqD, shal_tI, eqv_tI, e193, optI, this, c, f1]⟩
          · have : lt2 a many r = false := by simp [lt2, tm, q]; omega
            exact ⟨.v (.py (.int (m : Nat))), j1, by simp [callD, startE, look, lookV, Sl.get, Sl.getV, frzE, stoE, binF, addO, catL, iop, gAdd, gSub, gMul, gDiv, gMod, gPow, KF.listOf, ixU, dctAt, inUD, ninUD, inK, putU, ixO, ixD, L2.atI, L2.ixN, negD, truD, cmpF, icmp, isND, notND, isN, biF, fLen, lenD, fInt, fMax2, fMin2, fAbs, fTup, fLst, allPy, mkTup, mkLst, asI, revT, isiD, tyD, isTy, putO, putL, augF, promO, wipeE, itU, b_law18_3, e83, em, eqD, shal_tI, eqv_tI, e193, optI, this, c, f0]⟩
      · have : lt2 a many r = false := by simp [lt2, c1]
        exact ⟨s12, [], by simp [callD, startE, look, lookV, Sl.get, Sl.getV, frzE, stoE, binF, addO, catL, iop, gAdd, gSub, gMul, gDiv, gMod, gPow, KF.listOf, ixU, dctAt, inUD, ninUD, inK, putU, ixO, ixD, L2.atI, L2.ixN, negD, truD, cmpF, icmp, isND, notND, isN, biF, fLen, lenD, fInt, fMax2, fMin2, fAbs, fTup, fLst, allPy, mkTup, mkLst, asI, revT, isiD, tyD, isTy, putO, putL, augF, promO, wipeE, itU, b_law18_3, e83, em, eqD, shal_tI, eqv_tI, c1, this]⟩
    obtain ⟨s12', j2, step⟩ := step
    obtain ⟨t9, t12, j3, ih⟩ := due18 (F := F) (a := a) (many := many) (a0 := a0) (a1 := a1) (a3 := a3) (a4 := a4) (a6 := a6) (a7 := a7) (a8 := a8) rows (acc ++ [r].filter (lt2 a many)) (.v (.py (tI r))) s12' (h ++ j2) (by
      have := List.length_filter_le (lt2 a many) [r]
      rw [List.length_append]
      simp only [List.length_singleton] at this
      omega) fun q hq => hf q (List.mem_cons_of_mem _ hq)
    refine ⟨t9, t12, j2 ++ j3, ?_⟩
    rw [List.map_cons, forF_cons]
    show ((ev F b_law18_3).S [a0, a1, .v (AimD a), a3, a4, .v (.py (.int many)), a6, a7, a8, .v (.py (tI r)), .u, .o (acc.map tI), s12, .u, .u, .u] h).thn _ = _
    rw [step]
    show forF _ _ _ _ (h ++ j2) = _
    rw [ih, List.append_assoc, ← List.filter_append, List.append_assoc]
    rfl
end LW
set_option Elab.async false
set_option linter.all false
set_option maxRecDepth 100000
set_option maxHeartbeats 4000000
/-! KM, part L: few rings (k18). -/
namespace LW
open PySem KF
def vecN (b : Nat) : Nat → List (List Nat)
  | 0 => [[]]
  | m + 1 => (List.range b).flatMap fun x => (vecN b m).map (x :: ·)
theorem vecN_mem {b : Nat} : ∀ {m : Nat} {cs : List Nat}, cs.length = m → (∀ x ∈ cs, x < b) → cs ∈ vecN b m
  | 0, cs, h, _ => by
    have : cs = [] := List.length_eq_zero_iff.mp h
    subst this
    simp [vecN]
  | m + 1, [], h, _ => by simp at h
  | m + 1, c :: cs, h, q => List.mem_flatMap.mpr ⟨c, List.mem_range.mpr (q c List.mem_cons_self), List.mem_map.mpr ⟨cs, vecN_mem (by simpa using h) fun x hx => q x (List.mem_cons_of_mem _ hx), rfl⟩⟩
def ok18 (cs : List Nat) : Bool := ((cs.all fun x => Nat.ble x 2) || Nat.ble cs.sum 3) && (Nat.ble 1 cs.sum && Nat.ble cs.sum 6)
def few18 (cs : List Nat) : Bool := !ok18 cs || (Nat.blt (rowsF cs.sum cs).length 63 || Nat.blt (ringsC cs).length 63)
theorem few18_1 : (vecN 4 1).all few18 = true := by decide +kernel
theorem few18_2 : (vecN 4 2).all few18 = true := by decide +kernel
theorem few18_3 : (vecN 4 3).all few18 = true := by decide +kernel
theorem few18_4 : (vecN 4 4).all few18 = true := by decide +kernel
theorem ssU_le (L : List (List Int)) : (ssU ltIs L).length ≤ L.length := ssU_len ltIs L
theorem few_ok {cs : List Nat} (h1 : 1 ≤ cs.length) (h2 : cs.length ≤ 4) (hv : ∀ x ∈ cs, x ≤ 3) (ok : (∀ x ∈ cs, x ≤ 2) ∨ cs.sum ≤ 3) (s1 : 1 ≤ cs.sum) (s2 : cs.sum ≤ 6) : (ringsC cs).length < 63 := by
  have hm : cs ∈ vecN 4 cs.length := vecN_mem rfl fun x hx => by have := hv x hx; omega
  have all : few18 cs = true := by
    have : cs.length = 1 ∨ cs.length = 2 ∨ cs.length = 3 ∨ cs.length = 4 := by omega
    rcases this with z | z | z | z <;> rw [z] at hm
    · exact List.all_eq_true.mp few18_1 cs hm
    · exact List.all_eq_true.mp few18_2 cs hm
    · exact List.all_eq_true.mp few18_3 cs hm
    · exact List.all_eq_true.mp few18_4 cs hm
  have hok : ok18 cs = true := by
    unfold ok18
    rw [Bool.and_eq_true, Bool.and_eq_true, Bool.or_eq_true]
    refine ⟨?_, Nat.ble_eq_true_of_le s1, Nat.ble_eq_true_of_le s2⟩
    rcases ok with ok | ok
    · left
      rw [List.all_eq_true]
      exact fun x hx => Nat.ble_eq_true_of_le (ok x hx)
    · right; exact Nat.ble_eq_true_of_le ok
  unfold few18 at all
  rw [hok] at all
  simp only [Bool.not_true, Bool.false_or, Bool.or_eq_true] at all
  rcases all with a | a
  · have a := blt_lt a
    have := ssU_len ltIs (leastsC cs)
    unfold leastsC at this
    rw [List.length_map] at this
    unfold ringsC leastsC
    omega
  · exact blt_lt a
end LW
set_option Elab.async false
set_option linter.all false
set_option maxRecDepth 100000
set_option maxHeartbeats 4000000
namespace LW
open PySem KF
open PySem.W (minD maxD)
variable {P : Prog}
def nL (cs : List Nat) : List PyData := cs.map fun (k : Nat) => PyData.int (k : Nat)
theorem nL_len (cs : List Nat) : (nL cs).length = cs.length := by simp [nL]
theorem sum_nL (h : MH) (cs : List Nat) : fSum h [.py (.list (nL cs))] = some (.py (.int (cs.sum : Nat))) := by
  have := sum_cT h cs
  exact this
theorem foldmax_mem : ∀ (ns : List Int) (n : Int), ns.foldl max n ∈ n :: ns
  | [], n => by simp
  | m :: r, n => by
    have h := foldmax_mem r (max n m)
    rw [List.foldl_cons]
    rcases List.mem_cons.mp h with e | e
    · rw [e]
      by_cases c : n ≤ m
      · rw [Int.max_eq_right c]; simp
      · rw [Int.max_eq_left (by omega)]; simp
    · simp [e]
theorem foldmax_ge : ∀ (ns : List Int) (n : Int), ∀ x ∈ n :: ns, x ≤ ns.foldl max n
  | [], n, x, hx => by simp at hx; subst hx; exact Int.le_refl _
  | m :: r, n, x, hx => by
    rw [List.foldl_cons]
    have h := foldmax_ge r (max n m)
    have h0 := h (max n m) List.mem_cons_self
    rcases List.mem_cons.mp hx with e | e
    · omega
    · rcases List.mem_cons.mp e with e | e
      · omega
      · exact h x (List.mem_cons_of_mem _ e)
/-- the greatest of some counts -/
theorem max_nL (h : MH) (cs : List Nat) (ne : cs ≠ []) : ∃ M : Nat, fMm maxD h [.py (.list (nL cs))] = some (.py (.int (M : Nat))) ∧ M ∈ cs ∧ ∀ x ∈ cs, x ≤ M := by
  cases cs with
  | nil => exact absurd rfl ne
  | cons c r =>
    have e1 : oneForm (.int (c : Nat)) (nL r) = true := by
      unfold oneForm
      rw [List.all_eq_true.mpr (fun d hd => by
        obtain ⟨y, _, e⟩ := List.mem_map.mp hd
        rw [← e]; rw [al2])]
      rw [al2]; rfl
    have e2 : (nL (c :: r)).all (shal 60) = true := by
      rw [List.all_eq_true]
      intro d hd
      obtain ⟨y, _, e⟩ := List.mem_map.mp hd
      rw [← e]; exact shal_int _ _
    have ei : nL r = (r.map fun (k : Nat) => (k : Int)).map .int := by simp [nL]
    have em := PySem.W.maxD_ints (c : Int) (r.map fun (k : Nat) => (k : Int))
    rw [← ei] at em
    have hm := foldmax_mem (r.map fun (k : Nat) => (k : Int)) (c : Int)
    have hg := foldmax_ge (r.map fun (k : Nat) => (k : Int)) (c : Int)
    have hm' : (r.map fun (k : Nat) => (k : Int)).foldl max (c : Int) ∈ (c :: r).map fun (k : Nat) => (k : Int) := by simpa using hm
    obtain ⟨M, hM, e⟩ := List.mem_map.mp hm'
    rw [← e] at em hg
    refine ⟨M, ?_, hM, fun x hx => ?_⟩
    · show (if (oneForm (.int (c : Nat)) (nL r) && (nL (c :: r)).all (shal 60)) = true then some (D.py (maxD (.int (c : Nat)) (nL r))) else none) = _
      rw [e1, e2, Bool.and_self, if_pos rfl, em]
    · have := hg (x : Int) (by
        rcases List.mem_cons.mp hx with z | z
        · rw [z]; exact List.mem_cons_self
        · exact List.mem_cons_of_mem _ (List.mem_map.mpr ⟨x, z, rfl⟩))
      omega
theorem fIdx_nL (M : Nat) : ∀ (cs : List Nat) (i : Nat), M ∈ cs → ∃ p, p < cs.length ∧ cs.getD p 0 = M ∧ fIdx (.int (M : Nat)) i (nL cs) = some (i + p)
  | [], i, h => by cases h
  | c :: r, i, h => by
    by_cases e : c = M
    · subst e
      exact ⟨0, by simp, by simp, by simp [fIdx, nL, eqv_ii]⟩
    · obtain ⟨p, h1, h2, h3⟩ := fIdx_nL M r (i + 1) (by
        rcases List.mem_cons.mp h with z | z
        · exact absurd z.symm e
        · exact z)
      refine ⟨p + 1, by simpa using h1, by simpa using h2, ?_⟩
      have ne : ¬ ((c : Nat) : Int) = (M : Nat) := by omega
      show (if PyData.eqv (.int (c : Nat)) (.int (M : Nat)) = true then some i else fIdx (.int (M : Nat)) (i + 1) (nL r)) = _
      rw [eqv_ii, if_neg (by simpa using ne), h3]
      congr 1
      omega
def env18 (ns : List Int) (a : Bool) (cs : List Nat) : KF.Env := [.v (.scr ns), .v (.loc 1), .v (AimD a), .u, .u, .u, .u, .u, .u, .u, .u, .u, .u, .o (nL cs), .u, .u]
theorem step18 {F : FnS} {ns : List Int} {a : Bool} {h : MH} {cs : List Nat} (hl : cs.length ≤ 4) (hs : 6 < cs.sum) : ∃ cs', (ev F b_law18_4).S (env18 ns a cs) h = .nx (env18 ns a cs') h ∧ cs'.length = cs.length ∧ cs'.sum + 1 = cs.sum ∧ ∀ b, (∀ x ∈ cs, x ≤ b) → ∀ x ∈ cs', x ≤ b := by
  have ne : cs ≠ [] := fun z => by subst z; simp at hs
  obtain ⟨M, em, m1, m2⟩ := max_nL h cs ne
  obtain ⟨p, p1, p2, p3⟩ := fIdx_nL M cs 0 m1
  have M1 : 1 ≤ M := by
    rcases Nat.eq_zero_or_pos M with z | z
    · exfalso
      have : ∀ l : List Nat, (∀ x ∈ l, x ≤ 0) → l.sum = 0 := by
        intro l
        induction l with
        | nil => intro _; rfl
        | cons x r ih =>
          intro q
          have := q x List.mem_cons_self
          have := ih fun y hy => q y (List.mem_cons_of_mem _ hy)
          simp; omega
      have := this cs fun x hx => by have := m2 x hx; omega
      omega
    · exact z
  rw [Nat.zero_add] at p3
  have sh : (nL cs).all (shal 60) = true := by
    rw [List.all_eq_true]
    intro d hd
    obtain ⟨y, _, e⟩ := List.mem_map.mp hd
    rw [← e]; exact shal_int _ _
  have ix : idxO h (.py (.list (nL cs))) [.py (.int (M : Nat))] = some (.py (.int (p : Nat))) := by
    show (if (shal 60 (.int (M : Nat)) && (nL cs).all (shal 60)) = true then (fIdx (.int (M : Nat)) 0 (nL cs)).map fun j => D.py (.int (j : Nat)) else none) = _
    rw [sh, shal_int, Bool.and_self, if_pos rfl, p3]
    rfl
  refine ⟨cs.set p (M - 1), ?_, by simp, ?_, fun b hb x hx => ?_⟩
  · have ei : ((M : Nat) : Int) - 1 = ((M - 1 : Nat) : Int) := by omega
    have il : isLst h (.py (.list (nL cs))) = true := rfl
    have es : (nL cs).set p (.int ((M - 1 : Nat) : Int)) = nL (cs.set p (M - 1)) := by simp [nL, List.map_set]
    have hp : p < (nL cs).length := by rw [nL_len]; exact p1
    have hp' : (p : Int) < (nL cs).length := by omega
    unfold env18
    generalize hN : nL cs = N at *
    simp [callD, startE, look, lookV, Sl.get, Sl.getV, frzE, stoE, binF, addO, catL, iop, gAdd, gSub, gMul, gDiv, gMod, gPow, KF.listOf, ixU, dctAt, inUD, ninUD, inK, putU, ixO, ixD, L2.atI, L2.ixN, negD, truD, cmpF, icmp, isND, notND, isN, biF, fLen, lenD, fInt, fMax2, fMin2, fAbs, fTup, fLst, allPy, mkTup, mkLst, asI, revT, isiD, tyD, isTy, putO, putL, augF, promO, wipeE, itU, b_law18_4, em, il, ix, ei, hp, hp', es]
  · have := set_sum cs p (M - 1) p1
    omega
  · rcases List.mem_or_eq_of_mem_set hx with z | z
    · exact hb x z
    · have := hb M m1; omega
theorem while18 {F : FnS} {ns : List Int} {a : Bool} {h : MH} : ∀ (d n : Nat) (cs : List Nat), cs.length ≤ 4 → 1 ≤ cs.sum → cs.sum ≤ 6 + d → d < n → ∃ cs', whileF (ev F t_law18_1).T (ev F b_law18_4).S n (env18 ns a cs) h = .nx (env18 ns a cs') h ∧ cs'.length = cs.length ∧ 1 ≤ cs'.sum ∧ cs'.sum ≤ 6 ∧ cs'.sum ≤ cs.sum ∧ ∀ b, (∀ x ∈ cs, x ≤ b) → ∀ x ∈ cs', x ≤ b
  | d, 0, cs, _, _, _, hn => absurd hn (Nat.not_lt_zero _)
  | d, n + 1, cs, hl, h1, hd, hn => by
    have es := sum_nL h cs
    have et : (ev F t_law18_1).T (env18 ns a cs) h = .ok (decide (6 < cs.sum)) h := by
      have e6 : decide ((6 : Int) < (cs.sum : Nat)) = decide (6 < cs.sum) := by
        rw [decide_eq_decide]; omega
      unfold env18
      generalize cs.sum = S at *
      generalize nL cs = N at *
      simp [callD, startE, look, lookV, Sl.get, Sl.getV, frzE, stoE, binF, addO, catL, iop, gAdd, gSub, gMul, gDiv, gMod, gPow, KF.listOf, ixU, dctAt, inUD, ninUD, inK, putU, ixO, ixD, L2.atI, L2.ixN, negD, truD, cmpF, icmp, isND, notND, isN, biF, fLen, lenD, fInt, fMax2, fMin2, fAbs, fTup, fLst, allPy, mkTup, mkLst, asI, revT, isiD, tyD, isTy, putO, putL, augF, promO, wipeE, itU, t_law18_1, es]
      omega
    by_cases c : 6 < cs.sum
    · obtain ⟨cs1, s1, s2, s3, s4⟩ := step18 (F := F) (ns := ns) (a := a) (h := h) hl c
      cases d with
      | zero => omega
      | succ d =>
        obtain ⟨cs', w1, w2, w3, w4, w5, w6⟩ := while18 (F := F) (ns := ns) (a := a) (h := h) d n cs1 (by omega) (by omega) (by omega) (by omega)
        refine ⟨cs', ?_, by omega, w3, w4, by omega, fun b hb => w6 b (s4 b hb)⟩
        show ((ev F t_law18_1).T (env18 ns a cs) h).toS _ _ = _
        rw [et, decide_eq_true c]
        show ((ev F b_law18_4).S (env18 ns a cs) h).thn _ = _
        rw [s1]
        exact w1
    · refine ⟨cs, ?_, rfl, h1, by omega, Nat.le_refl _, fun b hb => hb⟩
      show ((ev F t_law18_1).T (env18 ns a cs) h).toS _ _ = _
      rw [et, decide_eq_false c]
      rfl
end LW
set_option Elab.async false
set_option linter.all false
set_option maxRecDepth 100000
set_option maxHeartbeats 0
namespace LW
open PySem PySem.Spec PyProof.Rows L2 KF
def topS (i : Nat) : Stmt := PySem.Challenge.pw_keysfelt_k18_whole_rings_told_soonest.main.body.getD i (.Pass ⟨0, 0, 0, 0⟩)
def G : List (Str × GK) := ([("is_integer", .fn 0 1), ("is_from", .fn 1 3), ("are_shapes", .fn 2 4), ("check_number", .fn 5 3), ("check_aim", .fn 19 1), ("shape_at", .fn 6 3), ("felt_by", .fn 7 3), ("all_holds", .fn 9 1), ("is_known", .fn 20 2), ("least_by", .fn 21 2), ("least_of", .fn 71 1), ("check_counts", .fn 74 1), ("all_rows", .fn 81 1), ("all_rings", .fn 82 1), ("check_pieces", .fn 93 2), ("has_piece", .fn 94 2), ("rings_with", .fn 95 3), ("best_rings", .fn 191 2), ("told_rings", .fn 192 4), ("_law_mix", .fn 11 2)] : List (Str × GK)) ++ ([("_law_next", .fn 12 2), ("_law_holds", .fn 14 1), ("_law_felt", .fn 15 3), ("_law_unlike", .fn 17 3), ("_law_turned", .fn 83 1), ("_law_told_by", .fn 193 2), ("_law_rows", .fn 84 1), ("law", .fn 194 1), ("KEY", .str "key"), ("HOLD", .str "hold"), ("MOST_COUNTS", .int 9), ("MOST_TOLD", .int 40), ("MOST_LISTED", .int 8), ("MOST_ROUND", .int 6), ("MOST_KINDS", .int 3), ("MOST_PIECES", .int 8), ("MOST_PIECE", .int 12), ("MOST_WITHIN", .int 20), ("bool", .blt), ("enumerate", .blt)] : List (Str × GK)) ++ ([("int", .blt), ("isinstance", .blt), ("len", .blt), ("list", .blt), ("max", .blt), ("min", .blt), ("range", .blt), ("set", .blt), ("sorted", .blt), ("str", .blt), ("sum", .blt), ("tuple", .blt)] : List (Str × GK))
abbrev s_0 : Stmt := topS 10
def d_0 : He.DefD := ⟨("is_integer", none), "is_integer", "is_integer", defArgs s_0, defBody s_0, defScope s_0, [], []⟩
abbrev s_1 : Stmt := topS 11
def d_1 : He.DefD := ⟨("is_from", none), "is_from", "is_from", defArgs s_1, defBody s_1, defScope s_1, [], []⟩
abbrev s_2 : Stmt := topS 12
def d_2 : He.DefD := ⟨("are_shapes", none), "are_shapes", "are_shapes", defArgs s_2, defBody s_2, defScope s_2, [], []⟩
abbrev s_3 : Stmt := topS 13
def d_3 : He.DefD := ⟨("check_number", none), "check_number", "check_number", defArgs s_3, defBody s_3, defScope s_3, [], []⟩
abbrev s_4 : Stmt := topS 14
def d_4 : He.DefD := ⟨("check_aim", none), "check_aim", "check_aim", defArgs s_4, defBody s_4, defScope s_4, [], []⟩
abbrev s_5 : Stmt := topS 15
def d_5 : He.DefD := ⟨("shape_at", none), "shape_at", "shape_at", defArgs s_5, defBody s_5, defScope s_5, [], []⟩
abbrev s_6 : Stmt := topS 16
def d_6 : He.DefD := ⟨("felt_by", none), "felt_by", "felt_by", defArgs s_6, defBody s_6, defScope s_6, [], []⟩
abbrev s_7 : Stmt := topS 17
def d_7 : He.DefD := ⟨("all_holds", none), "all_holds", "all_holds", defArgs s_7, defBody s_7, defScope s_7, [], []⟩
abbrev s_8 : Stmt := topS 18
def d_8 : He.DefD := ⟨("is_known", none), "is_known", "is_known", defArgs s_8, defBody s_8, defScope s_8, [], []⟩
abbrev s_9 : Stmt := topS 19
def d_9 : He.DefD := ⟨("least_by", none), "least_by", "least_by", defArgs s_9, defBody s_9, defScope s_9, [], []⟩
abbrev s_10 : Stmt := topS 28
def d_10 : He.DefD := ⟨("least_of", none), "least_of", "least_of", defArgs s_10, defBody s_10, defScope s_10, [], []⟩
abbrev s_11 : Stmt := topS 29
def d_11 : He.DefD := ⟨("check_counts", none), "check_counts", "check_counts", defArgs s_11, defBody s_11, defScope s_11, [], []⟩
abbrev s_12 : Stmt := topS 30
def d_12 : He.DefD := ⟨("all_rows", none), "all_rows", "all_rows", defArgs s_12, defBody s_12, defScope s_12, [], []⟩
abbrev s_13 : Stmt := topS 31
def d_13 : He.DefD := ⟨("all_rings", none), "all_rings", "all_rings", defArgs s_13, defBody s_13, defScope s_13, [], []⟩
abbrev s_14 : Stmt := topS 32
def d_14 : He.DefD := ⟨("check_pieces", none), "check_pieces", "check_pieces", defArgs s_14, defBody s_14, defScope s_14, [], []⟩
abbrev s_15 : Stmt := topS 33
def d_15 : He.DefD := ⟨("has_piece", none), "has_piece", "has_piece", defArgs s_15, defBody s_15, defScope s_15, [], []⟩
abbrev s_16 : Stmt := topS 34
def d_16 : He.DefD := ⟨("rings_with", none), "rings_with", "rings_with", defArgs s_16, defBody s_16, defScope s_16, [], []⟩
abbrev s_17 : Stmt := topS 37
def d_17 : He.DefD := ⟨("best_rings", none), "best_rings", "best_rings", defArgs s_17, defBody s_17, defScope s_17, [], []⟩
abbrev s_18 : Stmt := topS 38
def d_18 : He.DefD := ⟨("told_rings", none), "told_rings", "told_rings", defArgs s_18, defBody s_18, defScope s_18, [], []⟩
abbrev s_19 : Stmt := topS 40
def d_19 : He.DefD := ⟨("_law_mix", none), "_law_mix", "_law_mix", defArgs s_19, defBody s_19, defScope s_19, [], []⟩
abbrev s_20 : Stmt := topS 41
def d_20 : He.DefD := ⟨("_law_next", none), "_law_next", "_law_next", defArgs s_20, defBody s_20, defScope s_20, [], []⟩
abbrev s_21 : Stmt := topS 43
def d_21 : He.DefD := ⟨("_law_holds", none), "_law_holds", "_law_holds", defArgs s_21, defBody s_21, defScope s_21, [], []⟩
abbrev s_22 : Stmt := topS 44
def d_22 : He.DefD := ⟨("_law_felt", none), "_law_felt", "_law_felt", defArgs s_22, defBody s_22, defScope s_22, [], []⟩
abbrev s_23 : Stmt := topS 46
def d_23 : He.DefD := ⟨("_law_unlike", none), "_law_unlike", "_law_unlike", defArgs s_23, defBody s_23, defScope s_23, [], []⟩
abbrev s_24 : Stmt := topS 47
def d_24 : He.DefD := ⟨("_law_turned", none), "_law_turned", "_law_turned", defArgs s_24, defBody s_24, defScope s_24, [], []⟩
abbrev s_25 : Stmt := topS 48
def d_25 : He.DefD := ⟨("_law_told_by", none), "_law_told_by", "_law_told_by", defArgs s_25, defBody s_25, defScope s_25, [], []⟩
abbrev s_26 : Stmt := topS 49
def d_26 : He.DefD := ⟨("_law_rows", none), "_law_rows", "_law_rows", defArgs s_26, defBody s_26, defScope s_26, [], []⟩
abbrev s_27 : Stmt := topS 50
def d_27 : He.DefD := ⟨("law", none), "law", "law", defArgs s_27, defBody s_27, defScope s_27, [], []⟩
def fn : List He.DefD := [d_0, d_1, d_2, d_3, d_4, d_5, d_6, d_7, d_8, d_9, d_10, d_11, d_12, d_13, d_14, d_15, d_16, d_17, d_18, d_19, d_20, d_21, d_22, d_23, d_24, d_25, d_26, d_27]
def P : Prog := [(0, p_is_integer), (1, p_is_from), (2, p_are_shapes), (5, p_check_number), (19, p_check_aim), (6, p_shape_at), (7, p_felt_by), (9, p_all_holds), (20, p_is_known), (21, p_least_by), (71, p_least_of_v2), (74, p_check_counts), (81, p_all_rows), (82, p_all_rings), (93, p_check_pieces), (94, p_has_piece), (95, p_rings_with), (191, p_best_rings), (192, p_told_rings), (11, p__law_mix), (12, p__law_next), (14, p__law_holds), (15, p__law_felt), (17, p__law_unlike), (83, p__law_turned), (193, p__law_told_by_v2), (84, p__law_rows), (194, p_law18)]
theorem b_0 : PlainB d_0 p_is_integer := fun _ _ _ _ _ _ us hl => match us, hl with | [_], _ => rfl
theorem b_1 : PlainB d_1 p_is_from := fun _ _ _ _ _ _ us hl => match us, hl with | [_, _, _], _ => rfl
theorem b_2 : PlainB d_2 p_are_shapes := fun _ _ _ _ _ _ us hl => match us, hl with | [_, _, _, _], _ => rfl
theorem b_3 : PlainB d_3 p_check_number := fun _ _ _ _ _ _ us hl => match us, hl with | [_, _, _], _ => rfl
theorem b_4 : PlainB d_4 p_check_aim := fun _ _ _ _ _ _ us hl => match us, hl with | [_], _ => rfl
theorem b_5 : PlainB d_5 p_shape_at := fun _ _ _ _ _ _ us hl => match us, hl with | [_, _, _], _ => rfl
theorem b_6 : PlainB d_6 p_felt_by := fun _ _ _ _ _ _ us hl => match us, hl with | [_, _, _], _ => rfl
theorem b_7 : PlainB d_7 p_all_holds := fun _ _ _ _ _ _ us hl => match us, hl with | [_], _ => rfl
theorem b_8 : PlainB d_8 p_is_known := fun _ _ _ _ _ _ us hl => match us, hl with | [_, _], _ => rfl
theorem b_9 : PlainB d_9 p_least_by := fun _ _ _ _ _ _ us hl => match us, hl with | [_, _], _ => rfl
theorem b_10 : PlainB d_10 p_least_of_v2 := fun _ _ _ _ _ _ us hl => match us, hl with | [_], _ => rfl
theorem b_11 : PlainB d_11 p_check_counts := fun _ _ _ _ _ _ us hl => match us, hl with | [_], _ => rfl
theorem b_12 : PlainB d_12 p_all_rows := fun _ _ _ _ _ _ us hl => match us, hl with | [_], _ => rfl
theorem b_13 : PlainB d_13 p_all_rings := fun _ _ _ _ _ _ us hl => match us, hl with | [_], _ => rfl
theorem b_14 : PlainB d_14 p_check_pieces := fun _ _ _ _ _ _ us hl => match us, hl with | [_, _], _ => rfl
theorem b_15 : PlainB d_15 p_has_piece := fun _ _ _ _ _ _ us hl => match us, hl with | [_, _], _ => rfl
theorem b_16 : PlainB d_16 p_rings_with := fun _ _ _ _ _ _ us hl => match us, hl with | [_, _, _], _ => rfl
theorem b_17 : PlainB d_17 p_best_rings := fun _ _ _ _ _ _ us hl => match us, hl with | [_, _], _ => rfl
theorem b_18 : PlainB d_18 p_told_rings := fun _ _ _ _ _ _ us hl => match us, hl with | [_, _, _, _], _ => rfl
theorem b_19 : PlainB d_19 p__law_mix := fun _ _ _ _ _ _ us hl => match us, hl with | [_, _], _ => rfl
theorem b_20 : PlainB d_20 p__law_next := fun _ _ _ _ _ _ us hl => match us, hl with | [_, _], _ => rfl
theorem b_21 : PlainB d_21 p__law_holds := fun _ _ _ _ _ _ us hl => match us, hl with | [_], _ => rfl
theorem b_22 : PlainB d_22 p__law_felt := fun _ _ _ _ _ _ us hl => match us, hl with | [_, _, _], _ => rfl
theorem b_23 : PlainB d_23 p__law_unlike := fun _ _ _ _ _ _ us hl => match us, hl with | [_, _, _], _ => rfl
theorem b_24 : PlainB d_24 p__law_turned := fun _ _ _ _ _ _ us hl => match us, hl with | [_], _ => rfl
theorem b_25 : PlainB d_25 p__law_told_by_v2 := fun _ _ _ _ _ _ us hl => match us, hl with | [_, _], _ => rfl
theorem b_26 : PlainB d_26 p__law_rows := fun _ _ _ _ _ _ us hl => match us, hl with | [_], _ => rfl
theorem b_27 : PlainB d_27 p_law18 := fun _ _ _ _ _ _ us hl => match us, hl with | [_], _ => rfl
theorem pl : PlainAll fn P := ⟨b_0, b_1, b_2, b_3, b_4, b_5, b_6, b_7, b_8, b_9, b_10, b_11, b_12, b_13, b_14, b_15, b_16, b_17, b_18, b_19, b_20, b_21, b_22, b_23, b_24, b_25, b_26, b_27, trivial⟩
theorem cB : (allB G fn P && (ndB P && G.all (gB fn P))) = true := by decide +kernel
end LW
set_option Elab.async false
set_option linter.all false
set_option maxRecDepth 100000
set_option maxHeartbeats 4000000
namespace LW
open PySem KF
open PySem.W (minD maxD)
theorem chk18 : Chk P := ⟨rfl, rfl, rfl⟩
theorem alk18 : AlkK P := ⟨rfl, rfl, rfl, rfl⟩
theorem bst18 : BestK P := ⟨rfl, rfl, rfl⟩
def b18b : K := .sq (.sto 11 (.lst (.nil))) (.sq (.frz 6) (.sq (.fr (.tn 9) (.seq (.varV 6)) (b_law18_3)) (.sq (.frz 3) (.sq (.frz 4) (.ret (.cmp (.eq) (.fn 192 (.cons (.varV 3) (.cons (.varV 4) (.cons (.varV 5) (.cons (.varV 2) (.nil)))))) (.var 11)))))))
def b18a : K := .sq (.par2 3 4 (.bin (.add) (.int 1) (.fn 12 (.cons (.varV 1) (.cons (.int 6) (.nil))))) (.bin (.add) (.int 1) (.fn 12 (.cons (.varV 1) (.cons (.int 3) (.nil)))))) (.sq (.par2 5 6 (.fn 12 (.cons (.varV 1) (.cons (.ix (.lst (.cons (.int 7) (.cons (.int 21) (.nil)))) (.fn 12 (.cons (.varV 1) (.cons (.int 2) (.nil))))) (.nil)))) (.lst (.cons (.tup (.nil)) (.nil)))) (.sq (.fr (.tn 7) (.rng1 (.cons (.var 3) (.nil))) (b_law18_2)) (b18b)))
def r18d : K := .sq (.asg (.tn 12) (.ix (.bi (.min1) (.cons (.var 14) (.nil))) (.int 0))) (.sq (.frz 14) (.sq (.sto 11 (.lc [5, 15] (.tt 2 (.cons (.tn 5) (.cons (.tn 15) (.nil)))) (.seq (.varV 14)) (t_law18_2) (.varV 15))) (.sq (.frz 11) (.ret (.cmp (.eq) (.fn 191 (.cons (.bi (.tup) (.cons (.var 13) (.nil))) (.cons (.varV 2) (.nil)))) (.tup (.cons (.varV 12) (.cons (.varV 11) (.nil)))))))))
def r18c : K := .sq (.ite (.cmp (.eq) (.var 14) (.lst (.nil))) (.ret (.cmp (.isN) (.fn 191 (.cons (.bi (.tup) (.cons (.var 13) (.nil))) (.cons (.varV 2) (.nil)))) (.non))) (.skip)) (r18d)
def r18b : K := .sq (.sto 14 (.lst (.nil))) (.sq (.fr (.tn 15) (.seq (.sset (.lc [9] (.tn 9) (.seq (.fn 84 (.cons (.bi (.tup) (.cons (.var 13) (.nil))) (.nil)))) (.yes) (e_law18_3)))) (b_law18_5)) (r18c))
def r18a : K := .sq (.sto 13 (.lc [7] (.tn 7) (.rng1 (.cons (.bin (.add) (.int 1) (.fn 12 (.cons (.varV 1) (.cons (.int 4) (.nil))))) (.nil))) (.yes) (e_law18_2))) (.sq (.ite (.cmp (.eq) (.bi (.sum) (.cons (.var 13) (.nil))) (.int 0)) (.put 13 (.int 0) (.bin (.add) (.int 1) (.fn 12 (.cons (.varV 1) (.cons (.int 3) (.nil)))))) (.skip)) (.sq (.whl (t_law18_1) (b_law18_4)) (r18b)))
def d18 (B R : K) : DefK := ⟨["_law_script"], ["_law_script", "_law_h", "_law_aim", "_law_keys", "_law_shapes", "_law_many", "_law_rows_here", "_law_k", "_law_longer", "_law_row", "_law_x", "_law_due", "_law_least", "_law_counts", "_law_told", "_law_ring_here"], [3, 4, 6, 8, 11, 13, 14], .sq (.asg (.tn 1) (.fn 11 (.cons (.varV 0) (.cons (.int 18) (.nil))))) (.sq (.asg (.tn 2) (.ix (.lst (.cons (.str "key") (.cons (.str "hold") (.nil)))) (.fn 12 (.cons (.varV 1) (.cons (.int 2) (.nil)))))) (.sq (.ite (.cmp (.eq) (.fn 12 (.cons (.varV 1) (.cons (.int 3) (.nil)))) (.int 0)) B (.skip)) (R)))⟩
theorem p18_eq : p_law18 = d18 b18a r18a := by
  unfold p_law18
  rfl
theorem filt_lt2 (a : Bool) (many : Int) (k s : Nat) : (rowsN s k).filter (lt2 a many) = (ringsW k s []).filter (tm a many) := by
  unfold ringsW
  rw [List.filter_filter]
  congr 1
  funext r
  simp [lt2, okW, Bool.and_comm]
theorem eqvAll_tI' : ∀ xs : List (List Int), PyData.eqvAll (xs.map tI) (xs.map tI) = true
  | [] => by simp [PyData.eqvAll]
  | x :: r => by simp [PyData.eqvAll, eqv_tI, eqvAll_tI' r]
theorem eqv_tIs (xs : List (List Int)) : PyData.eqv (.list (xs.map tI)) (.list (xs.map tI)) = true := by
  simp only [PyData.eqv]
  exact eqvAll_tI' xs
theorem shal_tIs' (xs : List (List Int)) (n : Nat) : shal (n + 2) (.list (xs.map tI)) = true := shal_L fun d hd => by
  obtain ⟨y, _, e⟩ := List.mem_map.mp hd
  rw [← e]; exact shal_tI y n
theorem b18b_ok {h : MH} {ns : List Int} {a : Bool} {k s : Nat} {many : Int} (k1 : 1 ≤ k) (k2 : k ≤ 6) (s1 : 1 ≤ s) (s2 : s ≤ 3) (m0 : 0 ≤ many) (m1 : many ≤ 20) {s6 s7 s8 s9 : Sl} (e6 : s6 = .o ((rowsN s k).map tI) ∨ s6 = .v (.py (.list ((rowsN s k).map tI)))) :
    ∃ h', (ev (runF P 99) b18b).S [.v (.scr ns), .v (.loc 1), .v (AimD a), .v (.py (.int (k : Nat))), .v (.py (.int (s : Nat))), .v (.py (.int many)), s6, s7, s8, s9, .u, .u, .u, .u, .u, .u] h = .rt (.py (.bool true)) h' := by
  have rl := rowsN_len s (by omega) k (by omega)
  obtain ⟨t9, t12, j, L⟩ := due18 (F := runF P 99) (a := a) (many := many) (a0 := .v (.scr ns)) (a1 := .v (.loc 1)) (a3 := .v (.py (.int (k : Nat)))) (a4 := .v (.py (.int (s : Nat)))) (a6 := .v (.py (.list ((rowsN s k).map tI)))) (a7 := s7) (a8 := s8) (rowsN s k) [] s9 .u h (by simp; omega) (fun r hr => by
    have hm := (rowsN_mem hr).1
    exact ⟨by omega, fun h => ⟨turned_ok (P := P) rfl 98 h r (by omega), toldby2_ok (P := P) rfl rfl rfl rfl 97 h r (by omega) (by omega) a⟩⟩)
  rw [List.nil_append, filt_lt2] at L
  obtain ⟨j2, e192⟩ := toldrings_ok (P := P) chk18 alk18 bst18 rfl rfl rfl rfl rfl 93 (h ++ j) k s many a k1 k2 s1 s2 m0 m1
  have e192 : runF P 99 192 [.py (.int (k : Nat)), .py (.int (s : Nat)), .py (.int many), AimD a] (h ++ j) = _ := e192
  have L : forF (ev (runF P 99) (.tn 9)).G (ev (runF P 99) b_law18_3).S ((rowsN s k).map (D.py ∘ tI)) [.v (.scr ns), .v (.loc 1), .v (AimD a), .v (.py (.int (k : Nat))), .v (.py (.int (s : Nat))), .v (.py (.int many)), .v (.py (.list ((rowsN s k).map tI))), s7, s8, s9, .u, .o [], .u, .u, .u, .u] h = _ := L
  refine ⟨h ++ j ++ j2, ?_⟩
  have q1 := eqv_tIs ((ringsW k s []).filter (tm a many))
  have q2 := shal_tIs' ((ringsW k s []).filter (tm a many)) 62
  generalize ((ringsW k s []).filter (tm a many)) = Z at *
  generalize rowsN s k = G at *
  rcases e6 with e6 | e6 <;> subst e6 <;> simp [callD, startE, look, lookV, Sl.get, Sl.getV, frzE, stoE, binF, addO, catL, iop, gAdd, gSub, gMul, gDiv, gMod, gPow, KF.listOf, ixU, dctAt, inUD, ninUD, inK, putU, ixO, ixD, L2.atI, L2.ixN, negD, truD, cmpF, icmp, isND, notND, isN, biF, fLen, lenD, fInt, fMax2, fMin2, fAbs, fTup, fLst, allPy, mkTup, mkLst, asI, revT, isiD, tyD, isTy, putO, putL, augF, promO, wipeE, itU, b18b, L, e192, eqD, q1, q2]
theorem b18a_ok {h : MH} (hs : HS h) {ns : List Int} {a : Bool} : ∃ h', (ev (runF P 99) b18a).S [.v (.scr ns), .v (.loc 1), .v (AimD a), .u, .u, .u, .u, .u, .u, .u, .u, .u, .u, .u, .u, .u] h = .rt (.py (.bool true)) h' := by
  obtain ⟨v1, h1, d1, a1, b1, hs1, _⟩ := next_ok (P := P) rfl 98 (b := 6) hs (by omega) (by omega)
  obtain ⟨v2, h2, d2, a2, b2, hs2, _⟩ := next_ok (P := P) rfl 98 (b := 3) hs1 (by omega) (by omega)
  obtain ⟨k, ek⟩ : ∃ k : Nat, 1 + v1 = k := ⟨(1 + v1).toNat, (Int.toNat_of_nonneg (by omega)).symm⟩
  obtain ⟨s, es⟩ : ∃ s : Nat, 1 + v2 = s := ⟨(1 + v2).toNat, (Int.toNat_of_nonneg (by omega)).symm⟩
  obtain ⟨v3, h3, d3, a3, b3, hs3, _⟩ := next_ok (P := P) rfl 98 (b := 2) hs2 (by omega) (by omega)
  obtain ⟨w, hw1, hw3⟩ : ∃ w : Int, (w = 7 ∨ w = 21) ∧ ∀ pf, [PyData.int 7, .int 21][v3.toNat]'pf = .int w := by
    have : v3.toNat = 0 ∨ v3.toNat = 1 := by omega
    rcases this with z | z
    · exact ⟨7, .inl rfl, fun pf => by simp only [z]; rfl⟩
    · exact ⟨21, .inr rfl, fun pf => by simp only [z]; rfl⟩
  obtain ⟨many, h4, d4, a4, b4, hs4, _⟩ := next_ok (P := P) rfl 98 (b := w) hs3 (by omega) (by omega)
  obtain ⟨s6, s7, s8, s9, L, e6, _⟩ := rows_law18 (F := runF P 99) (h := h4) (k := k) (s := s) (by omega) (by omega) (a0 := .v (.scr ns)) (a1 := .v (.loc 1)) (a2 := .v (AimD a)) (a5 := .v (.py (.int many)))
  obtain ⟨h', e⟩ := b18b_ok (h := h4) (ns := ns) (a := a) (k := k) (s := s) (many := many) (by omega) (by omega) (by omega) (by omega) a4 (by omega) (s7 := s7) (s8 := s8) (s9 := s9) e6
  have zr : rng1 [.py (.int (k : Nat))] = some (rngL 0 k) := rng1_nat k (by omega)
  have v3l : v3 < (2 : Int) := b3
  refine ⟨h', ?_⟩
  unfold b18a
  generalize b18b = R at e ⊢
  simp [callD, startE, look, lookV, Sl.get, Sl.getV, frzE, stoE, binF, addO, catL, iop, gAdd, gSub, gMul, gDiv, gMod, gPow, KF.listOf, ixU, dctAt, inUD, ninUD, inK, putU, ixO, ixD, L2.atI, L2.ixN, negD, truD, cmpF, icmp, isND, notND, isN, biF, fLen, lenD, fInt, fMax2, fMin2, fAbs, fTup, fLst, allPy, mkTup, mkLst, asI, revT, isiD, tyD, isTy, putO, putL, augF, promO, wipeE, itU, d1, d2, ek, es, d3, a3, v3l, hw3, d4, zr, L, e]
theorem told18 {F : FnS} {ns : List Int} {a : Bool} {cs : List Nat} : ∀ (rs : List (List Int)) (acc : List (Nat × List Int)) (s12 s15 : Sl) (h : MH), acc.length + rs.length ≤ 1000 → (∀ r ∈ rs, ∀ h, ∃ j, F 193 [TI r, AimD a] h = .ok (.py (optI (leastM r a))) (h ++ j)) →
    ∃ s12' s15' j, (∀ xs, s15 ≠ .o xs → s15' ≠ .o xs) ∧ forF (ev F (.tn 15)).G (ev F b_law18_5).S (rs.map (D.py ∘ tI)) [.v (.scr ns), .v (.loc 1), .v (AimD a), .u, .u, .u, .u, .u, .u, .u, .u, .u, s12, .o (nL cs), .o (acc.map mP), s15] h = .nx [.v (.scr ns), .v (.loc 1), .v (AimD a), .u, .u, .u, .u, .u, .u, .u, .u, .u, s12', .o (nL cs), .o ((acc ++ toldL a rs).map mP), s15'] (h ++ j)
  | [], acc, s12, s15, h, _, _ => ⟨s12, s15, [], fun xs z => z, by simp [forF, toldL]⟩
  | r :: rs, acc, s12, s15, h, hn, hf => by
    obtain ⟨j1, e1⟩ := hf r List.mem_cons_self h
    have e1 : F 193 [.py (tI r), AimD a] h = .ok (.py (optI (leastM r a))) (h ++ j1) := e1
    simp only [List.length_cons] at hn
    have f1 : fits (acc.length + 1) = true := fits_small (by omega)
    have f0 : fits acc.length = true := fits_small (by omega)
    have step : ∃ s12', (ev F b_law18_5).S [.v (.scr ns), .v (.loc 1), .v (AimD a), .u, .u, .u, .u, .u, .u, .u, .u, .u, s12, .o (nL cs), .o (acc.map mP), .v (.py (tI r))] h = .nx [.v (.scr ns), .v (.loc 1), .v (AimD a), .u, .u, .u, .u, .u, .u, .u, .u, .u, s12', .o (nL cs), .o ((acc ++ toldL a [r]).map mP), .v (.py (tI r))] (h ++ j1) := by
      cases q : leastM r a with
      | none =>
        rw [q] at e1
        exact ⟨.v (.py .none), by simp [callD, startE, look, lookV, Sl.get, Sl.getV, frzE, stoE, binF, addO, catL, iop, gAdd, gSub, gMul, gDiv, gMod, gPow, KF.listOf, ixU, dctAt, inUD, ninUD, inK, putU, ixO, ixD, L2.atI, L2.ixN, negD, truD, cmpF, icmp, isND, notND, isN, biF, fLen, lenD, fInt, fMax2, fMin2, fAbs, fTup, fLst, allPy, mkTup, mkLst, asI, revT, isiD, tyD, isTy, putO, putL, augF, promO, wipeE, itU, b_law18_5, e1, optI, toldL, q, f0]⟩
      | some m =>
        rw [q] at e1
        exact ⟨.v (.py (.int (m : Nat))), by simp [callD, startE, look, lookV, Sl.get, Sl.getV, frzE, stoE, binF, addO, catL, iop, gAdd, gSub, gMul, gDiv, gMod, gPow, KF.listOf, ixU, dctAt, inUD, ninUD, inK, putU, ixO, ixD, L2.atI, L2.ixN, negD, truD, cmpF, icmp, isND, notND, isN, biF, fLen, lenD, fInt, fMax2, fMin2, fAbs, fTup, fLst, allPy, mkTup, mkLst, asI, revT, isiD, tyD, isTy, putO, putL, augF, promO, wipeE, itU, b_law18_5, e1, optI, toldL, q, f1, mP]⟩
    obtain ⟨s12', step⟩ := step
    have tl := toldL_len a [r]
    obtain ⟨t12, t15, j2, no, ih⟩ := told18 (F := F) (ns := ns) (a := a) (cs := cs) rs (acc ++ toldL a [r]) s12' (.v (.py (tI r))) (h ++ j1) (by
      rw [List.length_append]
      simp only [List.length_singleton] at tl
      omega) fun q hq => hf q (List.mem_cons_of_mem _ hq)
    refine ⟨t12, t15, j1 ++ j2, fun xs _ => no xs (by intro z; cases z), ?_⟩
    rw [List.map_cons, forF_cons]
    show ((ev F b_law18_5).S [.v (.scr ns), .v (.loc 1), .v (AimD a), .u, .u, .u, .u, .u, .u, .u, .u, .u, s12, .o (nL cs), .o (acc.map mP), .v (.py (tI r))] h).thn _ = _
    rw [step]
    show forF _ _ _ _ (h ++ j1) = _
    have ea : toldL a (r :: rs) = toldL a [r] ++ toldL a rs := by
      unfold toldL
      rw [← List.filterMap_append]
      rfl
    rw [ih, List.append_assoc, ← ea, List.append_assoc]
theorem pow_small {l t : Nat} (hl : l ≤ 4) (ht : t ≤ 6) : l ^ t ≤ 90000 := by
  have h1 : l ^ t ≤ 4 ^ t := Nat.pow_le_pow_left hl t
  have h2 : 4 ^ t ≤ 4 ^ 6 := Nat.pow_le_pow_right (by omega) ht
  exact Nat.le_trans (Nat.le_trans h1 h2) (by decide)
structure Cs (cs : List Nat) : Prop where
  l1 : 1 ≤ cs.length
  l4 : cs.length ≤ 4
  s1 : 1 ≤ cs.sum
  s6 : cs.sum ≤ 6
  v3 : ∀ x ∈ cs, x ≤ 3
  few : (ringsC cs).length < 63
theorem best18 {cs : List Nat} (c : Cs cs) (a : Bool) (h : MH) : ∃ j, runF P 99 191 [.py (cT cs), AimD a] h = .ok (.py (bestR (toldL a (ringsC cs)))) (h ++ j) :=
  bestrings_ok (P := P) chk18 alk18 bst18 rfl rfl rfl rfl 93 h cs a c.l1 (by have := c.l4; omega) c.s1 (by have := c.s6; omega) (fun x hx => by have := c.v3 x hx; omega) (fun t ht => pow_small c.l4 (by have := c.s6; omega)) c.few
theorem eqvAll_mP : ∀ xs : List (Nat × List Int), PyData.eqvAll (xs.map mP) (xs.map mP) = true
  | [] => by simp [PyData.eqvAll]
  | x :: r => by simp [PyData.eqvAll, mP, PyData.eqv, eqv_tI, eqvAll_mP r]
theorem r18d_ok {h : MH} {ns : List Int} {a : Bool} {cs : List Nat} (c : Cs cs) {x : Nat × List Int} {xs : List (Nat × List Int)} (hT : toldL a (ringsC cs) = x :: xs) {s12 s15 : Sl} (no : ∀ xs, s15 ≠ .o xs) : ∃ h', (ev (runF P 99) r18d).S [.v (.scr ns), .v (.loc 1), .v (AimD a), .u, .u, .u, .u, .u, .u, .u, .u, .u, s12, .o (nL cs), .o ((x :: xs).map mP), s15] h = .rt (.py (.bool true)) h' := by
  obtain ⟨j, eb⟩ := best18 c a h
  have em := min_mP x xs h
  have tl := toldL_len a (ringsC cs)
  have few := c.few
  rw [hT] at eb tl
  have Lb := lcF_pureA (g := (ev (runF P 99) (.tt 2 (.cons (.tn 5) (.cons (.tn 15) (.nil))))).G) (ft := (ev (runF P 99) t_law18_2).T) (fe := (ev (runF P 99) (.varV 15)).E) (env := [.v (.scr ns), .v (.loc 1), .v (AimD a), .u, .u, .u, .u, .u, .u, .u, .u, .u, .v (.py (.int ((minT x xs).1 : Nat))), .o (nL cs), .v (.py (.list ((x :: xs).map mP))), .u]) (h := h) (D.py ∘ mP) (fun y => decide (y.1 = (minT x xs).1)) (fun y => tI y.2) (xs := x :: xs) (fun y hy => by
    refine ⟨[.v (.scr ns), .v (.loc 1), .v (AimD a), .u, .u, .v (.py (.int (y.1 : Nat))), .u, .u, .u, .u, .u, .u, .v (.py (.int ((minT x xs).1 : Nat))), .o (nL cs), .v (.py (.list ((x :: xs).map mP))), .v (.py (tI y.2))], by simp [callD, startE, look, lookV, Sl.get, Sl.getV, frzE, stoE, binF, addO, catL, iop, gAdd, gSub, gMul, gDiv, gMod, gPow, KF.listOf, ixU, dctAt, inUD, ninUD, inK, putU, ixO, ixD, L2.atI, L2.ixN, negD, truD, cmpF, icmp, isND, notND, isN, biF, fLen, lenD, fInt, fMax2, fMin2, fAbs, fTup, fLst, allPy, mkTup, mkLst, asI, revT, isiD, tyD, isTy, putO, putL, augF, promO, wipeE, itU, mP], ?_, fun _ => by simp [callD, startE, look, lookV, Sl.get, Sl.getV, frzE, stoE, binF, addO, catL, iop, gAdd, gSub, gMul, gDiv, gMod, gPow, KF.listOf, ixU, dctAt, inUD, ninUD, inK, putU, ixO, ixD, L2.atI, L2.ixN, negD, truD, cmpF, icmp, isND, notND, isN, biF, fLen, lenD, fInt, fMax2, fMin2, fAbs, fTup, fLst, allPy, mkTup, mkLst, asI, revT, isiD, tyD, isTy, putO, putL, augF, promO, wipeE, itU]⟩
    simp [callD, startE, look, lookV, Sl.get, Sl.getV, frzE, stoE, binF, addO, catL, iop, gAdd, gSub, gMul, gDiv, gMod, gPow, KF.listOf, ixU, dctAt, inUD, ninUD, inK, putU, ixO, ixD, L2.atI, L2.ixN, negD, truD, cmpF, icmp, isND, notND, isN, biF, fLen, lenD, fInt, fMax2, fMin2, fAbs, fTup, fLst, allPy, mkTup, mkLst, asI, revT, isiD, tyD, isTy, putO, putL, augF, promO, wipeE, itU, t_law18_2, eqD, shal_int, eqv_ii]
    omega)
  have f3 : fits ((x :: xs).filter fun y => decide (y.1 = (minT x xs).1)).length = true := fits_small (by
    have := List.length_filter_le (fun y => decide (y.1 = (minT x xs).1)) (x :: xs)
    omega)
  have eb2 : bestR (x :: xs) = .tuple [.int ((minT x xs).1 : Nat), .list (((x :: xs).filter fun y => decide (y.1 = (minT x xs).1)).map fun y => tI y.2)] := rfl
  rw [eb2] at eb
  have em2 : ((x :: xs).filter fun y => decide (y.1 = (minT x xs).1)).map (fun y => tI y.2) = (((x :: xs).filter fun y => decide (y.1 = (minT x xs).1)).map (·.2)).map tI := by rw [List.map_map]; rfl
  have q1 := eqv_tIs (((x :: xs).filter fun y => decide (y.1 = (minT x xs).1)).map (·.2))
  have q2 := shal_tIs' (((x :: xs).filter fun y => decide (y.1 = (minT x xs).1)).map (·.2)) 61
  rw [← em2] at q1 q2
  generalize (x :: xs).filter (fun y => decide (y.1 = (minT x xs).1)) = Z at *
  generalize minT x xs = mm at *
  have mm0 : mP mm = .tuple [.int (mm.1 : Nat), tI mm.2] := rfl
  rw [mm0] at em
  rw [List.map_cons] at em Lb ⊢
  rw [List.map_cons] at Lb
  simp only [Function.comp_apply] at Lb
  have f9 : fits 2 = true := rfl
  have f3 : fits (Z.map fun y => tI y.2).length = true := by simpa using f3
  generalize Z.map (fun y => tI y.2) = ZZ at *
  have q3 : shal 64 (.tuple [.int (mm.1 : Nat), .list ZZ]) = true := by
    show ([PyData.int (mm.1 : Nat), .list ZZ].all (shal 63)) = true
    simp only [List.all_cons, List.all_nil, shal_int, q2, Bool.and_self]
  have q4 : PyData.eqv (.tuple [.int (mm.1 : Nat), .list ZZ]) (.tuple [.int (mm.1 : Nat), .list ZZ]) = true := by
    simp only [PyData.eqv, PyData.eqvAll] at q1 ⊢
    simp [q1]
  have eb : runF P 99 191 [.py (.tuple (nL cs)), AimD a] h = _ := eb
  refine ⟨h ++ j, ?_⟩
  generalize nL cs = N at *
  cases s15 with
  | o xs => exact absurd rfl (no xs)
  | u => simp [callD, startE, look, lookV, Sl.get, Sl.getV, frzE, stoE, binF, addO, catL, iop, gAdd, gSub, gMul, gDiv, gMod, gPow, KF.listOf, ixU, dctAt, inUD, ninUD, inK, putU, ixO, ixD, L2.atI, L2.ixN, negD, truD, cmpF, icmp, isND, notND, isN, biF, fLen, lenD, fInt, fMax2, fMin2, fAbs, fTup, fLst, allPy, mkTup, mkLst, asI, revT, isiD, tyD, isTy, putO, putL, augF, promO, wipeE, itU, r18d, em, Lb, mkL, f3, f9, eb, eqD, q3, q4]
  | v d => simp [callD, startE, look, lookV, Sl.get, Sl.getV, frzE, stoE, binF, addO, catL, iop, gAdd, gSub, gMul, gDiv, gMod, gPow, KF.listOf, ixU, dctAt, inUD, ninUD, inK, putU, ixO, ixD, L2.atI, L2.ixN, negD, truD, cmpF, icmp, isND, notND, isN, biF, fLen, lenD, fInt, fMax2, fMin2, fAbs, fTup, fLst, allPy, mkTup, mkLst, asI, revT, isiD, tyD, isTy, putO, putL, augF, promO, wipeE, itU, r18d, em, Lb, mkL, f3, f9, eb, eqD, q3, q4]
theorem r18c_ok {h : MH} {ns : List Int} {a : Bool} {cs : List Nat} (c : Cs cs) {s12 s15 : Sl} (no : ∀ xs, s15 ≠ .o xs) : ∃ h', (ev (runF P 99) r18c).S [.v (.scr ns), .v (.loc 1), .v (AimD a), .u, .u, .u, .u, .u, .u, .u, .u, .u, s12, .o (nL cs), .o ((toldL a (ringsC cs)).map mP), s15] h = .rt (.py (.bool true)) h' := by
  obtain ⟨j, eb⟩ := best18 c a h
  have eb : runF P 99 191 [.py (.tuple (nL cs)), AimD a] h = _ := eb
  cases hT : toldL a (ringsC cs) with
  | nil =>
    rw [hT] at eb
    have eb : runF P 99 191 [.py (.tuple (nL cs)), AimD a] h = .ok (.py .none) (h ++ j) := eb
    refine ⟨h ++ j, ?_⟩
    unfold r18c
    generalize r18d = R
    generalize nL cs = N at *
    simp [callD, startE, look, lookV, Sl.get, Sl.getV, frzE, stoE, binF, addO, catL, iop, gAdd, gSub, gMul, gDiv, gMod, gPow, KF.listOf, ixU, dctAt, inUD, ninUD, inK, putU, ixO, ixD, L2.atI, L2.ixN, negD, truD, cmpF, icmp, isND, notND, isN, biF, fLen, lenD, fInt, fMax2, fMin2, fAbs, fTup, fLst, allPy, mkTup, mkLst, asI, revT, isiD, tyD, isTy, putO, putL, augF, promO, wipeE, itU, eqD, shal, PyData.eqv, PyData.eqvAll, eb]
  | cons x xs =>
    obtain ⟨h', e⟩ := r18d_ok (h := h) (ns := ns) (a := a) c hT (s12 := s12) (s15 := s15) no
    refine ⟨h', ?_⟩
    have sh : shal 64 (.list ((x :: xs).map mP)) = true := shal_L fun d hd => by
      obtain ⟨y, _, e⟩ := List.mem_map.mp hd
      rw [← e]; exact shal_mP y 61
    have ev0 : PyData.eqv (.list ((x :: xs).map mP)) (.list []) = false := by simp [PyData.eqv, PyData.eqvAll]
    unfold r18c
    generalize r18d = R at e ⊢
    generalize nL cs = N at *
    generalize (x :: xs).map mP = M at *
    simp [callD, startE, look, lookV, Sl.get, Sl.getV, frzE, stoE, binF, addO, catL, iop, gAdd, gSub, gMul, gDiv, gMod, gPow, KF.listOf, ixU, dctAt, inUD, ninUD, inK, putU, ixO, ixD, L2.atI, L2.ixN, negD, truD, cmpF, icmp, isND, notND, isN, biF, fLen, lenD, fInt, fMax2, fMin2, fAbs, fTup, fLst, allPy, mkTup, mkLst, asI, revT, isiD, tyD, isTy, putO, putL, augF, promO, wipeE, itU, eqD, sh, ev0, e]
theorem r18b_ok {h : MH} {ns : List Int} {a : Bool} {cs : List Nat} (c : Cs cs) : ∃ h', (ev (runF P 99) r18b).S (env18 ns a cs) h = .rt (.py (.bool true)) h' := by
  have hs6 := c.s6
  have hs1 := c.s1
  have e84 : runF P 99 84 [.py (cT cs)] h = .ok (.py (.list ((rowsF cs.sum cs).map cT))) h := by
    have := lawrows_ok (P := P) rfl cs.sum (98 - cs.sum) h cs rfl (by have := c.l4; omega) (fun u hu => pow_small c.l4 (by omega)) (by omega)
    rw [show 98 - cs.sum + cs.sum + 1 = 99 by omega] at this
    exact this
  have L := lcF_pureA (g := (ev (runF P 99) (.tn 9)).G) (ft := (ev (runF P 99) .yes).T) (fe := (ev (runF P 99) e_law18_3).E) (env := [.v (.scr ns), .v (.loc 1), .v (AimD a), .u, .u, .u, .u, .u, .u, .u, .u, .u, .u, .o (nL cs), .o [], .u]) (h := h) (D.py ∘ cT) (fun _ => true) (fun row => tI (leastR (zI row))) (xs := rowsF cs.sum cs) (fun row hr => by
    refine ⟨[.v (.scr ns), .v (.loc 1), .v (AimD a), .u, .u, .u, .u, .u, .u, .v (.py (cT row)), .u, .u, .u, .o (nL cs), .o [], .u], rfl, rfl, fun _ => ?_⟩
    have hl := (rowsF_mem hr).1
    have hr1 : 1 ≤ (zI row).length := by rw [zI_len]; omega
    have e : runF P 99 83 [.py (tI (zI row))] h = .ok (.py (.list ((turnL (zI row)).map tI))) h := turned_ok (P := P) rfl 98 h (zI row) (by rw [zI_len]; omega)
    rw [← cT_tI] at e
    obtain ⟨x, xs, ex⟩ := turn_ne hr1
    have em := min_tI x xs h
    rw [least_turn ex hr1] at em
    rw [ex] at e
    rw [List.map_cons] at em e
    have em : fMm minD h [.py (.list (tI x :: xs.map tI))] = some (.py (tI (leastR (zI row)))) := em
    simp [callD, startE, look, lookV, Sl.get, Sl.getV, frzE, stoE, binF, addO, catL, iop, gAdd, gSub, gMul, gDiv, gMod, gPow, KF.listOf, ixU, dctAt, inUD, ninUD, inK, putU, ixO, ixD, L2.atI, L2.ixN, negD, truD, cmpF, icmp, isND, notND, isN, biF, fLen, lenD, fInt, fMax2, fMin2, fAbs, fTup, fLst, allPy, mkTup, mkLst, asI, revT, isiD, tyD, isTy, putO, putL, augF, promO, wipeE, itU, e_law18_3, e, em])
  rw [filter_true] at L
  have em : (rowsF cs.sum cs).map (fun row => tI (leastR (zI row))) = (leastsC cs).map tI := by unfold leastsC; rw [List.map_map]; rfl
  rw [em] at L
  have hb := pow_small (l := cs.length) (t := cs.sum) c.l4 hs6
  have rl := rowsF_len cs.sum cs
  have f1 : fits (leastsC cs).length = true := fits_small (by unfold leastsC; rw [List.length_map]; omega)
  have ss := ss_leasts h hs1 c.few
  have few := c.few
  obtain ⟨s12, s15, j, no, Lt⟩ := told18 (F := runF P 99) (ns := ns) (a := a) (cs := cs) (ringsC cs) [] .u .u h (by simp; omega) (fun r hr h => by
    have hm := leastsC_mem hs1 ((ssU_mem lin_Is).mp hr)
    exact toldby2_ok (P := P) rfl rfl rfl rfl 97 h r (by omega) (by omega) a)
  rw [List.nil_append] at Lt
  have Lt : forF (ev (runF P 99) (.tn 15)).G (ev (runF P 99) b_law18_5).S ((ringsC cs).map (D.py ∘ tI)) [.v (.scr ns), .v (.loc 1), .v (AimD a), .u, .u, .u, .u, .u, .u, .u, .u, .u, .u, .o (nL cs), .o [], .u] h = _ := Lt
  obtain ⟨h', e⟩ := r18c_ok (h := h ++ j) (ns := ns) (a := a) c (s12 := s12) (s15 := s15) (fun xs => no xs (by intro z; cases z))
  refine ⟨h', ?_⟩
  have e84 : runF P 99 84 [.py (.tuple (nL cs))] h = .ok (.py (.list ((rowsF cs.sum cs).map cT))) h := e84
  unfold r18b env18
  generalize r18c = R at e ⊢
  generalize leastsC cs = LL at *
  generalize toldL a (ringsC cs) = TT at *
  generalize ringsC cs = RR at *
  generalize rowsF cs.sum cs = R0 at *
  generalize nL cs = N at *
  simp [callD, startE, look, lookV, Sl.get, Sl.getV, frzE, stoE, binF, addO, catL, iop, gAdd, gSub, gMul, gDiv, gMod, gPow, KF.listOf, ixU, dctAt, inUD, ninUD, inK, putU, ixO, ixD, L2.atI, L2.ixN, negD, truD, cmpF, icmp, isND, notND, isN, biF, fLen, lenD, fInt, fMax2, fMin2, fAbs, fTup, fLst, allPy, mkTup, mkLst, asI, revT, isiD, tyD, isTy, putO, putL, augF, promO, wipeE, itU, e84, L, mkL, f1, ss, Lt, e]
end LW
set_option Elab.async false
set_option linter.all false
set_option maxRecDepth 100000
set_option maxHeartbeats 4000000
namespace LW
open PySem KF
open PySem.W (minD maxD)
theorem iL_nL {ys : List Int} (h : ∀ y ∈ ys, 0 ≤ y) : iL ys = nL (ys.map Int.toNat) := by
  unfold iL nL
  rw [List.map_map]
  apply List.map_congr_left
  intro y hy
  have := Int.toNat_of_nonneg (h y hy)
  simp [this]
theorem sum_zero : ∀ {cs : List Nat}, cs.sum = 0 → ∀ x ∈ cs, x = 0
  | [], _, x, hx => by cases hx
  | c :: r, h, x, hx => by
    simp at h
    rcases List.mem_cons.mp hx with e | e
    · rw [e]; exact h.1
    · exact sum_zero h.2 x e
theorem w18 {F : FnS} {ns : List Int} {a : Bool} {h : MH} {cs : List Nat} (hl : cs.length ≤ 4) (h1 : 1 ≤ cs.sum) (h8 : cs.sum ≤ 100) : ∃ cs', whileF (ev F t_law18_1).T (ev F b_law18_4).S turns (env18 ns a cs) h = .nx (env18 ns a cs') h ∧ cs'.length = cs.length ∧ 1 ≤ cs'.sum ∧ cs'.sum ≤ 6 ∧ cs'.sum ≤ cs.sum ∧ ∀ b, (∀ x ∈ cs, x ≤ b) → ∀ x ∈ cs', x ≤ b :=
  while18 94 turns cs hl h1 (by omega) (by decide)
theorem sum_le : ∀ (cs : List Nat) (b : Nat), (∀ x ∈ cs, x ≤ b) → cs.sum ≤ cs.length * b
  | [], b, _ => by simp
  | c :: r, b, h => by
    have := h c List.mem_cons_self
    have := sum_le r b fun x hx => h x (List.mem_cons_of_mem _ hx)
    rw [List.sum_cons, List.length_cons, Nat.add_mul]
    omega
theorem r18a_ok {h : MH} (hs : HS h) {ns : List Int} {a : Bool} : ∃ h', (ev (runF P 99) r18a).S [.v (.scr ns), .v (.loc 1), .v (AimD a), .u, .u, .u, .u, .u, .u, .u, .u, .u, .u, .u, .u, .u] h = .rt (.py (.bool true)) h' := by
  obtain ⟨v1, h1, d1, a1, b1, hs1, _⟩ := next_ok (P := P) rfl 98 (b := 4) hs (by omega) (by omega)
  obtain ⟨m, em⟩ : ∃ m : Nat, 1 + v1 = m := ⟨(1 + v1).toNat, (Int.toNat_of_nonneg (by omega)).symm⟩
  obtain ⟨ys, h2, L, ly, qy, hs2, _⟩ := lcF_draw (g := (ev (runF P 99) (.tn 7)).G) (ft := (ev (runF P 99) .yes).T) (fe := (ev (runF P 99) e_law18_2).E) (env := [.v (.scr ns), .v (.loc 1), .v (AimD a), .u, .u, .u, .u, .u, .u, .u, .u, .u, .u, .u, .u, .u]) (Q := fun x => 0 ≤ x ∧ x < 3) (fun x h hs => by
    obtain ⟨v, h', d, a', b, hs', re⟩ := next_ok (P := P) rfl 98 (b := 3) hs (by omega) (by omega)
    refine ⟨[.v (.scr ns), .v (.loc 1), .v (AimD a), .u, .u, .u, .u, .v x, .u, .u, .u, .u, .u, .u, .u, .u], v, h', rfl, rfl, ?_, ⟨a', b⟩, hs', re⟩
    simp [callD, startE, look, lookV, Sl.get, Sl.getV, frzE, stoE, binF, addO, catL, iop, gAdd, gSub, gMul, gDiv, gMod, gPow, KF.listOf, ixU, dctAt, inUD, ninUD, inK, putU, ixO, ixD, L2.atI, L2.ixN, negD, truD, cmpF, icmp, isND, notND, isN, biF, fLen, lenD, fInt, fMax2, fMin2, fAbs, fTup, fLst, allPy, mkTup, mkLst, asI, revT, isiD, tyD, isTy, putO, putL, augF, promO, wipeE, itU, e_law18_2, d]) (rngL 0 m) h1 hs1
  rw [rngL_len] at ly
  have zr : rng1 [.py (.int (m : Nat))] = some (rngL 0 m) := rng1_nat m (by omega)
  rw [iL_nL fun y hy => (qy y hy).1] at L
  have lc : (ys.map Int.toNat).length = m := by simpa using ly
  have vc : ∀ x ∈ ys.map Int.toNat, x ≤ 2 := fun x hx => by
    obtain ⟨y, hy, rfl⟩ := List.mem_map.mp hx
    have := qy y hy
    omega
  generalize ys.map Int.toNat = cs at *
  have f1 : fits (nL cs).length = true := fits_small (by rw [nL_len]; omega)
  have es := sum_nL h2 cs
  by_cases c : cs.sum = 0
  · obtain ⟨v2, h3, d3, a3, b3, hs3, _⟩ := next_ok (P := P) rfl 98 (b := 3) hs2 (by omega) (by omega)
    obtain ⟨g, eg⟩ : ∃ g : Nat, 1 + v2 = g := ⟨(1 + v2).toNat, (Int.toNat_of_nonneg (by omega)).symm⟩
    have hp : 0 < cs.length := by omega
    have z0 : cs.getD 0 0 = 0 := by
      rw [← getN cs hp hp]
      exact sum_zero c _ (List.getElem_mem hp)
    have ss := set_sum cs 0 g hp
    have sl : (cs.set 0 g).length = m := by simp [lc]
    have sv : ∀ x ∈ cs.set 0 g, x ≤ 3 := fun x hx => by
      rcases List.mem_or_eq_of_mem_set hx with z | z
      · have := vc x z; omega
      · omega
    obtain ⟨cs', w1, w2, w3, w4, w5, w6⟩ := w18 (F := runF P 99) (ns := ns) (a := a) (h := h3) (cs := cs.set 0 g) (by omega) (by omega) (by omega)
    have hC : Cs cs' := ⟨by omega, by omega, w3, w4, w6 3 sv, few_ok (by omega) (by omega) (w6 3 sv) (.inr (by omega)) w3 w4⟩
    obtain ⟨h', e⟩ := r18b_ok (h := h3) (ns := ns) (a := a) hC
    refine ⟨h', ?_⟩
    rw [c] at es
    have es : fSum h2 [.py (.list (nL cs))] = some (.py (.int 0)) := es
    have en : (nL cs).set 0 (.int (g : Nat)) = nL (cs.set 0 g) := by simp [nL, List.map_set]
    have hn : 0 < (nL cs).length := by rw [nL_len]; exact hp
    have w1 : whileF (ev (runF P 99) t_law18_1).T (ev (runF P 99) b_law18_4).S turns [.v (.scr ns), .v (.loc 1), .v (AimD a), .u, .u, .u, .u, .u, .u, .u, .u, .u, .u, .o (nL (cs.set 0 g)), .u, .u] h3 = _ := w1
    unfold r18a
    generalize r18b = R at e ⊢
    generalize nL (cs.set 0 g) = N2 at *
    generalize nL cs = N at *
    generalize env18 ns a cs' = E at *
    simp [callD, startE, look, lookV, Sl.get, Sl.getV, frzE, stoE, binF, addO, catL, iop, gAdd, gSub, gMul, gDiv, gMod, gPow, KF.listOf, ixU, dctAt, inUD, ninUD, inK, putU, ixO, ixD, L2.atI, L2.ixN, negD, truD, cmpF, icmp, isND, notND, isN, biF, fLen, lenD, fInt, fMax2, fMin2, fAbs, fTup, fLst, allPy, mkTup, mkLst, asI, revT, isiD, tyD, isTy, putO, putL, augF, promO, wipeE, itU, d1, em, zr, L, mkL, f1, es, eqD, shal_int, eqv_ii, d3, eg, hn, en, w1, e]
  · obtain ⟨cs', w1, w2, w3, w4, w5, w6⟩ := w18 (F := runF P 99) (ns := ns) (a := a) (h := h2) (cs := cs) (by omega) (by omega) (by have := sum_le cs 2 vc; omega)
    have sv : ∀ x ∈ cs', x ≤ 2 := w6 2 vc
    have hC : Cs cs' := ⟨by omega, by omega, w3, w4, fun x hx => by have := sv x hx; omega, few_ok (by omega) (by omega) (fun x hx => by have := sv x hx; omega) (.inl sv) w3 w4⟩
    obtain ⟨h', e⟩ := r18b_ok (h := h2) (ns := ns) (a := a) hC
    refine ⟨h', ?_⟩
    have c' : ¬ ((cs.sum : Nat) : Int) = 0 := by omega
    have w1 : whileF (ev (runF P 99) t_law18_1).T (ev (runF P 99) b_law18_4).S turns [.v (.scr ns), .v (.loc 1), .v (AimD a), .u, .u, .u, .u, .u, .u, .u, .u, .u, .u, .o (nL cs), .u, .u] h2 = _ := w1
    unfold r18a
    generalize r18b = R at e ⊢
    generalize cs.sum = S at *
    generalize nL cs = N at *
    generalize env18 ns a cs' = E at *
    simp [callD, startE, look, lookV, Sl.get, Sl.getV, frzE, stoE, binF, addO, catL, iop, gAdd, gSub, gMul, gDiv, gMod, gPow, KF.listOf, ixU, dctAt, inUD, ninUD, inK, putU, ixO, ixD, L2.atI, L2.ixN, negD, truD, cmpF, icmp, isND, notND, isN, biF, fLen, lenD, fInt, fMax2, fMin2, fAbs, fTup, fLst, allPy, mkTup, mkLst, asI, revT, isiD, tyD, isTy, putO, putL, augF, promO, wipeE, itU, d1, em, zr, L, mkL, f1, es, eqD, shal_int, eqv_ii, c, c', w1, e]
theorem t18a {F : FnS} (B R : K) (ns : List Int) {h1 h2 h3 h' : MH} {v : Int} {a : Bool} (v0 : 0 ≤ v) (v1 : v < 2) (ha : ∀ pf, [PyData.str "key", .str "hold"][v.toNat]'pf = .str (aimS a)) (e1 : F 11 [.scr ns, .py (.int 18)] [] = .ok (.loc 1) h1) (d2 : F 12 [.loc 1, .py (.int 2)] h1 = .ok (.py (.int v)) h2) (d3 : F 12 [.loc 1, .py (.int 3)] h2 = .ok (.py (.int 0)) h3) (ew : (ev F B).S [.v (.scr ns), .v (.loc 1), .v (AimD a), .u, .u, .u, .u, .u, .u, .u, .u, .u, .u, .u, .u, .u] h3 = .rt (.py (.bool true)) h') :
    callD F (d18 B R) [.scr ns] [] = .ok (.py (.bool true)) h' := by
  simp [callD, startE, look, lookV, Sl.get, Sl.getV, frzE, stoE, binF, addO, catL, iop, gAdd, gSub, gMul, gDiv, gMod, gPow, KF.listOf, ixU, dctAt, inUD, ninUD, inK, putU, ixO, ixD, L2.atI, L2.ixN, negD, truD, cmpF, icmp, isND, notND, isN, biF, fLen, lenD, fInt, fMax2, fMin2, fAbs, fTup, fLst, allPy, mkTup, mkLst, asI, revT, isiD, tyD, isTy, putO, putL, augF, promO, wipeE, itU, d18, e1, d2, v0, v1, ha, d3, eqD, shal_int, eqv_ii, ew]
theorem t18b {F : FnS} (B R : K) (ns : List Int) {h1 h2 h3 h' : MH} {v u : Int} {a : Bool} (hu : u ≠ 0) (v0 : 0 ≤ v) (v1 : v < 2) (ha : ∀ pf, [PyData.str "key", .str "hold"][v.toNat]'pf = .str (aimS a)) (e1 : F 11 [.scr ns, .py (.int 18)] [] = .ok (.loc 1) h1) (d2 : F 12 [.loc 1, .py (.int 2)] h1 = .ok (.py (.int v)) h2) (d3 : F 12 [.loc 1, .py (.int 3)] h2 = .ok (.py (.int u)) h3) (ew : (ev F R).S [.v (.scr ns), .v (.loc 1), .v (AimD a), .u, .u, .u, .u, .u, .u, .u, .u, .u, .u, .u, .u, .u] h3 = .rt (.py (.bool true)) h') :
    callD F (d18 B R) [.scr ns] [] = .ok (.py (.bool true)) h' := by
  simp [callD, startE, look, lookV, Sl.get, Sl.getV, frzE, stoE, binF, addO, catL, iop, gAdd, gSub, gMul, gDiv, gMod, gPow, KF.listOf, ixU, dctAt, inUD, ninUD, inK, putU, ixO, ixD, L2.atI, L2.ixN, negD, truD, cmpF, icmp, isND, notND, isN, biF, fLen, lenD, fInt, fMax2, fMin2, fAbs, fTup, fLst, allPy, mkTup, mkLst, asI, revT, isiD, tyD, isTy, putO, putL, augF, promO, wipeE, itU, d18, e1, d2, v0, v1, ha, d3, eqD, shal_int, eqv_ii, hu, ew]
theorem run18 (ds : List D) (h : MH) : runF P 100 194 ds h = callD (runF P 99) (d18 b18a r18a) ds h := by
  rw [run_of (d := p_law18) rfl, p18_eq]
theorem math (ns : List Int) (hl : ns.length ≤ 63) : ∃ h', runF P 100 194 [.scr ns] [] = .ok (.py (.bool true)) h' := by
  rw [run18]
  obtain ⟨h1, e1, hs1, _⟩ := mix_ok (P := P) rfl 98 ns 18 hl
  obtain ⟨v, h2, d2, v0, v1, hs2, _⟩ := next_ok (P := P) rfl 98 (b := 2) hs1 (by omega) (by omega)
  obtain ⟨a, ha⟩ : ∃ a : Bool, ∀ pf, [PyData.str "key", .str "hold"][v.toNat]'pf = .str (aimS a) := by
    have : v.toNat = 0 ∨ v.toNat = 1 := by omega
    rcases this with z | z
    · exact ⟨false, fun pf => by simp only [z]; rfl⟩
    · exact ⟨true, fun pf => by simp only [z]; rfl⟩
  obtain ⟨u, h3, d3, _, _, hs3, _⟩ := next_ok (P := P) rfl 98 (b := 3) hs2 (by omega) (by omega)
  by_cases c0 : u = 0
  · subst c0
    obtain ⟨h', ew⟩ := b18a_ok hs3 (ns := ns) (a := a)
    exact ⟨h', t18a b18a r18a ns v0 v1 ha e1 d2 d3 ew⟩
  · obtain ⟨h', ew⟩ := r18a_ok hs3 (ns := ns) (a := a)
    exact ⟨h', t18b b18a r18a ns c0 v0 v1 ha e1 d2 d3 ew⟩
end LW
set_option Elab.async false
set_option linter.all false
set_option maxRecDepth 100000
set_option maxHeartbeats 0
namespace LW
open PySem PySem.Spec PyProof.Rows L2 KF
abbrev R : PySem.W.OpenRow := PySem.W.OpenLaw.row PySem.Challenge.rw_keysfelt_k18_whole_rings_told_soonest
abbrev hk : PySem.W.Hook := He.hookD 4 (G.map faOf) fn
def ob (s : PySem.W.SharedT) : He.AlD := He.obsDG 4 (G.map faOf) fn (HandSHeadRun.getT s)
theorem ob_eq (s : PySem.W.SharedT) : ob s = hk.obs s.abs := He.obsDG_eq (HandSHeadRun.getT_eq s)
def loose : List Str := (["FeelError", "BadNumber", "BadAim", "BadCounts", "TooMany", "BadPieces", "KEY", "HOLD", "is_integer", "is_from", "are_shapes", "check_number", "check_aim", "shape_at", "felt_by", "all_holds", "is_known", "least_by", "MOST_COUNTS", "MOST_TOLD"] : List Str) ++ (["MOST_LISTED", "MOST_ROUND", "MOST_KINDS", "MOST_PIECES", "MOST_PIECE", "least_of", "check_counts", "all_rows", "all_rings", "check_pieces", "has_piece", "rings_with", "MOST_WITHIN", "best_rings", "told_rings", "_law_mix", "_law_next", "_law_ring", "_law_holds", "_law_felt"] : List Str) ++ (["_law_far", "_law_unlike", "_law_turned", "_law_told_by", "_law_rows"] : List Str)
theorem run (w : World) : HandSHeadRun.RunEq R (PySem.W.view R.prog [50]) hk ob 40000 loose w := by
  intro os
  kernel_rfl
end LW
open PySem PySem.W PySem.Calls PyProof.Rows
theorem PySem.Challenge.cw_keysfelt_k18_whole_rings_told_soonest_holds : PySem.Challenge.rw_keysfelt_k18_whole_rings_told_soonest.Holds := by
  w_on; o_law
  refine HandSHeadRun.head_any (r := OpenLaw.row PySem.Challenge.rw_keysfelt_k18_whole_rings_told_soonest) (q := view (OpenLaw.row PySem.Challenge.rw_keysfelt_k18_whole_rings_told_soonest).prog [50]) (H := LW.hk) (ob := LW.ob) (M := 40000) (loose := LW.loose) (d := HandSHeadRun.topDef (OpenLaw.row PySem.Challenge.rw_keysfelt_k18_whole_rings_told_soonest).prog 50) (kwd := []) LW.ob_eq
    (by kernel_rfl) (fun s => by kernel_rfl) LW.run (by kernel_rfl) (by kernel_rfl) (by kernel_rfl) (by rfl) (by first | assumption | decide +kernel) (by decide +kernel) ⟨rfl, rfl, rfl, rfl, rfl, by decide +kernel⟩ ?hw ?hc
  case hw => w_witness2
  case hc =>
    refine L2.walk_ofE (l := PySem.Challenge.rw_keysfelt_k18_whole_rings_told_soonest) (n := 63) (k := 100) (x := "_law_script") (CX := KF.CXU (PySem.Challenge.rw_keysfelt_k18_whole_rings_told_soonest).prog) rfl (by decide) (by kernel_rfl) ⟨rfl, by decide, by decide⟩ ?F (fun _ _ _ _ z => z.no)
    intro w mg fa h Y G hmg0
    obtain ⟨K, KX, c⟩ := Y
    have hmg : mg ("law" : PySem.Str) = some (.ref fa) := by
      have e : (HandSHeadRun.topDef (OpenLaw.row PySem.Challenge.rw_keysfelt_k18_whole_rings_told_soonest).prog 50).name = ("law" : PySem.Str) := by kernel_rfl
      rw [← e]
      exact hmg0
    obtain ⟨fd, sp, hb, hs, hF⟩ := KF.law_end (prog := (PySem.Challenge.rw_keysfelt_k18_whole_rings_told_soonest).prog) (w := w) (n := 100) (il := 194) (pp := 27) (y := "_law_script") KX G hmg c LW.cB LW.pl rfl rfl (by decide +kernel) rfl rfl LW.math
    exact ⟨K, fd, sp, KX, hb, hs, hF⟩
