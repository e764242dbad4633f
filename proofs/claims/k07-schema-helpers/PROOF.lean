import PyProof.Rows.All
import Wide.All
import OpenK.AllK
import Wide.FinOn
import HandS.ForMost
import HandS.ForExc
import HandS.Wide
import HandS.TupAny
import HandS.IsInst
import HandS.NoneIn
import HandS.Small
import HandS.SetFor
import HandS.More
import HandS.Finally
import HandS.CallSlots
import HandS.WordsExc
import HandS.EndBits
import HandS.TupLe
import HandS.Replace
import HandS.SortInts
import HandS.DictComp
import HandS.Codes
import PySem.Challenge.RW_lenstree_k07_schema_helpers
set_option Elab.async false
set_option linter.all false
set_option autoImplicit false
set_option maxRecDepth 100000
/-! LA1: deep values, trees with addresses, what of the heap they hold. -/
namespace LT
open PySem PySem.Spec L2

/-! ### deep values -/
abbrev D := PyData
instance : Inhabited D := ⟨.none⟩
def _root_.PySem.PyData.key : D → Key
  | .int i => .inl i
  | .str s => .inr s
  | _ => .inl 0
def _root_.PySem.PyData.isKey : D → Bool
  | .int _ => true
  | .str _ => true
  | _ => false
def _root_.PySem.PyData.name : D → Str
  | .str s => s
  | _ => Str.empty
/-- keys told apart -/
def _root_.PySem.PyData.same : D → D → Bool
  | .int i, .int j => decide (i = j)
  | .str s, .str t => decide (s = t)
  | .none, .none => true
  | _, _ => false
theorem same_key {x y : D} (hx : x.isKey = true) : x.same y = true → x = y := by
  cases x <;> cases y <;> simp [PyData.same, PyData.isKey] at hx ⊢
theorem same_refl {x : D} (hx : x.isKey = true) : x.same x = true := by
  cases x <;> simp [PyData.same, PyData.isKey] at hx ⊢
theorem key_inj {x y : D} (hx : x.isKey = true) (hy : y.isKey = true) : x.key = y.key → x = y := by
  cases x <;> cases y <;> simp [PyData.key, PyData.isKey] at hx hy ⊢
theorem same_iff {x y : D} (hx : x.isKey = true) (hy : y.isKey = true) : x.same y = decide (x.key = y.key) := by
  cases x <;> cases y <;> simp [PyData.key, PyData.isKey, PyData.same] at hx hy ⊢

/-! ### how a deep value lies in a heap that stays -/
mutual
inductive RepD (K : PySem.W.Frag) (G : Hp) : D → V → Prop where
  | non : RepD K G .none .non
  | bl (b) : RepD K G (.bool b) (.bl b)
  | int (i) : RepD K G (.int i) (.int i)
  | str (s) : RepD K G (.str s) (.str s)
  | lst {xs a vs} : G a = some (.lst vs) → RepDs K G xs vs → RepD K G (.list xs) (.ref a)
  | tup {xs a vs} : G a = some (.tup vs) → RepDs K G xs vs → RepD K G (.tuple xs) (.ref a)
  | dct {kvs a ks} : Rd G a (.dK ks) → RepKs K G kvs ks → (kvs.map fun c => c.1.key).Nodup → RepD K G (.dict kvs) (.ref a)
inductive RepDs (K : PySem.W.Frag) (G : Hp) : List D → List V → Prop where
  | nil : RepDs K G [] []
  | cons {x v xs vs} : RepD K G x v → RepDs K G xs vs → RepDs K G (x :: xs) (v :: vs)
inductive RepKs (K : PySem.W.Frag) (G : Hp) : List (D × D) → List (Key × V) → Prop where
  | nil : RepKs K G [] []
  | cons {k x v kvs ks} : k.isKey = true → RepD K G x v → RepKs K G kvs ks → RepKs K G ((k, x) :: kvs) ((k.key, v) :: ks)
end

/-- what G says may be read in G' -/
structure RdLe (G G' : Hp) : Prop where
  rd : ∀ a u, Rd G a u → Rd G' a u
  lst : ∀ a xs, G a = some (.lst xs) → G' a = some (.lst xs)
  tup : ∀ a xs, G a = some (.tup xs) → G' a = some (.tup xs)
theorem RdLe.of_same {G G' : Hp} (s : Same G G') : RdLe G G' := ⟨fun a u h => by
  rcases h with h | ⟨o, h⟩
  · exact .inl (s _ _ h)
  · exact .inr ⟨o, s _ _ h⟩, fun a xs h => s _ _ h, fun a xs h => s _ _ h⟩
/-- what may be locked -/
def IsDk : HO → Prop
  | .dK _ => True
  | .dT _ => True
  | _ => False
/-- G lies in H -/
def Sub (G H : Hp) : Prop := ∀ a o, G a = some o → H a = some o
theorem RdLe.of_sub {G H : Hp} (s : Sub G H) : RdLe G H := RdLe.of_same s
mutual
theorem RepD.mono {K : PySem.W.Frag} {G G' : Hp} (s : RdLe G G') : ∀ {d : D} {v : V}, RepD K G d v → RepD K G' d v
  | _, _, .non => .non
  | _, _, .bl b => .bl b
  | _, _, .int i => .int i
  | _, _, .str x => .str x
  | _, _, .lst h r => .lst (s.lst _ _ h) (RepDs.mono s r)
  | _, _, .tup h r => .tup (s.tup _ _ h) (RepDs.mono s r)
  | _, _, .dct h r n => .dct (s.rd _ _ h) (RepKs.mono s r) n
theorem RepDs.mono {K : PySem.W.Frag} {G G' : Hp} (s : RdLe G G') : ∀ {d : List D} {v : List V}, RepDs K G d v → RepDs K G' d v
  | _, _, .nil => .nil
  | _, _, .cons a b => .cons (RepD.mono s a) (RepDs.mono s b)
theorem RepKs.mono {K : PySem.W.Frag} {G G' : Hp} (s : RdLe G G') : ∀ {d : List (D × D)} {v : List (Key × V)}, RepKs K G d v → RepKs K G' d v
  | _, _, .nil => .nil
  | _, _, .cons a b c => .cons a (RepD.mono s b) (RepKs.mono s c)
end
theorem RepDs.length {K : PySem.W.Frag} {G : Hp} : ∀ {d : List D} {v : List V}, RepDs K G d v → d.length = v.length
  | _, _, .nil => rfl
  | _, _, .cons _ b => by simp [RepDs.length b]
theorem RepDs.get {K : PySem.W.Frag} {G : Hp} : ∀ {d : List D} {v : List V} {i : Nat} {x : D}, RepDs K G d v → d[i]? = some x → ∃ u, v[i]? = some u ∧ RepD K G x u
  | _, _, 0, x, .cons a b, e => by simp at e; subst e; exact ⟨_, rfl, a⟩
  | _, _, i + 1, x, .cons a b, e => by
    obtain ⟨u, h1, h2⟩ := RepDs.get (i := i) (x := x) b (by simpa using e)
    exact ⟨u, by simpa using h1, h2⟩
theorem RepDs.getV {K : PySem.W.Frag} {G : Hp} : ∀ {d : List D} {v : List V} {i : Nat} {u : V}, RepDs K G d v → v[i]? = some u → ∃ x, d[i]? = some x ∧ RepD K G x u
  | _, _, 0, x, .cons a b, e => by simp at e; subst e; exact ⟨_, rfl, a⟩
  | _, _, i + 1, x, .cons a b, e => by
    obtain ⟨u, h1, h2⟩ := RepDs.getV (i := i) (u := x) b (by simpa using e)
    exact ⟨u, by simpa using h1, h2⟩
theorem RepDs.append {K : PySem.W.Frag} {G : Hp} : ∀ {d : List D} {v : List V} {d' : List D} {v' : List V}, RepDs K G d v → RepDs K G d' v' → RepDs K G (d ++ d') (v ++ v')
  | _, _, _, _, .nil, r => r
  | _, _, _, _, .cons a b, r => .cons a (RepDs.append b r)
theorem RepDs.take {K : PySem.W.Frag} {G : Hp} : ∀ {d : List D} {v : List V} (n : Nat), RepDs K G d v → RepDs K G (d.take n) (v.take n)
  | _, _, 0, _ => by simpa using RepDs.nil
  | _, _, n + 1, .nil => .nil
  | _, _, n + 1, .cons a b => .cons a (RepDs.take n b)
theorem RepDs.drop {K : PySem.W.Frag} {G : Hp} : ∀ {d : List D} {v : List V} (n : Nat), RepDs K G d v → RepDs K G (d.drop n) (v.drop n)
  | _, _, 0, r => r
  | _, _, n + 1, .nil => .nil
  | _, _, n + 1, .cons a b => RepDs.drop n b
theorem RepDs.reverse {K : PySem.W.Frag} {G : Hp} : ∀ {d : List D} {v : List V}, RepDs K G d v → RepDs K G d.reverse v.reverse
  | _, _, .nil => .nil
  | _, _, .cons a b => by
    rw [List.reverse_cons, List.reverse_cons]
    exact RepDs.append (RepDs.reverse b) (.cons a .nil)

/-! ### trees -/
inductive NK where
  | lst | tup | dct | ins (C : Addr) | xd
  deriving DecidableEq
inductive TR (L N : Type) where
  | leaf (l : L)
  | node (n : N) (k : NK) (cs : List (D × TR L N))
/-- an owned tree: leaves are what stays (none: a hole) -/
abbrev T := TR (Option D) Unit
/-- .. with values and addresses -/
abbrev A := TR (Option D × V) (Addr × Addr)
def TR.val : TR (Option D × V) (Addr × Addr) → V
  | .leaf l => l.2
  | .node n _ _ => .ref n.1
mutual
def er : A → T
  | .leaf l => .leaf l.1
  | .node _ k cs => .node () k (ers cs)
def ers : List (D × A) → List (D × T)
  | [] => []
  | (k, c) :: r => (k, er c) :: ers r
end
theorem ers_map : ∀ cs : List (D × A), ers cs = cs.map fun c => (c.1, er c.2)
  | [] => rfl
  | (k, c) :: r => by simp [ers, ers_map r]
theorem ers_keys (cs : List (D × A)) : (ers cs).map Prod.fst = cs.map Prod.fst := by
  rw [ers_map]; simp [Function.comp_def]
def vals (cs : List (D × A)) : List (D × V) := cs.map fun c => (c.1, c.2.val)
/-- the keys of a dict: ints and texts, each once -/
def keysOk (ls : List D) : Bool := ls.all (·.isKey) && decide (ls.map (·.key)).Nodup
theorem keysOk_key {ls : List D} (h : keysOk ls = true) : ∀ l ∈ ls, l.isKey = true := by
  unfold keysOk at h
  rw [Bool.and_eq_true, List.all_eq_true] at h
  exact h.1
theorem keysOk_nd {ls : List D} (h : keysOk ls = true) : (ls.map (·.key)).Nodup := by
  unfold keysOk at h
  rw [Bool.and_eq_true, decide_eq_true_eq] at h
  exact h.2
theorem keysOk_mk {ls : List D} (h : ∀ l ∈ ls, l.isKey = true) (h2 : (ls.map (·.key)).Nodup) : keysOk ls = true := by
  unfold keysOk
  rw [Bool.and_eq_true, List.all_eq_true, decide_eq_true_eq]
  exact ⟨h, h2⟩
def nodeObjs (k : NK) (n : Addr × Addr) (cs : List (D × V)) : List (Addr × Option HO) :=
  match k with
  | .lst => [(n.1, some (.lst (cs.map (·.2))))]
  | .tup => [(n.1, some (.tup (cs.map (·.2))))]
  | .dct => [(n.1, if keysOk (cs.map (·.1)) = true then some (.dK (cs.map fun c => (c.1.key, c.2))) else none)]
  | .ins C => [(n.1, some (.ins C n.2 (cs.map fun c => (c.1.name, c.2)))), (n.2, some (.own n.1))]
  | .xd => [(n.1, some (.xd (cs.map fun c => (c.1.name, c.2))))]
mutual
def nodes : A → List (Addr × Option HO)
  | .leaf _ => []
  | .node n k cs => nodeObjs k n (vals cs) ++ nodesL cs
def nodesL : List (D × A) → List (Addr × Option HO)
  | [] => []
  | (_, c) :: r => nodes c ++ nodesL r
end
mutual
def leaves : A → List (Option D × V)
  | .leaf l => [l]
  | .node _ _ cs => leavesL cs
def leavesL : List (D × A) → List (Option D × V)
  | [] => []
  | (_, c) :: r => leaves c ++ leavesL r
end
theorem nodesL_append : ∀ (a b : List (D × A)), nodesL (a ++ b) = nodesL a ++ nodesL b
  | [], b => rfl
  | (k, c) :: r, b => by simp [nodesL, nodesL_append r b]
theorem leavesL_append : ∀ (a b : List (D × A)), leavesL (a ++ b) = leavesL a ++ leavesL b
  | [], b => rfl
  | (k, c) :: r, b => by simp [leavesL, leavesL_append r b]

/-! ### places in a tree -/
def ixOf (k : NK) (ls : List D) (q : D) : Option Nat :=
  match k with
  | .lst => match q with
    | .int i => if 0 ≤ i ∧ i < ls.length then some i.toNat else none
    | _ => none
  | .tup => match q with
    | .int i => if 0 ≤ i ∧ i < ls.length then some i.toNat else none
    | _ => none
  | _ => ls.findIdx? fun l => l.same q
theorem ixOf_lt {k : NK} {ls : List D} {q : D} {i : Nat} (h : ixOf k ls q = some i) : i < ls.length := by
  have f : ∀ {g : D → Bool}, ls.findIdx? g = some i → i < ls.length := fun {g} e => by
    rw [List.findIdx?_eq_some_iff_getElem] at e
    exact e.1
  cases k <;> unfold ixOf at h
  case lst | tup =>
    cases q <;> simp at h
    obtain ⟨h1, h2⟩ := h
    omega
  all_goals exact f h
section
variable {L N : Type}
def TR.at : TR L N → List D → Option (TR L N)
  | t, [] => some t
  | .leaf _, _ :: _ => none
  | .node _ k cs, q :: p => match ixOf k (cs.map Prod.fst) q with
    | none => none
    | some i => match cs[i]? with
      | none => none
      | some c => TR.at c.2 p
def TR.set : TR L N → List D → TR L N → TR L N
  | _, [], x => x
  | .leaf l, _ :: _, _ => .leaf l
  | .node n k cs, q :: p, x => match ixOf k (cs.map Prod.fst) q with
    | none => .node n k cs
    | some i => match cs[i]? with
      | none => .node n k cs
      | some c => .node n k (cs.set i (c.1, TR.set c.2 p x))
theorem TR.at_node (n : N) (k : NK) (cs : List (D × TR L N)) (q : D) (p : List D) : (TR.node n k cs).at (q :: p) = (match ixOf k (cs.map Prod.fst) q with
    | none => none
    | some i => match cs[i]? with
      | none => none
      | some c => TR.at c.2 p) := rfl
theorem TR.at_nil (t : TR L N) : t.at [] = some t := by cases t <;> rfl
theorem TR.set_nil (t x : TR L N) : t.set [] x = x := by cases t <;> rfl
theorem TR.at_cons {t : TR L N} {q : D} {p : List D} {x : TR L N} (h : t.at (q :: p) = some x) :
    ∃ n k cs i c, t = .node n k cs ∧ ixOf k (cs.map Prod.fst) q = some i ∧ cs[i]? = some c ∧ c.2.at p = some x ∧ ∀ y, t.set (q :: p) y = .node n k (cs.set i (c.1, c.2.set p y)) := by
  cases t with
  | leaf l => simp [TR.at] at h
  | node n k cs =>
    cases e : ixOf k (cs.map Prod.fst) q with
    | none => simp [TR.at, e] at h
    | some i =>
      cases e2 : cs[i]? with
      | none => simp [TR.at, e, e2] at h
      | some c =>
        simp [TR.at, e, e2] at h
        exact ⟨n, k, cs, i, c, rfl, e, e2, h, fun y => by simp [TR.set, e, e2]⟩
theorem map_fst_set {α β : Type} {cs : List (α × β)} {i : Nat} {c : α × β} {y : β} (h : cs[i]? = some c) : (cs.set i (c.1, y)).map Prod.fst = cs.map Prod.fst := by
  rw [List.map_set]
  apply List.ext_getElem?
  intro j
  by_cases hj : i = j
  · subst hj
    have hl : i < cs.length := (List.getElem?_eq_some_iff.mp h).1
    rw [List.getElem?_set_self (by simpa using hl), List.getElem?_map, h]
    rfl
  · rw [List.getElem?_set_ne hj]
theorem TR.at_set {p : List D} : ∀ {t x : TR L N} (y : TR L N), t.at p = some x → ∀ r, (t.set p y).at (p ++ r) = y.at r := by
  induction p with
  | nil => intro t x y _ r; rw [TR.set_nil]; rfl
  | cons q p ih =>
    intro t x y h r
    obtain ⟨n, k, cs, i, c, rfl, e, e2, h', hs⟩ := TR.at_cons h
    rw [hs]
    have hl : i < cs.length := (List.getElem?_eq_some_iff.mp e2).1
    show TR.at (.node n k (cs.set i (c.1, c.2.set p y))) (q :: (p ++ r)) = _
    have hg : (cs.set i (c.1, c.2.set p y))[i]? = some (c.1, c.2.set p y) := by rw [List.getElem?_set_self hl]
    rw [TR.at_node, map_fst_set e2, e]
    simp only [hg]
    exact ih y h' r
theorem TR.at_append {p r : List D} : ∀ {t x : TR L N}, t.at p = some x → t.at (p ++ r) = x.at r := by
  induction p with
  | nil => intro t x h; rw [TR.at_nil] at h; cases h; rfl
  | cons q p ih =>
    intro t x h
    obtain ⟨n, k, cs, i, c, rfl, e, e2, h', _⟩ := TR.at_cons h
    show TR.at (.node n k cs) (q :: (p ++ r)) = _
    rw [TR.at_node]
    simp only [e, e2]
    exact ih h'
end
theorem er_at {p : List D} : ∀ {a : A}, (er a).at p = (a.at p).map er := by
  induction p with
  | nil => intro a; rw [TR.at_nil, TR.at_nil]; rfl
  | cons q p ih =>
    intro a
    cases a with
    | leaf l => rfl
    | node n k cs =>
      unfold er TR.at
      simp only [ers_keys]
      cases e : ixOf k (cs.map Prod.fst) q with
      | none => rfl
      | some i =>
        simp only
        rw [ers_map, List.getElem?_map]
        cases e2 : cs[i]? with
        | none => rfl
        | some c => simp only [Option.map_some]; exact ih
theorem er_set {p : List D} : ∀ {a c : A}, er (a.set p c) = (er a).set p (er c) := by
  induction p with
  | nil => intro a c; rw [TR.set_nil, TR.set_nil]
  | cons q p ih =>
    intro a c
    cases a with
    | leaf l => rfl
    | node n k cs =>
      show _ = TR.set (.node () k (ers cs)) (q :: p) (er c)
      unfold TR.set
      rw [ers_keys]
      cases e : ixOf k (cs.map Prod.fst) q with
      | none => simp [er]
      | some i =>
        simp only
        have e3 : (ers cs)[i]? = (cs[i]?).map fun c => (c.1, er c.2) := by rw [ers_map, List.getElem?_map]
        cases e2 : cs[i]? with
        | none => simp [e3, e2, er]
        | some b => simp [e3, e2, er, ers_map, List.map_set, ih]
/-- a tree taken apart at a place -/
theorem at_split {p : List D} : ∀ {a c : A}, a.at p = some c → ∃ N1 N2 L1 L2, nodes a = N1 ++ nodes c ++ N2 ∧ leaves a = L1 ++ leaves c ++ L2 ∧
    ∀ c' : A, c'.val = c.val → nodes (a.set p c') = N1 ++ nodes c' ++ N2 ∧ leaves (a.set p c') = L1 ++ leaves c' ++ L2 ∧ (a.set p c').val = a.val := by
  induction p with
  | nil =>
    intro a c h
    rw [TR.at_nil] at h; cases h
    exact ⟨[], [], [], [], by simp, by simp, fun c' hc => by simp [TR.set_nil, hc]⟩
  | cons q p ih =>
    intro a c h
    obtain ⟨n, k, cs, i, b, rfl, e, e2, h', hs⟩ := TR.at_cons h
    obtain ⟨N1, N2, L1, L2, en, el, hc⟩ := ih h'
    have hl : i < cs.length := (List.getElem?_eq_some_iff.mp e2).1
    have hb : cs[i] = b := (List.getElem?_eq_some_iff.mp e2).2
    have sp : cs = cs.take i ++ b :: cs.drop (i + 1) := by
      rw [← hb]; simp
    have sp' : ∀ y : A, cs.set i (b.1, y) = cs.take i ++ (b.1, y) :: cs.drop (i + 1) := fun y => by
      rw [List.set_eq_take_append_cons_drop, if_pos hl]
    refine ⟨nodeObjs k n (vals cs) ++ nodesL (cs.take i) ++ N1, N2 ++ nodesL (cs.drop (i + 1)), leavesL (cs.take i) ++ L1, L2 ++ leavesL (cs.drop (i + 1)), ?_, ?_, fun c' hv => ?_⟩
    · show nodeObjs k n (vals cs) ++ nodesL cs = _
      conv => lhs; rw [show nodesL cs = nodesL (cs.take i ++ b :: cs.drop (i + 1)) by rw [← sp]]
      rw [nodesL_append]
      obtain ⟨b1, b2⟩ := b
      simp only [nodesL, en, List.append_assoc]
    · show leavesL cs = _
      conv => lhs; rw [sp]
      rw [leavesL_append]
      obtain ⟨b1, b2⟩ := b
      simp only [leavesL, el, List.append_assoc]
    · obtain ⟨h1, h2, h3⟩ := hc c' hv
      rw [hs, sp']
      have vv : vals (cs.take i ++ (b.1, TR.set b.2 p c') :: cs.drop (i + 1)) = vals cs := by
        conv => rhs; rw [sp]
        unfold vals
        simp [h3]
      refine ⟨?_, ?_, rfl⟩
      · show nodeObjs k n (vals _) ++ nodesL _ = _
        rw [vv, nodesL_append]
        simp only [nodesL, h1, List.append_assoc]
      · show leavesL _ = _
        rw [leavesL_append]
        simp only [leavesL, h2, List.append_assoc]
/-- is r a place below p -/
def below : List D → List D → Bool
  | [], [] => false
  | [], _ :: _ => true
  | _ :: _, [] => false
  | q :: p, q' :: r => q.same q' && below p r
end LT

/-! LA2: what a list of trees holds, freezing, frames. -/
namespace LT
open PySem PySem.Spec L2


def allN (ts : List A) : List (Addr × Option HO) := ts.flatMap nodes
def allL (ts : List A) : List (Option D × V) := ts.flatMap leaves
def cnt (b : Addr) (l : List (Addr × Option HO)) : Nat := l.countP fun n => n.1 == b
theorem cnt_append (b : Addr) (l m : List (Addr × Option HO)) : cnt b (l ++ m) = cnt b l + cnt b m := by simp [cnt]
theorem cnt_pos {b : Addr} {l : List (Addr × Option HO)} (h : ∃ n ∈ l, n.1 = b) : 0 < cnt b l := by
  obtain ⟨n, hn, e⟩ := h
  exact List.countP_pos_iff.mpr ⟨n, hn, by simpa using e⟩
theorem cnt_zero {b : Addr} {l : List (Addr × Option HO)} (h : ∀ n ∈ l, n.1 ≠ b) : cnt b l = 0 := by
  unfold cnt
  rw [List.countP_eq_zero]
  intro n hn
  simpa using h n hn
theorem of_cnt_zero {b : Addr} {l : List (Addr × Option HO)} (h : cnt b l = 0) : ∀ n ∈ l, n.1 ≠ b := fun n hn e => by
  have := cnt_pos ⟨n, hn, e⟩
  omega
@[simp] theorem allN_nil : allN [] = [] := rfl
@[simp] theorem allN_cons (a : A) (ts : List A) : allN (a :: ts) = nodes a ++ allN ts := by simp [allN]
@[simp] theorem allN_append (ts us : List A) : allN (ts ++ us) = allN ts ++ allN us := by simp [allN]
@[simp] theorem allL_nil : allL [] = [] := rfl
@[simp] theorem allL_cons (a : A) (ts : List A) : allL (a :: ts) = leaves a ++ allL ts := by simp [allL]
@[simp] theorem allL_append (ts us : List A) : allL (ts ++ us) = allL ts ++ allL us := by simp [allL]

/-- the nodes N are held in H, apart from each other and from G; the leaves are held in G -/
structure Held (K : PySem.W.Frag) (G H : Hp) (N : List (Addr × Option HO)) (L : List (Option D × V)) : Prop where
  sub : Sub G H
  nodes : ∀ n ∈ N, ∃ o, n.2 = some o ∧ H n.1 = some o
  leaves : ∀ l ∈ L, ∀ x, l.1 = some x → RepD K G x l.2
  one : ∀ b, cnt b N ≤ 1
  free : ∀ n ∈ N, G n.1 = none
/-- G with the nodes N as H has them -/
def frzG (G H : Hp) (N : List (Addr × Option HO)) : Hp := fun b => if 0 < cnt b N then H b else G b
abbrev OkT (K : PySem.W.Frag) (G H : Hp) (ts : List A) : Prop := Held K G H (allN ts) (allL ts)
section
variable {K : PySem.W.Frag} {G G' H H' : Hp} {N N' : List (Addr × Option HO)} {L L' : List (Option D × V)}
/-- fewer nodes, fewer leaves, in another order -/
theorem Held.less (h : Held K G H N L) (hn : ∀ n ∈ N', n ∈ N) (hc : ∀ b, cnt b N' ≤ cnt b N) (hl : ∀ l ∈ L', l ∈ L) : Held K G H N' L' :=
  ⟨h.sub, fun n q => h.nodes n (hn n q), fun l q => h.leaves l (hl l q), fun b => Nat.le_trans (hc b) (h.one b), fun n q => h.free n (hn n q)⟩
theorem OkT.less {ts us : List A} (h : OkT K G H ts) (hn : ∀ n ∈ allN us, n ∈ allN ts) (hc : ∀ b, cnt b (allN us) ≤ cnt b (allN ts)) (hl : ∀ l ∈ allL us, l ∈ allL ts) : OkT K G H us := Held.less h hn hc hl
theorem OkT.right {ts us : List A} (h : OkT K G H (ts ++ us)) : OkT K G H us :=
  h.less (fun n q => by simp [q]) (fun b => by simp [cnt_append]) (fun l q => by simp [q])
theorem OkT.left {ts us : List A} (h : OkT K G H (ts ++ us)) : OkT K G H ts :=
  h.less (fun n q => by simp [q]) (fun b => by simp [cnt_append]) (fun l q => by simp [q])
theorem OkT.swap {ts us vs : List A} (h : OkT K G H (ts ++ (us ++ vs))) : OkT K G H (us ++ (ts ++ vs)) :=
  h.less (fun n q => by simp at q ⊢; rcases q with q | q | q <;> simp [q]) (fun b => by simp [cnt_append]; omega) (fun l q => by simp at q ⊢; rcases q with q | q | q <;> simp [q])
/-- a heap that keeps the nodes -/
theorem Held.keep (h : Held K G H N L) (s : Sub G H') (k : ∀ n ∈ N, H' n.1 = H n.1) : Held K G H' N L :=
  ⟨s, fun n q => by rw [k n q]; exact h.nodes n q, h.leaves, h.one, h.free⟩
theorem Held.rd (h : Held K G H N L) : RdLe G H := .of_sub h.sub
/-- a new object -/
theorem Held.new (h : Held K G H N L) {p : Addr} {o : HO} (hp : H p = none) : Held K G (upd H p o) ((p, some o) :: N) L := by
  have np : ∀ n ∈ N, n.1 ≠ p := fun n q e => by
    obtain ⟨o, _, e2⟩ := h.nodes n q
    rw [e, hp] at e2; cases e2
  have gp : G p = none := by
    cases e : G p with
    | none => rfl
    | some u => have q := h.sub p u e; rw [hp] at q; cases q
  refine ⟨fun a u e => ?_, fun n q => ?_, h.leaves, fun b => ?_, fun n q => ?_⟩
  · have : a ≠ p := fun z => by rw [z, gp] at e; cases e
    rw [upd_ne this]; exact h.sub a u e
  · rcases List.mem_cons.mp q with rfl | q
    · exact ⟨o, rfl, upd_same⟩
    · rw [upd_ne (np n q)]; exact h.nodes n q
  · by_cases e : p = b
    · subst e
      have := cnt_zero np
      show cnt p ([(p, some o)] ++ N) ≤ 1
      rw [cnt_append, this]
      simp [cnt]
    · show cnt b ([(p, some o)] ++ N) ≤ 1
      rw [cnt_append, cnt_zero (l := [(p, some o)]) (by simpa using e)]
      have := h.one b
      omega
  · rcases List.mem_cons.mp q with rfl | q
    · exact gp
    · exact h.free n q
/-- a new object that stays as it is: G grows -/
theorem Held.newG (h : Held K G H N L) {p : Addr} {o : HO} (hp : H p = none) : Same G (upd G p o) ∧ Held K (upd G p o) (upd H p o) N L := by
  have np : ∀ n ∈ N, n.1 ≠ p := fun n q e => by
    obtain ⟨o, _, e2⟩ := h.nodes n q
    rw [e, hp] at e2; cases e2
  have gp : G p = none := by
    cases e : G p with
    | none => rfl
    | some u => have q := h.sub p u e; rw [hp] at q; cases q
  have sm : Same G (upd G p o) := fun b u e => by
    rw [upd_ne (fun z => by rw [z, gp] at e; cases e)]; exact e
  refine ⟨sm, fun a u e => ?_, fun n q => ?_, fun l q x e => RepD.mono (.of_same sm) (h.leaves l q x e), h.one, fun n q => ?_⟩
  · by_cases z : a = p
    · subst z; rw [upd_same] at e ⊢; exact e
    · rw [upd_ne z] at e ⊢; exact h.sub a u e
  · rw [upd_ne (np n q)]; exact h.nodes n q
  · rw [upd_ne (np n q)]; exact h.free n q
/-- nodes become part of what stays -/
theorem Held.freeze (h : Held K G H (N ++ N') L) : Same G (frzG G H N) ∧ Held K (frzG G H N) H N' L ∧ ∀ n ∈ N, ∃ o, n.2 = some o ∧ (frzG G H N) n.1 = some o := by
  unfold frzG
  refine ⟨fun b o e => ?_, ⟨fun b o e => ?_, fun n q => h.nodes n (by simp [q]), fun l q x e => ?_, fun b => ?_, fun n q => ?_⟩, fun n q => ?_⟩
  · have : ¬ 0 < cnt b N := fun z => by
      obtain ⟨n, hn, e1⟩ := List.countP_pos_iff.mp z
      have e1 : n.1 = b := by simpa using e1
      have := h.free n (by simp [hn])
      rw [e1, e] at this; cases this
    simp only [if_neg this]; exact e
  · by_cases z : 0 < cnt b N
    · simp only [if_pos z] at e; exact e
    · simp only [if_neg z] at e; exact h.sub b o e
  · refine RepD.mono (.of_same fun b o e => ?_) (h.leaves l q x e)
    have : ¬ 0 < cnt b N := fun z => by
      obtain ⟨n, hn, e1⟩ := List.countP_pos_iff.mp z
      have e1 : n.1 = b := by simpa using e1
      have := h.free n (by simp [hn])
      rw [e1, e] at this; cases this
    simp only [if_neg this]; exact e
  · have := h.one b; rw [cnt_append] at this; omega
  · have c := h.one n.1
    rw [cnt_append] at c
    have := cnt_pos ⟨n, q, rfl⟩
    simp only [if_neg (show ¬ 0 < cnt n.1 N by omega)]
    exact h.free n (by simp [q])
  · obtain ⟨o, e1, e2⟩ := h.nodes n (by simp [q])
    refine ⟨o, e1, ?_⟩
    simp only [if_pos (cnt_pos ⟨n, q, rfl⟩)]
    exact e2
/-- a node's object is written -/
theorem Held.write {a : Addr} {o o' : HO} (h : Held K G H ((a, some o) :: N) L) : Held K G (upd H a o') ((a, some o') :: N) L := by
  have na : ∀ n ∈ N, n.1 ≠ a := by
    have c := h.one a
    refine of_cnt_zero (b := a) ?_
    have : cnt a ([(a, some o)] ++ N) ≤ 1 := c
    rw [cnt_append] at this
    have e1 : cnt a [(a, some o)] = 1 := by simp [cnt]
    omega
  have ga : G a = none := h.free (a, some o) (by simp)
  refine ⟨fun b u e => ?_, fun n q => ?_, h.leaves, fun b => ?_, fun n q => ?_⟩
  · have : b ≠ a := fun z => by rw [z, ga] at e; cases e
    rw [upd_ne this]; exact h.sub b u e
  · rcases List.mem_cons.mp q with rfl | q
    · exact ⟨o', rfl, upd_same⟩
    · rw [upd_ne (na n q)]; exact h.nodes n (by simp [q])
  · have := h.one b
    have e1 : cnt b ((a, some o') :: N) = cnt b ((a, some o) :: N) := by
      show cnt b ([(a, some o')] ++ N) = cnt b ([(a, some o)] ++ N)
      rw [cnt_append, cnt_append]
      simp [cnt]
    omega
  · rcases List.mem_cons.mp q with rfl | q
    · exact ga
    · exact h.free n (by simp [q])
end

/-! ### a tree as a deep value -/
mutual
def TR.toD : T → Option D
  | .leaf l => l
  | .node _ k cs => match toDs cs with
    | none => none
    | some ds => match k with
      | .lst => some (.list (ds.map (·.2)))
      | .tup => some (.tuple (ds.map (·.2)))
      | .dct => some (.dict ds)
      | _ => none
def toDs : List (D × T) → Option (List (D × D))
  | [] => some []
  | (k, c) :: r => match TR.toD c with
    | none => none
    | some d => match toDs r with
      | none => none
      | some ds => some ((k, d) :: ds)
end
mutual
theorem rep_of_tree {K : PySem.W.Frag} {G : Hp} : ∀ {a : A} {d : D}, (∀ n ∈ nodes a, ∃ o, n.2 = some o ∧ G n.1 = some o) → (∀ l ∈ leaves a, ∀ x, l.1 = some x → RepD K G x l.2) → (er a).toD = some d → RepD K G d a.val
  | .leaf l, d, _, hl, e => hl l (by simp [leaves]) d e
  | .node n k cs, d, hn, hl, e => by
    have hn1 : ∀ m ∈ nodeObjs k n (vals cs), ∃ o, m.2 = some o ∧ G m.1 = some o := fun m q => hn m (by unfold nodes; simp [q])
    have hn2 : ∀ m ∈ nodesL cs, ∃ o, m.2 = some o ∧ G m.1 = some o := fun m q => hn m (by unfold nodes; simp [q])
    have hl2 : ∀ l ∈ leavesL cs, ∀ x, l.1 = some x → RepD K G x l.2 := fun l q => hl l (by unfold leaves; exact q)
    unfold er TR.toD at e
    cases q : toDs (ers cs) with
    | none => rw [q] at e; cases e
    | some ds =>
      rw [q] at e
      have r := reps_of_trees hn2 hl2 q
      show RepD K G d (.ref n.1)
      cases k with
      | lst =>
        cases e
        obtain ⟨o, e1, e2⟩ := hn1 (n.1, some (.lst ((vals cs).map (·.2)))) (by simp [nodeObjs])
        cases e1
        exact .lst e2 r.1
      | tup =>
        cases e
        obtain ⟨o, e1, e2⟩ := hn1 (n.1, some (.tup ((vals cs).map (·.2)))) (by simp [nodeObjs])
        cases e1
        exact .tup e2 r.1
      | dct =>
        cases e
        obtain ⟨o, e1, e2⟩ := hn1 (n.1, if keysOk ((vals cs).map (·.1)) = true then some (.dK ((vals cs).map fun c => (c.1.key, c.2))) else none) (by simp [nodeObjs])
        split at e1
        · rename_i hk
          cases e1
          have ek : (vals cs).map (·.1) = cs.map (·.1) := by simp [vals, Function.comp_def]
          rw [ek] at hk
          refine .dct (.inl e2) (r.2.1 fun c hc => keysOk_key hk _ (List.mem_map.mpr ⟨c, hc, rfl⟩)) ?_
          have := keysOk_nd hk
          rw [← r.2.2, List.map_map] at this
          exact this
        · cases e1
      | ins C => cases e
      | xd => cases e
theorem reps_of_trees {K : PySem.W.Frag} {G : Hp} : ∀ {cs : List (D × A)} {ds : List (D × D)}, (∀ n ∈ nodesL cs, ∃ o, n.2 = some o ∧ G n.1 = some o) → (∀ l ∈ leavesL cs, ∀ x, l.1 = some x → RepD K G x l.2) → toDs (ers cs) = some ds →
    RepDs K G (ds.map (·.2)) ((vals cs).map (·.2)) ∧ ((∀ c ∈ cs, c.1.isKey = true) → RepKs K G ds ((vals cs).map fun c => (c.1.key, c.2))) ∧ ds.map (·.1) = cs.map (·.1)
  | [], ds, _, _, e => by
    unfold ers toDs at e
    cases e
    exact ⟨.nil, fun _ => .nil, rfl⟩
  | (k, c) :: r, ds, hn, hl, e => by
    unfold ers toDs at e
    cases q : (er c).toD with
    | none => rw [q] at e; cases e
    | some d =>
      rw [q] at e
      cases q2 : toDs (ers r) with
      | none => rw [q2] at e; cases e
      | some ds' =>
        rw [q2] at e
        cases e
        have r1 := rep_of_tree (a := c) (d := d) (fun n z => hn n (by unfold nodesL; simp [z])) (fun l z => hl l (by unfold leavesL; simp [z])) q
        have r2 := reps_of_trees (cs := r) (ds := ds') (fun n z => hn n (by unfold nodesL; simp [z])) (fun l z => hl l (by unfold leavesL; simp [z])) q2
        refine ⟨.cons r1 r2.1, fun hk => .cons (hk (k, c) (by simp)) r1 (r2.2.1 fun c' hc => hk c' (by simp [hc])), by simp [r2.2.2]⟩
end
theorem OkT.rep {K : PySem.W.Frag} {G H : Hp} {a : A} {ts : List A} {d : D} (h : OkT K G H (a :: ts)) (e : (er a).toD = some d) : RepD K H d a.val :=
  rep_of_tree (fun n q => h.nodes n (by simp [q])) (fun l q x e => RepD.mono h.rd (h.leaves l (by simp [q]) x e)) e
theorem OkT.freeze {K : PySem.W.Frag} {G H : Hp} {a : A} {ts : List A} {d : D} (h : OkT K G H (a :: ts)) (e : (er a).toD = some d) : ∃ G', Same G G' ∧ OkT K G' H (.leaf (some d, a.val) :: ts) := by
  have h' : Held K G H (nodes a ++ allN ts) (leaves a ++ allL ts) := by
    have := h; unfold OkT at this; rw [allN_cons, allL_cons] at this; exact this
  obtain ⟨s, h2, h3⟩ := h'.freeze
  refine ⟨_, s, ?_⟩
  have r : RepD K (frzG G H (nodes a)) d a.val := rep_of_tree h3 (fun l q x e => h2.leaves l (by simp [q]) x e) e
  refine ⟨h2.sub, fun n q => h2.nodes n (by simpa [nodes] using q), fun l q x e => ?_, fun b => by simpa [nodes] using h2.one b, fun n q => h2.free n (by simpa [nodes] using q)⟩
  rw [allL_cons] at q
  rcases List.mem_append.mp q with q | q
  · simp [leaves] at q
    subst q
    cases e
    exact r
  · exact h2.leaves l (by simp [q]) x e
end LT

/-! LA3: frames, what a denotation is, what it says of the model. -/
namespace LT
open PySem PySem.Spec L2

/-! ### frames -/
/-- a slot: nothing, an owned tree, a way into another slot's tree -/
inductive SV where
  | emp | own (t : T) | al (j : Nat) (p : List D)
structure Fr where
  sl : List SV
  tm : List (Option (Nat × List D)) := []
  io : List Nat := []
inductive AS where
  | emp | own (a : A) | al (j : Nat) (p : List D) (v : V)
structure AF where
  sl : List AS
  tm : List (Option (Nat × List D × V)) := []
  io : List (Nat × V) := []
def AS.er : AS → SV
  | .emp => .emp
  | .own a => .own (LT.er a)
  | .al j p _ => .al j p
def AF.er (F : AF) : Fr := ⟨F.sl.map AS.er, F.tm.map fun o => o.map fun x => (x.1, x.2.1), F.io.map (·.1)⟩
def AS.trees : AS → List A
  | .own a => [a]
  | _ => []
def owns (l : List AS) : List A := l.flatMap AS.trees
/-- at the place p of slot j's tree stands v -/
def ValAt (sl : List AS) (j : Nat) (p : List D) (v : V) : Prop := ∃ a c : A, sl[j]? = some (.own a) ∧ a.at p = some c ∧ c.val = v

structure Rel (K : PySem.W.Frag) (G H : Hp) (σ : St) (F : AF) (R : List A) : Prop where
  ok : OkT K G H (owns F.sl ++ R)
  len : F.sl.length = σ.length
  own : ∀ (i : Nat) (a : A), F.sl[i]? = some (.own a) → σ[i]? = some (some a.val)
  al : ∀ (i j : Nat) (p : List D) (v : V), F.sl[i]? = some (.al j p v) → σ[i]? = some (some v) ∧ ValAt F.sl j p v
  tm : ∀ (j : Nat) (p : List D) (v : V), some (j, p, v) ∈ F.tm → ValAt F.sl j p v
  io : ∀ x ∈ F.io, ∃ a, F.sl[x.1]? = some (.own a) ∧ a.val = x.2

/-- what stays from a state to a later one -/
structure Nx (G G' : Hp) (F F' : AF) : Prop where
  same : Same G G'
  io : F'.io = F.io
  tl : F'.tm.length = F.tm.length
  tm : ∀ (i : Nat) x, F'.tm[i]? = some (some x) → F.tm[i]? = some (some x)
theorem Nx.refl (G : Hp) (F : AF) : Nx G G F F := ⟨fun _ _ h => h, rfl, rfl, fun _ _ h => h⟩
theorem Nx.trans {G1 G2 G3 : Hp} {F1 F2 F3 : AF} (a : Nx G1 G2 F1 F2) (b : Nx G2 G3 F2 F3) : Nx G1 G3 F1 F3 :=
  ⟨Same.trans a.same b.same, b.io.trans a.io, b.tl.trans a.tl, fun i x h => a.tm i x (b.tm i x h)⟩

/-! ### results -/
/-- an expression's value: a tree of its own, or a place -/
inductive EV where
  | val (t : T) | ptr (j : Nat) (p : List D)
inductive AV where
  | val (a : A) | ptr (j : Nat) (p : List D) (v : V)
def AV.er : AV → EV
  | .val a => .val (LT.er a)
  | .ptr j p _ => .ptr j p
def AV.v : AV → V
  | .val a => a.val
  | .ptr _ _ v => v
def AV.trees : AV → List A
  | .val a => [a]
  | _ => []
def AV.Ok (sl : List AS) : AV → Prop
  | .val _ => True
  | .ptr j p v => ValAt sl j p v
def avs (l : List AV) : List A := l.flatMap AV.trees
@[simp] theorem avs_nil : avs [] = [] := rfl
@[simp] theorem avs_cons (x : AV) (l : List AV) : avs (x :: l) = x.trees ++ avs l := by simp [avs]
@[simp] theorem avs_append (l m : List AV) : avs (l ++ m) = avs l ++ avs m := by simp [avs]
/-- an exception: its class, its fields -/
structure Ex where
  C : Addr
  fs : List (D × D)
/-- .. as it lies: the class, its dict with the fields (none: no dict) -/
structure AX where
  C : Addr
  a : Option A
def AX.trees (x : AX) : List A := match x.a with
  | some a => [a]
  | none => []
def leafTs : List (D × D) → List (D × T) := fun l => l.map fun c => (c.1, .leaf (some c.2))
def AX.Is (x : AX) (e : Ex) (d : Option Addr) : Prop := x.C = e.C ∧ match x.a with
  | none => d = none ∧ e.fs = []
  | some a => ∃ dd, d = some dd ∧ a.val = .ref dd ∧ LT.er a = .node () .xd (leafTs e.fs)

abbrev M (α : Type) := Fr → Option (Except Ex α × Fr)
def M.ret {α : Type} (x : α) : M α := fun ρ => some (.ok x, ρ)
def M.bind {α β : Type} (f : M α) (g : α → M β) : M β := fun ρ => match f ρ with
  | none => none
  | some (.error e, ρ') => some (.error e, ρ')
  | some (.ok x, ρ') => g x ρ'
/-- a place is kept in mind while g runs -/
def EV.push (x : EV) (ρ : Fr) : Fr := match x with
  | .val _ => ρ
  | .ptr j p => { ρ with tm := some (j, p) :: ρ.tm }
def EV.pop (x : EV) (ρ : Fr) : Option Fr := match x with
  | .val _ => some ρ
  | .ptr _ _ => match ρ.tm with
    | some _ :: tm => some { ρ with tm := tm }
    | _ => none
def M.hold {β : Type} (x : EV) (g : M β) : M β := fun ρ => match g (x.push ρ) with
  | none => none
  | some (r, ρ') => match x.pop ρ' with
    | none => none
    | some ρ'' => some (r, ρ'')
def evalArgs : List (M EV) → M (List EV)
  | [] => M.ret []
  | f :: fs => M.bind f fun x => M.bind (M.hold x (evalArgs fs)) fun xs => M.ret (x :: xs)

/-! ### a denotation as a reading -/
/-- what is wanted of an exception -/
def RaiseOk (K : PySem.W.Frag) (W : WX) (σ : St) (R : List A) (e : Ex) (G' H' : Hp) (F' : AF) : Prop :=
  ∀ (x : AX) (d : Option Addr), Rel K G' H' σ F' (x.trees ++ R) → x.Is e d → W (.ref x.C) d σ H'
def Res {α : Type} (K : PySem.W.Frag) (W : WX) (σ : St) (f : M α) (G : Hp) (F : AF) (R : List A) (C : α → Hp → Hp → AF → Prop) : Prop :=
  ∃ r ρ', f F.er = some (r, ρ') ∧ ∀ G' H' F', Nx G G' F F' → F'.er = ρ' → match r with
    | .ok x => C x G' H' F'
    | .error e => RaiseOk K W σ R e G' H' F'
def tD (K : PySem.W.Frag) (W : WX) (f : M EV) : TE := fun σ H Q => ∃ G F R, Rel K G H σ F R ∧ Res K W σ f G F R fun ev G' H' F' => ∀ av : AV, Rel K G' H' σ F' (av.trees ++ R) → av.Ok F'.sl → av.er = ev → Q av.v H'
def tDA (K : PySem.W.Frag) (W : WX) (f : M (List EV)) : TA := fun σ H Q => ∃ G F R, Rel K G H σ F R ∧ Res K W σ f G F R fun evs G' H' F' => ∀ as : List AV, Rel K G' H' σ F' (avs as ++ R) → (∀ a ∈ as, a.Ok F'.sl) → as.map AV.er = evs → Q (as.map AV.v) H'
def tDT (K : PySem.W.Frag) (W : WX) (f : M Bool) : TT := fun σ H Q => ∃ G F R, Rel K G H σ F R ∧ Res K W σ f G F R fun b G' H' F' => Rel K G' H' σ F' R → Q b H'

theorem Rel.weakR {K : PySem.W.Frag} {G H : Hp} {σ : St} {F : AF} {R R' : List A} (r : Rel K G H σ F R) (hn : ∀ n ∈ allN R', n ∈ allN R) (hc : ∀ b, cnt b (allN R') ≤ cnt b (allN R)) (hl : ∀ l ∈ allL R', l ∈ allL R) : Rel K G H σ F R' :=
  ⟨r.ok.less (fun n q => by simp at q ⊢; rcases q with q | q; exact .inl q; exact .inr (hn n q)) (fun b => by simp [cnt_append]; exact hc b) (fun l q => by simp at q ⊢; rcases q with q | q; exact .inl q; exact .inr (hl l q)), r.len, r.own, r.al, r.tm, r.io⟩
theorem Rel.drop {K : PySem.W.Frag} {G H : Hp} {σ : St} {F : AF} {R S : List A} (r : Rel K G H σ F (S ++ R)) : Rel K G H σ F R :=
  r.weakR (fun n q => by simp [q]) (fun b => by simp [cnt_append]) (fun l q => by simp [q])
theorem Rel.swap {K : PySem.W.Frag} {G H : Hp} {σ : St} {F : AF} {R S U : List A} (r : Rel K G H σ F (S ++ (U ++ R))) : Rel K G H σ F (U ++ (S ++ R)) :=
  r.weakR (fun n q => by simp at q ⊢; rcases q with q | q | q <;> simp [q]) (fun b => by simp [cnt_append]; omega) (fun l q => by simp at q ⊢; rcases q with q | q | q <;> simp [q])

/-- a place pushed, a place popped -/
def AV.push (x : AV) (F : AF) : AF := match x with
  | .val _ => F
  | .ptr j p v => { F with tm := some (j, p, v) :: F.tm }
theorem AV.push_er (x : AV) (F : AF) : (x.push F).er = x.er.push F.er := by
  cases x <;> rfl
theorem AV.push_rel {K : PySem.W.Frag} {G H : Hp} {σ : St} {F : AF} {R : List A} {x : AV} (r : Rel K G H σ F R) (hx : x.Ok F.sl) : Rel K G H σ (x.push F) R := by
  cases x with
  | val a => exact r
  | ptr j p v =>
    refine ⟨r.ok, r.len, r.own, r.al, fun j' p' v' h => ?_, r.io⟩
    rcases List.mem_cons.mp h with h | h
    · cases h; exact hx
    · exact r.tm _ _ _ h
theorem AV.push_sl (x : AV) (F : AF) : (x.push F).sl = F.sl := by cases x <;> rfl
/-- behind what ran with x pushed -/
theorem AV.pop_ok {K : PySem.W.Frag} {G G' : Hp} {F F' : AF} {x : AV} {ρ'' : Fr} (n : Nx G G' (x.push F) F') (e : x.er.pop F'.er = some ρ'') :
    ∃ F'', F''.er = ρ'' ∧ F''.sl = F'.sl ∧ Nx G G' F F'' ∧ (∀ H' σ R, Rel K G' H' σ F' R → Rel K G' H' σ F'' R ∧ x.Ok F'.sl) := by
  cases x with
  | val a =>
    cases e
    exact ⟨F', rfl, rfl, n, fun H' σ R r => ⟨r, trivial⟩⟩
  | ptr j p v =>
    have tl : F'.tm.length = F.tm.length + 1 := n.tl
    cases q : F'.tm with
    | nil => rw [q] at tl; simp at tl
    | cons y tm =>
      cases y with
      | none => simp [AV.er, EV.pop, AF.er, q] at e
      | some z =>
        have hz : z = (j, p, v) := by
          have := n.tm 0 z (by rw [q]; rfl)
          simpa [AV.push] using this.symm
        subst hz
        have e' : ({ sl := F'.sl.map AS.er, tm := tm.map fun o => o.map fun x => (x.1, x.2.1), io := F'.io.map (·.1) } : Fr) = ρ'' := by
          simpa [AV.er, EV.pop, AF.er, q] using e
        refine ⟨{ F' with tm := tm }, e', rfl, ⟨n.same, n.io, ?_, fun i x h => ?_⟩, fun H' σ R r => ⟨⟨r.ok, r.len, r.own, r.al, fun j' p' v' h => r.tm _ _ _ (by rw [q]; exact List.mem_cons_of_mem _ h), r.io⟩, r.tm _ _ _ (by rw [q]; simp)⟩⟩
        · rw [q] at tl; simpa using tl
        · have := n.tm (i + 1) x (by rw [q]; exact h)
          simpa [AV.push] using this
/-- the arguments, one after another -/
def tAs : List TE → TA
  | [] => tNil
  | t :: ts => tCons t (tAs ts)
theorem args_run {K : PySem.W.Frag} {W : WX} : ∀ (fs : List (M EV)) {σ : St} {H : Hp} {Q : List V → Hp → Prop}, tDA K W (evalArgs fs) σ H Q → tAs (fs.map (tD K W)) σ H Q
  | [], σ, H, Q, h => by
    obtain ⟨G, F, R, r, res, ρ', e, k⟩ := h
    cases e
    exact k G H F (Nx.refl _ _) rfl [] (by simpa using r) (by simp) rfl
  | f :: fs, σ, H, Q, h => by
    obtain ⟨G, F, R, r, res, ρ', e, k⟩ := h
    show tCons (tD K W f) (tAs (fs.map (tD K W))) σ H Q
    unfold evalArgs M.bind at e
    cases q1 : f F.er with
    | none => rw [q1] at e; cases e
    | some y1 =>
      obtain ⟨r1, ρ1⟩ := y1
      rw [q1] at e
      cases r1 with
      | error ex =>
        cases e
        exact ⟨G, F, R, r, _, _, q1, k⟩
      | ok x =>
        refine ⟨G, F, R, r, _, _, q1, fun G1 H1 F1 n1 e1 av rel1 ok1 ex1 => ?_⟩
        subst ex1
        simp only at e
        unfold M.hold at e
        have pe := AV.push_er av F1
        rw [← e1, ← pe] at e
        refine args_run fs ⟨G1, av.push F1, av.trees ++ R, AV.push_rel rel1 ok1, ?_⟩
        cases q2 : evalArgs fs (av.push F1).er with
        | none => rw [q2] at e; cases e
        | some y2 =>
          obtain ⟨r2, ρ2⟩ := y2
          rw [q2] at e
          simp only at e
          cases q3 : av.er.pop ρ2 with
          | none => rw [q3] at e; cases e
          | some ρ3 =>
            rw [q3] at e
            refine ⟨r2, ρ2, q2, fun G2 H2 F2 n2 e2 => ?_⟩
            subst e2
            obtain ⟨F3, e3, s3, n3, k3⟩ := AV.pop_ok (K := K) n2 q3
            subst e3
            cases r2 with
            | error ex =>
              cases e
              intro x d rel2 is
              have rel3 := (k3 _ _ _ rel2).1
              exact k G2 H2 F3 (n1.trans n3) rfl x d (rel3.swap.drop) is
            | ok evs =>
              cases e
              intro as rel2 ok2 e2
              have ⟨rel3, ok3⟩ := k3 _ _ _ rel2
              refine k G2 H2 F3 (n1.trans n3) rfl (av :: as) ?_ ?_ ?_
              · have := rel3.swap
                simpa [List.append_assoc] using this
              · intro a ha
                rcases List.mem_cons.mp ha with rfl | ha
                · rw [s3]; exact ok3
                · rw [s3]; exact ok2 a ha
              · simp [e2]
end LT

/-! LA4: the judgements, operations by values, ghosts. -/
namespace LT
open PySem PySem.Spec L2

def DE (X : Cx) (W : WX) (e : Expr) (f : M EV) : Prop := PE X e (tD X.K W f)
def DT (X : Cx) (W : WX) (e : Expr) (f : M Bool) : Prop := PT X e (tDT X.K W f)
def DAs (X : Cx) (W : WX) (es : List Expr) (fs : List (M EV)) : Prop := PA X es (tAs (fs.map (tD X.K W)))

theorem PE.imp {X : Cx} {e : Expr} {t t' : TE} (h : PE X e t) (k : ∀ σ H Q, t' σ H Q → t σ H Q) : PE X e t' := ⟨fun pins s σ H Q I q => h.run pins s σ H Q I (k _ _ _ q)⟩
theorem PT.imp {X : Cx} {e : Expr} {t t' : TT} (h : PT X e t) (k : ∀ σ H Q, t' σ H Q → t σ H Q) : PT X e t' := ⟨fun pins s σ H Q I q => h.run pins s σ H Q I (k _ _ _ q)⟩
theorem PA.imp {X : Cx} {e : List Expr} {t t' : TA} (h : PA X e t) (k : ∀ σ H Q, t' σ H Q → t σ H Q) : PA X e t' := ⟨fun pos pins s σ H Q I q => h.run pos pins s σ H Q I (k _ _ _ q)⟩
theorem PS.imp {X : Cx} {e : Stmt} {t t' : L2.TS} (h : PS X e t) (k : ∀ D σ H, t' D σ H → t D σ H) : PS X e t' := ⟨fun pins s σ H D I q => h.run pins s σ H D I (k _ _ _ q)⟩
theorem PSs.imp {X : Cx} {e : List Stmt} {t t' : L2.TS} (h : PSs X e t) (k : ∀ D σ H, t' D σ H → t D σ H) : PSs X e t' := ⟨fun pins s σ H D I q => h.run pins s σ H D I (k _ _ _ q)⟩

theorem das_nil {X : Cx} {W : WX} : DAs X W [] [] := pa_nil
theorem das_cons {X : Cx} {W : WX} {e : Expr} {es : List Expr} {f : M EV} {fs : List (M EV)} (h : DE X W e f) (hs : DAs X W es fs)
    (hst : starEach (e :: es) X.env = (false, eval e X.env) :: starEach es X.env := by rfl) : DAs X W (e :: es) (f :: fs) := pa_cons h hs hst

/-! ### an operation on values -/
def mop (fs : List (M EV)) (g : List EV → M EV) : M EV := M.bind (evalArgs fs) g
/-- what g says is what the rule r asks -/
def OpS (K : PySem.W.Frag) (W : WX) (r : List V → Hp → VK → Prop) (g : List EV → M EV) : Prop :=
  ∀ (G H : Hp) (σ : L2.St) (F : AF) (R : List A) (as : List AV) (Q : VK), Rel K G H σ F (avs as ++ R) → (∀ a ∈ as, a.Ok F.sl) →
    Res K W σ (g (as.map AV.er)) G F R (fun ev G' H' F' => ∀ av : AV, Rel K G' H' σ F' (av.trees ++ R) → av.Ok F'.sl → av.er = ev → Q av.v H') → r (as.map AV.v) H Q
theorem mop_run {K : PySem.W.Frag} {W : WX} {r : List V → Hp → VK → Prop} {g : List EV → M EV} {fs : List (M EV)} (hs : OpS K W r g) {σ : L2.St} {H : Hp} {Q : VK} (h : tD K W (mop fs g) σ H Q) :
    tAs (fs.map (tD K W)) σ H fun vs H1 => r vs H1 Q := by
  refine args_run fs ?_
  obtain ⟨G, F, R, rel, res, ρ', e, k⟩ := h
  unfold mop M.bind at e
  cases q1 : evalArgs fs F.er with
  | none => rw [q1] at e; cases e
  | some y1 =>
    obtain ⟨r1, ρ1⟩ := y1
    rw [q1] at e
    cases r1 with
    | error ex =>
      cases e
      exact ⟨G, F, R, rel, _, _, q1, k⟩
    | ok xs =>
      refine ⟨G, F, R, rel, _, _, q1, fun G1 H1 F1 n1 e1 as rel1 ok1 ex1 => ?_⟩
      subst ex1
      subst e1
      exact hs G1 H1 σ F1 R as Q rel1 ok1 ⟨res, ρ', e, fun G2 H2 F2 n2 e2 => k G2 H2 F2 (n1.trans n2) e2⟩

def lift1 (r : V → Hp → VK → Prop) : List V → Hp → VK → Prop
  | [x], H, Q => r x H Q
  | _, _, _ => False
def lift2 (r : R2) : List V → Hp → VK → Prop
  | [x, y], H, Q => r x y H Q
  | _, _, _ => False
section
variable {X : Cx} {W : WX} {a b : Expr} {fa fb : M EV} {pos : Pos} {g : List EV → M EV}
theorem de_op {op : Operator} {r : R2} (ho : OpR X (binaryOp op) r) (hs : OpS X.K W (lift2 r) g) (ha : DE X W a fa) (hb : DE X W b fb) : DE X W (.BinOp a op b pos) (mop [fa, fb] g) :=
  PE.imp (pe_op ho ha hb) fun σ H Q h => mop_run hs h
theorem de_un {op : UnaryOp} {r : V → Hp → VK → Prop} (ho : UnR X (unaryOp op) r) (hs : OpS X.K W (lift1 r) g) (ha : DE X W a fa) (hop : op ≠ .Not := by decide) : DE X W (.UnaryOp op a pos) (mop [fa] g) :=
  PE.imp (by first | exact pe_un ho ha hop | exact pe_un ho ha) fun σ H Q h => mop_run hs h
theorem de_cmp {op : CmpOp} {r : R2} (ho : OpR X (compareOp op) r) (hs : OpS X.K W (lift2 r) g) (ha : DE X W a fa) (hb : DE X W b fb) (hm : behindInMarks op b = false) : DE X W (.Compare a [op] [b] pos) (mop [fa, fb] g) :=
  PE.imp (pe_cmpR ho ha hb hm) fun σ H Q h => mop_run hs h
theorem de_ix {r : R2} (ho : IxR X r) (hs : OpS X.K W (lift2 r) g) (ha : DE X W a fa) (hb : DE X W b fb) (hp : PlainIx b) : DE X W (.Subscript a b pos) (mop [fa, fb] g) :=
  PE.imp (pe_ix ho ha hb hp) fun σ H Q h => mop_run hs h
variable {x : Str} {p : Pos} {e : Expr} {es : List Expr} {fs : List (M EV)} {id T : String} {r : List V → Hp → VK → Prop}
theorem de_callB (hc : CallR X (.builtin id) r) (hs : OpS X.K W r g) (hg : Gl X x) (hm : X.mg x = none) (hv : bootBuiltins x = some (.builtin id)) (ha : DAs X W (e :: es) fs) (hn : x ≠ "__name__" := by decide) (hdb : (x == ("__debug__" : Str)) = false := by decide)
    (he : starEach (e :: es) X.env = (false, eval e X.env) :: starEach es X.env := by rfl) (hpl : (backTo pos (starEach es X.env)).any (·.1) = false := by rfl) : DE X W (.Call (.Name x p) (e :: es) [] pos) (mop fs g) :=
  PE.imp (pe_callB hc hg hm hv ha hn hdb he hpl) fun σ H Q h => mop_run hs h
theorem de_callTy (hc : CallR X (.type T) r) (hs : OpS X.K W r g) (hg : Gl X x) (hm : X.mg x = none) (hv : bootBuiltins x = some (.type T)) (ha : DAs X W (e :: es) fs) (hn : x ≠ "__name__" := by decide) (hdb : (x == ("__debug__" : Str)) = false := by decide)
    (he : starEach (e :: es) X.env = (false, eval e X.env) :: starEach es X.env := by rfl) (hpl : (backTo pos (starEach es X.env)).any (·.1) = false := by rfl) : DE X W (.Call (.Name x p) (e :: es) [] pos) (mop fs g) :=
  PE.imp (pe_callTy hc hg hm hv ha hn hdb he hpl) fun σ H Q h => mop_run hs h
def rTup : List V → Hp → VK → Prop := fun xs H1 Q => xs.length ≤ sizeLine ∧ ∀ p, H1 p = none → Q (.ref p) (upd H1 p (.tup xs))
def rLst : List V → Hp → VK → Prop := fun xs H1 Q => xs.length ≤ sizeLine ∧ ∀ p, H1 p = none → Q (.ref p) (upd H1 p (.lst xs))
theorem de_tup {k} (hs : OpS X.K W rTup g) (ha : DAs X W es fs) : DE X W (.Tuple es k pos) (mop fs g) := PE.imp (pe_tup ha) fun σ H Q h => mop_run hs h
theorem de_lst (hs : OpS X.K W rLst g) (ha : DAs X W es fs) : DE X W (.List es pos) (mop fs g) := PE.imp (pe_lst ha) fun σ H Q h => mop_run hs h
end

/-! ### what is to be seen of a value -/
def look (x : EV) (ρ : Fr) : Option T := match x with
  | .val t => some t
  | .ptr j p => match ρ.sl[j]? with
    | some (.own t) => t.at p
    | _ => none
def deepOf (x : EV) (ρ : Fr) : Option D := match look x ρ with
  | none => none
  | some t => t.toD
structure Seen (K : PySem.W.Frag) (G H : Hp) (a : A) : Prop where
  nodes : ∀ n ∈ nodes a, ∃ o, n.2 = some o ∧ H n.1 = some o
  leaves : ∀ l ∈ leaves a, ∀ d, l.1 = some d → RepD K G d l.2
section
variable {K : PySem.W.Frag} {G H : Hp} {σ : L2.St} {F : AF} {R S : List A}
theorem OkT.seen {a : A} {ts : List A} (h : OkT K G H ts) (ha : a ∈ ts) : Seen K G H a :=
  ⟨fun n q => h.nodes n (List.mem_flatMap.mpr ⟨a, ha, q⟩), fun l q d e => h.leaves l (List.mem_flatMap.mpr ⟨a, ha, q⟩) d e⟩
theorem Seen.at {a c : A} {p : List D} (h : Seen K G H a) (e : a.at p = some c) : Seen K G H c := by
  obtain ⟨N1, N2, L1, L2, h1, h2, _⟩ := at_split e
  exact ⟨fun n q => h.nodes n (by rw [h1]; simp [q]), fun l q d e => h.leaves l (by rw [h2]; simp [q]) d e⟩
theorem mem_owns {sl : List AS} {i : Nat} {a : A} (h : sl[i]? = some (.own a)) : a ∈ owns sl :=
  List.mem_flatMap.mpr ⟨.own a, List.mem_of_getElem? h, by simp [AS.trees]⟩
theorem Seen.rep {a : A} {d : D} (h : Seen K G H a) (s : Sub G H) (e : (er a).toD = some d) : RepD K H d a.val :=
  rep_of_tree h.nodes (fun l q d e => RepD.mono (.of_sub s) (h.leaves l q d e)) e
theorem sl_er {F : AF} {j : Nat} : F.er.sl[j]? = (F.sl[j]?).map AS.er := by simp [AF.er]
theorem Rel.look {x : AV} {t : T} (r : Rel K G H σ F S) (hx : x.Ok F.sl) (hm : ∀ a ∈ x.trees, a ∈ S) (e : look x.er F.er = some t) : ∃ a : A, er a = t ∧ a.val = x.v ∧ Seen K G H a := by
  cases x with
  | val a =>
    have e : LT.er a = t := Option.some.inj e
    exact ⟨a, e, rfl, r.ok.seen (by simp [hm a (by simp [AV.trees])])⟩
  | ptr j p v =>
    obtain ⟨a, c, h1, h2, h3⟩ := hx
    have e' : (er a).at p = some t := by
      simp only [AV.er, LT.look, sl_er, h1] at e
      exact e
    rw [er_at, h2] at e'
    exact ⟨c, Option.some.inj e', h3, (r.ok.seen (by simp [mem_owns h1])).at h2⟩
theorem Rel.deep {x : AV} {d : D} (r : Rel K G H σ F S) (hx : x.Ok F.sl) (hm : ∀ a ∈ x.trees, a ∈ S) (e : deepOf x.er F.er = some d) : RepD K H d x.v := by
  unfold deepOf at e
  cases q : LT.look x.er F.er with
  | none => rw [q] at e; cases e
  | some t =>
    rw [q] at e
    obtain ⟨a, h1, h2, h3⟩ := r.look hx hm q
    subst h1
    rw [← h2]
    exact h3.rep r.ok.sub e
def deepsOf (xs : List EV) (ρ : Fr) : Option (List D) := match xs with
  | [] => some []
  | x :: xs => match deepOf x ρ with
    | none => none
    | some d => match deepsOf xs ρ with
      | none => none
      | some ds => some (d :: ds)
theorem Rel.deeps {G H : Hp} {S : List A} (r : Rel K G H σ F S) : ∀ {as : List AV} {ds : List D}, (∀ x ∈ as, x.Ok F.sl) → (∀ x ∈ as, ∀ a ∈ x.trees, a ∈ S) → deepsOf (as.map AV.er) F.er = some ds → RepDs K H ds (as.map AV.v)
  | [], ds, _, _, e => by cases e; exact .nil
  | x :: as, ds, h1, h2, e => by
    simp only [List.map_cons, deepsOf] at e
    cases q : deepOf x.er F.er with
    | none => rw [q] at e; cases e
    | some d =>
      rw [q] at e
      cases q2 : deepsOf (as.map AV.er) F.er with
      | none => rw [q2] at e; cases e
      | some ds' =>
        rw [q2] at e
        cases e
        exact .cons (r.deep (h1 x (by simp)) (h2 x (by simp)) q) (r.deeps (fun y hy => h1 y (by simp [hy])) (fun y hy => h2 y (by simp [hy])) q2)
theorem mem_avs {as : List AV} {x : AV} {a : A} (hx : x ∈ as) (ha : a ∈ x.trees) : a ∈ avs as := List.mem_flatMap.mpr ⟨x, hx, ha⟩
end
/-- a plain value -/
def sval : D → Option V
  | .none => some .non
  | .bool b => some (.bl b)
  | .int i => some (.int i)
  | .str s => some (.str s)
  | _ => none
theorem sval_rep {K : PySem.W.Frag} {G : Hp} {d : D} {v : V} (h : sval d = some v) : RepD K G d v := by
  cases d <;> cases h
  · exact .non
  · exact .bl _
  · exact .int _
  · exact .str _
@[reducible] def EV.d (d : D) : EV := .val (.leaf (some d))
/-- an operation that only reads and gives a plain value -/
def dop (op : List D → Option D) (xs : List EV) : M EV := fun ρ => match deepsOf xs ρ with
  | none => none
  | some ds => match op ds with
    | none => none
    | some d => match sval d with
      | none => none
      | some _ => some (.ok (.d d), ρ)
theorem Rel.leafNew {K : PySem.W.Frag} {G H : Hp} {σ : L2.St} {F : AF} {R : List A} {d : D} {v : V} (r : Rel K G H σ F R) (h : RepD K G d v) : Rel K G H σ F (.leaf (some d, v) :: R) := by
  refine ⟨⟨r.ok.sub, fun n q => r.ok.nodes n (by simpa [nodes] using q), fun l q x e => ?_, fun b => by simpa [nodes] using r.ok.one b, fun n q => r.ok.free n (by simpa [nodes] using q)⟩, r.len, r.own, r.al, r.tm, r.io⟩
  simp only [allL_append, allL_cons, leaves, List.mem_append, List.mem_cons, List.not_mem_nil, or_false] at q
  rcases q with q | q | q
  · exact r.ok.leaves l (by simp [q]) x e
  · subst q; cases e; exact h
  · exact r.ok.leaves l (by simp [q]) x e
theorem ops_read {K : PySem.W.Frag} {W : WX} {r : List V → Hp → VK → Prop} {op : List D → Option D}
    (hr : ∀ (H : Hp) (vs : List V) (ds : List D) (d : D) (v : V) (Q : VK), RepDs K H ds vs → op ds = some d → sval d = some v → Q v H → r vs H Q) : OpS K W r (dop op) := by
  intro G H σ F R as Q rel ok res
  obtain ⟨rr, ρ', e, k⟩ := res
  unfold dop at e
  cases q : deepsOf (as.map AV.er) F.er with
  | none => rw [q] at e; cases e
  | some ds =>
    rw [q] at e
    cases q2 : op ds with
    | none => simp only [q2] at e; cases e
    | some d =>
      simp only [q2] at e
      cases q3 : sval d with
      | none => simp only [q3] at e; cases e
      | some v =>
        simp only [q3] at e
        cases e
        refine hr H _ ds d v Q (rel.deeps ok (fun x hx a ha => by simp [mem_avs hx ha]) q) q2 q3 ?_
        exact k G H F (Nx.refl _ _) rfl (.val (.leaf (some d, v))) (by simpa [AV.trees] using rel.drop.leafNew (sval_rep q3)) trivial rfl

/-! ### ghosts: what is done to the frame alone -/
def GhostOk (K : PySem.W.Frag) (g : EV → Fr → Option (EV × Fr)) : Prop :=
  ∀ (G H : Hp) (σ : L2.St) (F : AF) (R : List A) (av : AV) (ev' : EV) (ρ' : Fr), Rel K G H σ F (av.trees ++ R) → av.Ok F.sl → g av.er F.er = some (ev', ρ') →
    ∃ G' F' av', Nx G G' F F' ∧ F'.er = ρ' ∧ AV.er av' = ev' ∧ av'.v = av.v ∧ av'.Ok F'.sl ∧ Rel K G' H σ F' (av'.trees ++ R)
def M.ghost (g : EV → Fr → Option (EV × Fr)) (f : M EV) : M EV := M.bind f fun x ρ => match g x ρ with
  | none => none
  | some (x', ρ') => some (.ok x', ρ')
theorem de_ghost {X : Cx} {W : WX} {e : Expr} {f : M EV} {g : EV → Fr → Option (EV × Fr)} (hg : GhostOk X.K g) (h : DE X W e f) : DE X W e (M.ghost g f) := by
  refine PE.imp h fun σ H Q hq => ?_
  obtain ⟨G, F, R, rel, res, ρ', e, k⟩ := hq
  unfold M.ghost M.bind at e
  cases q1 : f F.er with
  | none => rw [q1] at e; cases e
  | some y1 =>
    obtain ⟨r1, ρ1⟩ := y1
    rw [q1] at e
    cases r1 with
    | error ex => cases e; exact ⟨G, F, R, rel, _, _, q1, k⟩
    | ok x =>
      refine ⟨G, F, R, rel, _, _, q1, fun G1 H1 F1 n1 e1 av rel1 ok1 ex1 => ?_⟩
      subst ex1
      subst e1
      simp only at e
      cases q2 : g av.er F1.er with
      | none => rw [q2] at e; cases e
      | some y2 =>
        obtain ⟨x', ρ2⟩ := y2
        rw [q2] at e
        cases e
        obtain ⟨G2, F2, av2, n2, e2, e3, e4, ok2, rel2⟩ := hg G1 H1 σ F1 R av _ _ rel1 ok1 q2
        rw [← e4]
        exact k G2 H1 F2 (n1.trans n2) e2 av2 rel2 ok2 e3
end LT

/-! LA5: == and in, of data. -/
namespace LT
open PySem PySem.Spec L2 PySem.SeqAt

mutual
/-- no dict within -/
def nd : D → Bool
  | .list xs => nds xs
  | .tuple xs => nds xs
  | .dict _ => false
  | _ => true
def nds : List D → Bool
  | [] => true
  | x :: xs => nd x && nds xs
end
mutual
theorem eqv_refl' : ∀ d : D, nd d = true → PyData.eqv d d = true
  | .none, _ => rfl
  | .bool b, _ => by simp [PyData.eqv]
  | .int i, _ => by simp [PyData.eqv]
  | .str s, _ => by simp [PyData.eqv]
  | .list xs, h => by rw [PyData.eqv]; exact eqvAll_refl' xs h
  | .tuple xs, h => by rw [PyData.eqv]; exact eqvAll_refl' xs h
  | .dict _, h => by cases h
theorem eqvAll_refl' : ∀ xs : List D, nds xs = true → PyData.eqvAll xs xs = true
  | [], _ => rfl
  | x :: xs, h => by
    have h' : nd x = true ∧ nds xs = true := by simpa [nds] using h
    rw [PyData.eqvAll, eqv_refl' x h'.1, eqvAll_refl' xs h'.2]; rfl
end
section
variable {K : PySem.W.Frag} {H : Hp}
mutual
theorem RepD.inj : ∀ {d e : D} {v : V}, nd d = true → RepD K H d v → RepD K H e v → d = e
  | _, _, _, _, .non, h => by cases h; rfl
  | _, _, _, _, .bl b, h => by cases h; rfl
  | _, _, _, _, .int b, h => by cases h; rfl
  | _, _, _, _, .str b, h => by cases h; rfl
  | _, _, _, n, .lst e r, h => by
    cases h with
    | lst e' r' => rw [e] at e'; cases e'; rw [RepDs.inj n r r']
    | tup e' r' => rw [e] at e'; cases e'
    | dct e' r' => rcases e' with e' | ⟨o, e'⟩ <;> rw [e] at e' <;> cases e'
  | _, _, _, n, .tup e r, h => by
    cases h with
    | lst e' r' => rw [e] at e'; cases e'
    | tup e' r' => rw [e] at e'; cases e'; rw [RepDs.inj n r r']
    | dct e' r' => rcases e' with e' | ⟨o, e'⟩ <;> rw [e] at e' <;> cases e'
  | _, _, _, n, .dct e r _, h => by cases n
theorem RepDs.inj : ∀ {d e : List D} {v : List V}, nds d = true → RepDs K H d v → RepDs K H e v → d = e
  | _, _, _, _, .nil, h => by cases h; rfl
  | _, _, _, n, .cons a b, h => by
    cases h with
    | cons a' b' =>
      simp only [nds, Bool.and_eq_true] at n
      rw [RepD.inj n.1 a a', RepDs.inj n.2 b b']
end
end
section
variable {X : Cx} {pins : List (Addr × Obj)} {σ : L2.St} {H : Hp} {s : Shared}
theorem Inv.isL (I : Inv X pins σ H s) {a : Addr} {vs : List V} (h : H a = some (.lst vs)) : ∃ its : List Value, Vals vs its ∧ s.heap.IsList a its.toArray := by
  obtain ⟨its, r, p, _⟩ := I.list (SqL.of h)
  exact ⟨its, r, p.isList⟩
theorem Inv.isT (I : Inv X pins σ H s) {a : Addr} {vs : List V} (h : H a = some (.tup vs)) : ∃ its : List Value, Vals vs its ∧ s.heap.IsTuple a its.toArray := by
  obtain ⟨its, r, p, _⟩ := I.tuple (SqT.of h)
  exact ⟨its, r, p⟩
mutual
theorem eqAt_rep (I : Inv X pins σ H s) : ∀ (da db : D) (A : Around) (x y : V) (a b : Value), RepD X.K H da x → RepD X.K H db y → RelV x a → RelV y b → nd da = true → nd db = true →
    A.units + min da.depth db.depth < cLine → EqAt A s a b (PyData.eqv da db)
  | .none, _, A, _, _, _, _, ra, rb, va, vb, _, hb, hu => by
    cases ra; cases va
    cases rb with
    | non => cases vb; exact EqAt.same _
    | bl y => cases vb; exact EqAt.none_bool y
    | int y => obtain ⟨t, rfl⟩ := vb; exact EqAt.none_int y t
    | str y => obtain ⟨t, rfl⟩ := vb; exact EqAt.none_str y t
    | lst e r => cases vb; obtain ⟨its, _, p⟩ := Inv.isL I e; exact EqAt.none_list p (room_here hu)
    | tup e r => cases vb; obtain ⟨its, _, p⟩ := Inv.isT I e; exact EqAt.none_tuple p (room_here hu)
    | dct => cases hb
  | .bool x, _, A, _, _, _, _, ra, rb, va, vb, _, hb, hu => by
    cases ra; cases va
    cases rb with
    | non => cases vb; exact EqAt.bool_none x
    | bl y => cases vb; exact EqAt.bool_bool x y
    | int y => obtain ⟨t, rfl⟩ := vb; exact EqAt.bool_int x y t
    | str y => obtain ⟨t, rfl⟩ := vb; exact EqAt.bool_str x y t
    | lst e r => cases vb; obtain ⟨its, _, p⟩ := Inv.isL I e; exact EqAt.bool_list x p (room_here hu)
    | tup e r => cases vb; obtain ⟨its, _, p⟩ := Inv.isT I e; exact EqAt.bool_tuple x p (room_here hu)
    | dct => cases hb
  | .int x, _, A, _, _, _, _, ra, rb, va, vb, _, hb, hu => by
    cases ra; obtain ⟨t, rfl⟩ := va
    cases rb with
    | non => cases vb; exact EqAt.int_none x t
    | bl y => cases vb; exact EqAt.int_bool x t y
    | int y => obtain ⟨u, rfl⟩ := vb; exact EqAt.int_int x t y u
    | str y => obtain ⟨u, rfl⟩ := vb; exact EqAt.int_str x t y u
    | lst e r => cases vb; obtain ⟨its, _, p⟩ := Inv.isL I e; exact EqAt.int_list x t p (room_here hu)
    | tup e r => cases vb; obtain ⟨its, _, p⟩ := Inv.isT I e; exact EqAt.int_tuple x t p (room_here hu)
    | dct => cases hb
  | .str x, _, A, _, _, _, _, ra, rb, va, vb, _, hb, hu => by
    cases ra; obtain ⟨t, rfl⟩ := va
    cases rb with
    | non => cases vb; exact EqAt.str_none x t
    | bl y => cases vb; exact EqAt.str_bool x t y
    | int y => obtain ⟨u, rfl⟩ := vb; exact EqAt.str_int x t y u
    | str y => obtain ⟨u, rfl⟩ := vb; exact EqAt.str_str x t y u
    | lst e r => cases vb; obtain ⟨its, _, p⟩ := Inv.isL I e; exact EqAt.str_list x t p (room_here hu)
    | tup e r => cases vb; obtain ⟨its, _, p⟩ := Inv.isT I e; exact EqAt.str_tuple x t p (room_here hu)
    | dct => cases hb
  | .list xs, _, A, _, _, _, _, ra, rb, va, vb, ha, hb, hu => by
    cases ra with
    | lst e1 r1 =>
      cases va
      obtain ⟨its, v1, hl⟩ := Inv.isL I e1
      cases rb with
      | non => cases vb; exact EqAt.list_none hl (room_here hu)
      | bl y => cases vb; exact EqAt.list_bool y hl (room_here hu)
      | int y => obtain ⟨u, rfl⟩ := vb; exact EqAt.list_int y u hl (room_here hu)
      | str y => obtain ⟨u, rfl⟩ := vb; exact EqAt.list_str y u hl (room_here hu)
      | tup e r => cases vb; obtain ⟨its, _, p⟩ := Inv.isT I e; exact EqAt.list_tuple hl p (room_here hu)
      | dct => cases hb
      | @lst ys l' vs2 e2 r2 =>
        cases vb
        obtain ⟨its2, v2, hl'⟩ := Inv.isL I e2
        rename_i l vs1
        have n1 : its.toArray.size = xs.length := by have := r1.length; have := v1.length; simp; omega
        have n2 : its2.toArray.size = ys.length := by have := r2.length; have := v2.length; simp; omega
        show EqAt A s (.ref l) (.ref l') (PyData.eqvAll xs ys)
        by_cases hll : l = l'
        · subst hll
          rw [e1] at e2; cases e2
          have e : xs = ys := RepDs.inj ha r1 r2
          subst e
          rw [eqvAll_refl' xs ha]
          exact EqAt.same _
        · by_cases hsz : its.toArray.size = its2.toArray.size
          · rw [← eqvAll_same_length (by omega : xs.length = ys.length), ← n1]
            refine EqAt.of_refs hll (RcAt.lists hl hl' hsz (room_here hu) fun j j1 j2 => ?_)
            have := eqAt_reps I xs ys A.in1 _ _ _ _ r1 r2 v1 v2 ha hb (room_in hu) j (by simpa using j1) (by simpa using j2)
            simpa using this
          · rw [eqvAll_other_length (by omega : xs.length ≠ ys.length)]
            exact EqAt.of_refs hll (RcAt.lists_lengths hl hl' (by simpa using hsz) (room_here hu))
  | .tuple xs, _, A, _, _, _, _, ra, rb, va, vb, ha, hb, hu => by
    cases ra with
    | tup e1 r1 =>
      cases va
      obtain ⟨its, v1, hl⟩ := Inv.isT I e1
      cases rb with
      | non => cases vb; exact EqAt.tuple_none hl (room_here hu)
      | bl y => cases vb; exact EqAt.tuple_bool y hl (room_here hu)
      | int y => obtain ⟨u, rfl⟩ := vb; exact EqAt.tuple_int y u hl (room_here hu)
      | str y => obtain ⟨u, rfl⟩ := vb; exact EqAt.tuple_str y u hl (room_here hu)
      | lst e r => cases vb; obtain ⟨its, _, p⟩ := Inv.isL I e; exact EqAt.tuple_list hl p (room_here hu)
      | dct => cases hb
      | @tup ys l' vs2 e2 r2 =>
        cases vb
        obtain ⟨its2, v2, hl'⟩ := Inv.isT I e2
        rename_i l vs1
        have n1 : its.toArray.size = xs.length := by have := r1.length; have := v1.length; simp; omega
        have n2 : its2.toArray.size = ys.length := by have := r2.length; have := v2.length; simp; omega
        show EqAt A s (.ref l) (.ref l') (PyData.eqvAll xs ys)
        by_cases hll : l = l'
        · subst hll
          rw [e1] at e2; cases e2
          have e : xs = ys := RepDs.inj ha r1 r2
          subst e
          rw [eqvAll_refl' xs ha]
          exact EqAt.same _
        · rw [← eqvAll_eq xs ys, ← n1, ← n2]
          refine EqAt.of_refs hll (RcAt.tuples hl hl' (room_here hu) fun j j1 j2 => ?_)
          have := eqAt_reps I xs ys A.in1 _ _ _ _ r1 r2 v1 v2 ha hb (room_in hu) j (by simpa using j1) (by simpa using j2)
          simpa using this
  | .dict _, _, _, _, _, _, _, _, _, _, _, ha, _, _ => nomatch ha
theorem eqAt_reps (I : Inv X pins σ H s) : ∀ (xs ys : List D) (A : Around) (vx vy : List V) (vs ws : List Value), RepDs X.K H xs vx → RepDs X.K H ys vy → Vals vx vs → Vals vy ws → nds xs = true → nds ys = true →
    A.units + min (PyData.depthAll xs) (PyData.depthAll ys) < cLine → ∀ j (h1 : j < vs.length) (h2 : j < ws.length), EqAt A s vs[j] ws[j] (pairEq xs ys j)
  | [], _, _, _, _, _, _, ra, _, va, _, _, _, _, j, h1, _ => by cases ra; cases va; exact absurd h1 (Nat.not_lt_zero _)
  | _ :: _, [], _, _, _, _, _, _, rb, _, vb, _, _, _, j, _, h2 => by cases rb; cases vb; exact absurd h2 (Nat.not_lt_zero _)
  | x :: xs, y :: ys, A, _, _, _, _, ra, rb, va, vb, ha, hb, hu, j, h1, h2 => by
    have ha' : nd x = true ∧ nds xs = true := by simpa [nds] using ha
    have hb' : nd y = true ∧ nds ys = true := by simpa [nds] using hb
    cases ra with
    | cons r rs =>
      cases rb with
      | cons r' rs' =>
        cases va with
        | cons v vs' =>
          cases vb with
          | cons w ws' =>
            cases j with
            | zero => exact eqAt_rep I x y A _ _ _ _ r r' v w ha'.1 hb'.1 (room_head hu)
            | succ j => exact eqAt_reps I xs ys A _ _ _ _ rs rs' vs' ws' ha'.2 hb'.2 (room_tail hu) j (Nat.lt_of_succ_lt_succ h1) (Nat.lt_of_succ_lt_succ h2)
end
end

section
variable {X : Cx} {pins : List (Addr × Obj)} {σ : L2.St} {H : Hp} {s : Shared}
theorem rcAt_rep (I : Inv X pins σ H s) {da db : D} {A : Around} {x y : V} {a b : Value} (ra : RepD X.K H da x) (rb : RepD X.K H db y) (va : RelV x a) (vb : RelV y b) (ha : nd da = true) (hb : nd db = true)
    (hu : A.units + min da.depth db.depth < cLine) : RcAt A s a b (PyData.eqv da db) := by
  cases ra with
  | non =>
    cases va
    cases rb with
    | non => cases vb; exact RcAt.none_none
    | bl y => cases vb; exact RcAt.none_bool y
    | int y => obtain ⟨u, rfl⟩ := vb; exact RcAt.none_int y u
    | str y => obtain ⟨u, rfl⟩ := vb; exact RcAt.none_str y u
    | lst e r => cases vb; obtain ⟨its, _, p⟩ := Inv.isL I e; exact RcAt.none_list p (room_here hu)
    | tup e r => cases vb; obtain ⟨its, _, p⟩ := Inv.isT I e; exact RcAt.none_tuple p (room_here hu)
    | dct => cases hb
  | bl x =>
    cases va
    cases rb with
    | non => cases vb; exact RcAt.bool_none x
    | bl y => cases vb; exact RcAt.bool_bool x y
    | int y => obtain ⟨u, rfl⟩ := vb; exact RcAt.bool_int x y u
    | str y => obtain ⟨u, rfl⟩ := vb; exact RcAt.bool_str x y u
    | lst e r => cases vb; obtain ⟨its, _, p⟩ := Inv.isL I e; exact RcAt.bool_list x p (room_here hu)
    | tup e r => cases vb; obtain ⟨its, _, p⟩ := Inv.isT I e; exact RcAt.bool_tuple x p (room_here hu)
    | dct => cases hb
  | int x =>
    obtain ⟨t, rfl⟩ := va
    cases rb with
    | non => cases vb; exact RcAt.int_none x t
    | bl y => cases vb; exact RcAt.int_bool x t y
    | int y => obtain ⟨u, rfl⟩ := vb; exact RcAt.int_int x t y u
    | str y => obtain ⟨u, rfl⟩ := vb; exact RcAt.int_str x t y u
    | lst e r => cases vb; obtain ⟨its, _, p⟩ := Inv.isL I e; exact RcAt.int_list x t p (room_here hu)
    | tup e r => cases vb; obtain ⟨its, _, p⟩ := Inv.isT I e; exact RcAt.int_tuple x t p (room_here hu)
    | dct => cases hb
  | str x =>
    obtain ⟨t, rfl⟩ := va
    cases rb with
    | non => cases vb; exact RcAt.str_none x t
    | bl y => cases vb; exact RcAt.str_bool x t y
    | int y => obtain ⟨u, rfl⟩ := vb; exact RcAt.str_int x t y u
    | str y => obtain ⟨u, rfl⟩ := vb; exact RcAt.str_str x t y u
    | lst e r => cases vb; obtain ⟨its, _, p⟩ := Inv.isL I e; exact RcAt.str_list x t p (room_here hu)
    | tup e r => cases vb; obtain ⟨its, _, p⟩ := Inv.isT I e; exact RcAt.str_tuple x t p (room_here hu)
    | dct => cases hb
  | @lst xs l vs1 e1 r1 =>
    cases va
    obtain ⟨its, v1, hl⟩ := Inv.isL I e1
    cases rb with
    | non => cases vb; exact RcAt.list_none hl (room_here hu)
    | bl y => cases vb; exact RcAt.list_bool y hl (room_here hu)
    | int y => obtain ⟨u, rfl⟩ := vb; exact RcAt.list_int y u hl (room_here hu)
    | str y => obtain ⟨u, rfl⟩ := vb; exact RcAt.list_str y u hl (room_here hu)
    | tup e r => cases vb; obtain ⟨its, _, p⟩ := Inv.isT I e; exact RcAt.list_tuple hl p (room_here hu)
    | dct => cases hb
    | @lst ys l' vs2 e2 r2 =>
      cases vb
      obtain ⟨its2, v2, hl'⟩ := Inv.isL I e2
      have n1 : its.toArray.size = xs.length := by have := r1.length; have := v1.length; simp; omega
      have n2 : its2.toArray.size = ys.length := by have := r2.length; have := v2.length; simp; omega
      have he : ∀ j (j1 : j < its.toArray.size) (j2 : j < its2.toArray.size), EqAt A.in1 s its.toArray[j] its2.toArray[j] (pairEq xs ys j) := fun j j1 j2 => by
        have := eqAt_reps I xs ys A.in1 _ _ _ _ r1 r2 v1 v2 ha hb (room_in hu) j (by simpa using j1) (by simpa using j2)
        simpa using this
      show RcAt A s (.ref l) (.ref l') (PyData.eqvAll xs ys)
      by_cases hsz : its.toArray.size = its2.toArray.size
      · rw [← eqvAll_same_length (by omega : xs.length = ys.length), ← n1]
        exact RcAt.lists hl hl' hsz (room_here hu) he
      · rw [eqvAll_other_length (by omega : xs.length ≠ ys.length)]
        exact RcAt.lists_lengths hl hl' (by simpa using hsz) (room_here hu)
  | @tup xs l vs1 e1 r1 =>
    cases va
    obtain ⟨its, v1, hl⟩ := Inv.isT I e1
    cases rb with
    | non => cases vb; exact RcAt.tuple_none hl (room_here hu)
    | bl y => cases vb; exact RcAt.tuple_bool y hl (room_here hu)
    | int y => obtain ⟨u, rfl⟩ := vb; exact RcAt.tuple_int y u hl (room_here hu)
    | str y => obtain ⟨u, rfl⟩ := vb; exact RcAt.tuple_str y u hl (room_here hu)
    | lst e r => cases vb; obtain ⟨its, _, p⟩ := Inv.isL I e; exact RcAt.tuple_list hl p (room_here hu)
    | dct => cases hb
    | @tup ys l' vs2 e2 r2 =>
      cases vb
      obtain ⟨its2, v2, hl'⟩ := Inv.isT I e2
      have n1 : its.toArray.size = xs.length := by have := r1.length; have := v1.length; simp; omega
      have n2 : its2.toArray.size = ys.length := by have := r2.length; have := v2.length; simp; omega
      have he : ∀ j (j1 : j < its.toArray.size) (j2 : j < its2.toArray.size), EqAt A.in1 s its.toArray[j] its2.toArray[j] (pairEq xs ys j) := fun j j1 j2 => by
        have := eqAt_reps I xs ys A.in1 _ _ _ _ r1 r2 v1 v2 ha hb (room_in hu) j (by simpa using j1) (by simpa using j2)
        simpa using this
      show RcAt A s (.ref l) (.ref l') (PyData.eqvAll xs ys)
      rw [← eqvAll_eq xs ys, ← n1, ← n2]
      exact RcAt.tuples hl hl' (room_here hu) he
  | dct => cases ha
theorem rcNeAt_rep (I : Inv X pins σ H s) {da db : D} {A : Around} {x y : V} {a b : Value} (ra : RepD X.K H da x) (rb : RepD X.K H db y) (va : RelV x a) (vb : RelV y b) (ha : nd da = true) (hb : nd db = true)
    (hu : A.units + min da.depth db.depth < cLine) : RcNeAt A s a b (!PyData.eqv da db) := by
  cases ra with
  | non =>
    cases va
    cases rb with
    | non => cases vb; exact RcNeAt.none_none
    | bl y => cases vb; exact RcNeAt.none_bool y
    | int y => obtain ⟨u, rfl⟩ := vb; exact RcNeAt.none_int y u
    | str y => obtain ⟨u, rfl⟩ := vb; exact RcNeAt.none_str y u
    | lst e r => cases vb; obtain ⟨its, _, p⟩ := Inv.isL I e; exact RcNeAt.none_list p (room_here hu)
    | tup e r => cases vb; obtain ⟨its, _, p⟩ := Inv.isT I e; exact RcNeAt.none_tuple p (room_here hu)
    | dct => cases hb
  | bl x =>
    cases va
    cases rb with
    | non => cases vb; exact RcNeAt.bool_none x
    | bl y => cases vb; exact RcNeAt.bool_bool x y
    | int y => obtain ⟨u, rfl⟩ := vb; exact RcNeAt.bool_int x y u
    | str y => obtain ⟨u, rfl⟩ := vb; exact RcNeAt.bool_str x y u
    | lst e r => cases vb; obtain ⟨its, _, p⟩ := Inv.isL I e; exact RcNeAt.bool_list x p (room_here hu)
    | tup e r => cases vb; obtain ⟨its, _, p⟩ := Inv.isT I e; exact RcNeAt.bool_tuple x p (room_here hu)
    | dct => cases hb
  | int x =>
    obtain ⟨t, rfl⟩ := va
    cases rb with
    | non => cases vb; exact RcNeAt.int_none x t
    | bl y => cases vb; exact RcNeAt.int_bool x t y
    | int y => obtain ⟨u, rfl⟩ := vb; exact RcNeAt.int_int x t y u
    | str y => obtain ⟨u, rfl⟩ := vb; exact RcNeAt.int_str x t y u
    | lst e r => cases vb; obtain ⟨its, _, p⟩ := Inv.isL I e; exact RcNeAt.int_list x t p (room_here hu)
    | tup e r => cases vb; obtain ⟨its, _, p⟩ := Inv.isT I e; exact RcNeAt.int_tuple x t p (room_here hu)
    | dct => cases hb
  | str x =>
    obtain ⟨t, rfl⟩ := va
    cases rb with
    | non => cases vb; exact RcNeAt.str_none x t
    | bl y => cases vb; exact RcNeAt.str_bool x t y
    | int y => obtain ⟨u, rfl⟩ := vb; exact RcNeAt.str_int x t y u
    | str y => obtain ⟨u, rfl⟩ := vb; exact RcNeAt.str_str x t y u
    | lst e r => cases vb; obtain ⟨its, _, p⟩ := Inv.isL I e; exact RcNeAt.str_list x t p (room_here hu)
    | tup e r => cases vb; obtain ⟨its, _, p⟩ := Inv.isT I e; exact RcNeAt.str_tuple x t p (room_here hu)
    | dct => cases hb
  | @lst xs l vs1 e1 r1 =>
    cases va
    obtain ⟨its, v1, hl⟩ := Inv.isL I e1
    cases rb with
    | non => cases vb; exact RcNeAt.list_none hl (room_here hu)
    | bl y => cases vb; exact RcNeAt.list_bool y hl (room_here hu)
    | int y => obtain ⟨u, rfl⟩ := vb; exact RcNeAt.list_int y u hl (room_here hu)
    | str y => obtain ⟨u, rfl⟩ := vb; exact RcNeAt.list_str y u hl (room_here hu)
    | tup e r => cases vb; obtain ⟨its, _, p⟩ := Inv.isT I e; exact RcNeAt.list_tuple hl p (room_here hu)
    | dct => cases hb
    | @lst ys l' vs2 e2 r2 =>
      cases vb
      obtain ⟨its2, v2, hl'⟩ := Inv.isL I e2
      have n1 : its.toArray.size = xs.length := by have := r1.length; have := v1.length; simp; omega
      have n2 : its2.toArray.size = ys.length := by have := r2.length; have := v2.length; simp; omega
      have he : ∀ j (j1 : j < its.toArray.size) (j2 : j < its2.toArray.size), EqAt A.in1 s its.toArray[j] its2.toArray[j] (pairEq xs ys j) := fun j j1 j2 => by
        have := eqAt_reps I xs ys A.in1 _ _ _ _ r1 r2 v1 v2 ha hb (room_in hu) j (by simpa using j1) (by simpa using j2)
        simpa using this
      show RcNeAt A s (.ref l) (.ref l') (!PyData.eqvAll xs ys)
      by_cases hsz : its.toArray.size = its2.toArray.size
      · rw [← eqvAll_same_length (by omega : xs.length = ys.length), ← n1]
        exact RcNeAt.lists hl hl' hsz (room_here hu) he
      · rw [eqvAll_other_length (by omega : xs.length ≠ ys.length)]
        exact RcNeAt.lists_lengths hl hl' (by simpa using hsz) (room_here hu)
  | @tup xs l vs1 e1 r1 =>
    cases va
    obtain ⟨its, v1, hl⟩ := Inv.isT I e1
    cases rb with
    | non => cases vb; exact RcNeAt.tuple_none hl (room_here hu)
    | bl y => cases vb; exact RcNeAt.tuple_bool y hl (room_here hu)
    | int y => obtain ⟨u, rfl⟩ := vb; exact RcNeAt.tuple_int y u hl (room_here hu)
    | str y => obtain ⟨u, rfl⟩ := vb; exact RcNeAt.tuple_str y u hl (room_here hu)
    | lst e r => cases vb; obtain ⟨its, _, p⟩ := Inv.isL I e; exact RcNeAt.tuple_list hl p (room_here hu)
    | dct => cases hb
    | @tup ys l' vs2 e2 r2 =>
      cases vb
      obtain ⟨its2, v2, hl'⟩ := Inv.isT I e2
      have n1 : its.toArray.size = xs.length := by have := r1.length; have := v1.length; simp; omega
      have n2 : its2.toArray.size = ys.length := by have := r2.length; have := v2.length; simp; omega
      have he : ∀ j (j1 : j < its.toArray.size) (j2 : j < its2.toArray.size), EqAt A.in1 s its.toArray[j] its2.toArray[j] (pairEq xs ys j) := fun j j1 j2 => by
        have := eqAt_reps I xs ys A.in1 _ _ _ _ r1 r2 v1 v2 ha hb (room_in hu) j (by simpa using j1) (by simpa using j2)
        simpa using this
      show RcNeAt A s (.ref l) (.ref l') (!PyData.eqvAll xs ys)
      rw [← eqvAll_eq xs ys, ← n1, ← n2]
      exact RcNeAt.tuples hl hl' (room_here hu) he
  | dct => cases ha
end
section
variable {X : Cx}
def deepOk (d : D) : Bool := nd d && decide (d.depth ≤ 60)
theorem deepOk_iff {d : D} (h : deepOk d = true) : nd d = true ∧ d.depth ≤ 60 := by simpa [deepOk] using h
def rEqR (K : PySem.W.Frag) : R2 := fun x y H Q => ∃ d e, RepD K H d x ∧ RepD K H e y ∧ deepOk d = true ∧ deepOk e = true ∧ Q (.bl (PyData.eqv d e)) H
def rNeR (K : PySem.W.Frag) : R2 := fun x y H Q => ∃ d e, RepD K H d x ∧ RepD K H e y ∧ deepOk d = true ∧ deepOk e = true ∧ Q (.bl (!PyData.eqv d e)) H
theorem op_eqR (hu : X.A.units + 64 < cLine) : OpR X (compareOp .Eq) (rEqR X.K) := by
  intro pins s σ H x y v u Q I rx ry h
  obtain ⟨d, e, h1, h2, k1, k2, q⟩ := h
  obtain ⟨n1, l1⟩ := deepOk_iff k1
  obtain ⟨n2, l2⟩ := deepOk_iff k2
  exact rcAt_rep I h1 h2 rx ry n1 n2 (by omega) X.prog X.w X.xe _ ⟨.bl _, H, I, rfl, q⟩
theorem op_neR (hu : X.A.units + 64 < cLine) : OpR X (compareOp .NotEq) (rNeR X.K) := by
  intro pins s σ H x y v u Q I rx ry h
  obtain ⟨d, e, h1, h2, k1, k2, q⟩ := h
  obtain ⟨n1, l1⟩ := deepOk_iff k1
  obtain ⟨n2, l2⟩ := deepOk_iff k2
  exact rcNeAt_rep I h1 h2 rx ry n1 n2 (by omega) X.prog X.w X.xe _ ⟨.bl _, H, I, rfl, q⟩
open Classical in
/-- the deep value of a value of the model -/
noncomputable def readV (K : PySem.W.Frag) (H : Hp) (u : Value) : D := if h : ∃ d v, nd d = true ∧ RelV v u ∧ RepD K H d v then h.choose else .none
theorem readV_eq {K : PySem.W.Frag} {H : Hp} {u : Value} {d : D} {v : V} (n : nd d = true) (r : RelV v u) (h : RepD K H d v) : readV K H u = d := by
  have hx : ∃ d v, nd d = true ∧ RelV v u ∧ RepD K H d v := ⟨d, v, n, r, h⟩
  unfold readV
  rw [dif_pos hx]
  obtain ⟨v', n', r', h'⟩ := hx.choose_spec
  have e : v' = v := r'.inj r
  subst e
  exact RepD.inj n' h' h
theorem mem_rep {K : PySem.W.Frag} {H : Hp} : ∀ {xs : List D} {vs : List V} {us : List Value}, RepDs K H xs vs → Vals vs us → nds xs = true → ∀ u ∈ us, ∃ d v, RelV v u ∧ RepD K H d v ∧ nd d = true ∧ d.depth ≤ PyData.depthAll xs
  | _, _, _, .nil, v, _, u, hu => by cases v; cases hu
  | _, _, _, .cons (xs := ds) a b, v, n, u, hu => by
    simp only [nds, Bool.and_eq_true] at n
    cases v with
    | cons v1 v2 =>
      rcases List.mem_cons.mp hu with rfl | hu
      · exact ⟨_, _, v1, a, n.1, Nat.le_max_left _ _⟩
      · obtain ⟨d, v, h1, h2, h3, h4⟩ := mem_rep b v2 n.2 u hu
        exact ⟨d, v, h1, h2, h3, Nat.le_trans h4 (Nat.le_max_right _ _)⟩
theorem map_readV {K : PySem.W.Frag} {H : Hp} : ∀ {xs : List D} {vs : List V} {us : List Value}, RepDs K H xs vs → Vals vs us → nds xs = true → us.map (readV K H) = xs
  | _, _, _, .nil, v, _ => by cases v; rfl
  | _, _, _, .cons a b, v, n => by
    simp only [nds, Bool.and_eq_true] at n
    cases v with
    | cons v1 v2 => rw [List.map_cons, readV_eq n.1 v1 a, map_readV b v2 n.2]
theorem items_at {pins : List (Addr × Obj)} {σ : L2.St} {H : Hp} {s : Shared} (I : Inv X pins σ H s) {xs : List D} {vs : List V} {us : List Value} {d : D} {v : V} {u : Value} {A : Around} (r : RepDs X.K H xs vs) (rv : Vals vs us) (n : nds xs = true) (rd : RepD X.K H d v) (ru : RelV v u) (nd' : nd d = true)
    (hu : A.units + 1 + min (PyData.depthAll xs) d.depth < cLine) : ∀ y, y ∈ us.toArray → EqAt A.in1 s y u (PyData.eqv (readV X.K H y) d) := fun y hy => by
  obtain ⟨dy, vy, h1, h2, h3, h4⟩ := mem_rep r rv n y (by simpa using hy)
  rw [readV_eq h3 h1 h2]
  refine eqAt_rep I dy d A.in1 vy v y u h2 rd h1 ru h3 nd' ?_
  have : min dy.depth d.depth ≤ min (PyData.depthAll xs) d.depth := Nat.le_min.mpr ⟨Nat.le_trans (Nat.min_le_left _ _) h4, Nat.min_le_right _ _⟩
  show A.units + 1 + min dy.depth d.depth < cLine
  omega
theorem any_at {K : PySem.W.Frag} {H : Hp} {xs : List D} {vs : List V} {us : List Value} {d : D} (r : RepDs K H xs vs) (rv : Vals vs us) (n : nds xs = true) : us.toArray.any (fun y => PyData.eqv (readV K H y) d) = xs.any (fun y => PyData.eqv y d) := by
  rw [← map_readV r rv n, List.any_map]
  simp [Function.comp_def]
def seqOf : D → Option (List D)
  | .list xs => some xs
  | .tuple xs => some xs
  | _ => none
def rInR (K : PySem.W.Frag) (neg : Bool) : R2 := fun x y H Q => ∃ d c xs, RepD K H d x ∧ RepD K H c y ∧ seqOf c = some xs ∧ deepOk d = true ∧ nds xs = true ∧ Q (.bl (if neg then !(xs.any fun z => PyData.eqv z d) else xs.any fun z => PyData.eqv z d)) H
theorem op_inR (hu : X.A.units + 64 < cLine) : OpR X (compareOp .In) (rInR X.K false) := by
  intro pins s σ H x y v u Q I rx ry h
  obtain ⟨d, c, xs, h1, h2, e, k1, n, q⟩ := h
  obtain ⟨n1, l1⟩ := deepOk_iff k1
  cases h2 with
  | lst e1 r =>
    cases e; cases ry
    obtain ⟨its, rv, p⟩ := Inv.isL I e1
    exact in_listAt _ p (items_at I r rv n h1 rx n1 (by have := Nat.min_le_right (PyData.depthAll xs) d.depth; omega)) (by rw [any_at r rv n]; exact ⟨.bl _, H, I, rfl, q⟩)
  | tup e1 r =>
    cases e; cases ry
    obtain ⟨its, rv, p⟩ := Inv.isT I e1
    exact in_tupleAt _ p (items_at I r rv n h1 rx n1 (by have := Nat.min_le_right (PyData.depthAll xs) d.depth; omega)) (by rw [any_at r rv n]; exact ⟨.bl _, H, I, rfl, q⟩)
  | _ => cases e
theorem op_notInR (hu : X.A.units + 64 < cLine) : OpR X (compareOp .NotIn) (rInR X.K true) := by
  intro pins s σ H x y v u Q I rx ry h
  obtain ⟨d, c, xs, h1, h2, e, k1, n, q⟩ := h
  obtain ⟨n1, l1⟩ := deepOk_iff k1
  cases h2 with
  | lst e1 r =>
    cases e; cases ry
    obtain ⟨its, rv, p⟩ := Inv.isL I e1
    exact notIn_listAt _ p (items_at I r rv n h1 rx n1 (by have := Nat.min_le_right (PyData.depthAll xs) d.depth; omega)) (by rw [any_at r rv n]; exact ⟨.bl _, H, I, rfl, q⟩)
  | tup e1 r =>
    cases e; cases ry
    obtain ⟨its, rv, p⟩ := Inv.isT I e1
    exact notIn_tupleAt _ p (items_at I r rv n h1 rx n1 (by have := Nat.min_le_right (PyData.depthAll xs) d.depth; omega)) (by rw [any_at r rv n]; exact ⟨.bl _, H, I, rfl, q⟩)
  | _ => cases e
end
end LT

/-! LA6: operations. -/
namespace LT
open PySem PySem.Spec L2

/-! ### new objects -/
section
variable {K : PySem.W.Frag} {G H : Hp} {σ : L2.St} {F : AF} {R : List A}
theorem Rel.leavesNew {ds : List D} : ∀ {vs : List V}, RepDs K G ds vs → Rel K G H σ F R → ∃ bs : List A, bs.map er = ds.map (fun d => .leaf (some d)) ∧ bs.map TR.val = vs ∧ Rel K G H σ F (bs ++ R) := by
  induction ds with
  | nil => intro vs h r; cases h; exact ⟨[], rfl, rfl, r⟩
  | cons d ds ih =>
    intro vs h r
    cases h with
    | cons a b =>
      obtain ⟨bs, h1, h2, h3⟩ := ih b r
      exact ⟨.leaf (some d, _) :: bs, by simp [h1, er], by simp [h2, TR.val], h3.leafNew a⟩
theorem nodesL_zip : ∀ {cs : List (D × A)}, nodesL cs = allN (cs.map (·.2))
  | [] => rfl
  | (k, c) :: r => by simp [nodesL, nodesL_zip (cs := r)]
theorem leavesL_zip : ∀ {cs : List (D × A)}, leavesL cs = allL (cs.map (·.2))
  | [] => rfl
  | (k, c) :: r => by simp [leavesL, leavesL_zip (cs := r)]
/-- a new object made of trees -/
theorem Rel.newNode {k : NK} {cs : List (D × A)} {p : Addr} {o : HO} (r : Rel K G H σ F (cs.map (·.2) ++ R)) (hp : H p = none) (ho : nodeObjs k (p, 0) (vals cs) = [(p, some o)]) :
    Rel K G (upd H p o) σ F (.node (p, 0) k cs :: R) := by
  refine ⟨?_, r.len, r.own, r.al, r.tm, r.io⟩
  have h := r.ok.new (o := o) hp
  have en : nodes (.node (p, 0) k cs) = (p, some o) :: allN (cs.map (·.2)) := by
    show nodeObjs k (p, 0) (vals cs) ++ nodesL cs = _
    rw [ho, nodesL_zip]; rfl
  have el : leaves (.node (p, 0) k cs) = allL (cs.map (·.2)) := leavesL_zip
  refine Held.less h (fun n q => ?_) (fun b => ?_) (fun l q => ?_)
  · simp only [allN_append, allN_cons, en, List.mem_append, List.mem_cons] at q ⊢
    rcases q with q | (q | q) | q <;> simp [q]
  · show cnt b (allN (owns F.sl ++ (.node (p, 0) k cs :: R))) ≤ cnt b ([(p, some o)] ++ allN (owns F.sl ++ (cs.map (·.2) ++ R)))
    simp only [allN_append, allN_cons, en, cnt_append]
    have : cnt b ((p, some o) :: allN (cs.map (·.2))) = cnt b [(p, some o)] + cnt b (allN (cs.map (·.2))) := by
      rw [← cnt_append]; rfl
    omega
  · simp only [allL_append, allL_cons, el, List.mem_append] at q ⊢
    rcases q with q | q | q <;> simp [q]
theorem Rel.newG {p : Addr} {o : HO} (r : Rel K G H σ F R) (hp : H p = none) : Nx G (upd G p o) F F ∧ Rel K (upd G p o) (upd H p o) σ F R := by
  obtain ⟨s, h⟩ := Held.newG (o := o) r.ok hp
  exact ⟨⟨s, rfl, rfl, fun _ _ h => h⟩, ⟨h, r.len, r.own, r.al, r.tm, r.io⟩⟩
theorem Rel.dropL {S : List A} (r : Rel K G H σ F (S ++ R)) : Rel K G H σ F R := r.drop
theorem Sub.lst {G H : Hp} (s : Sub G H) {a : Addr} {xs : List V} (h : G a = some (.lst xs)) : H a = some (.lst xs) := (RdLe.of_sub s).lst _ _ h
theorem Sub.tup {G H : Hp} (s : Sub G H) {a : Addr} {xs : List V} (h : G a = some (.tup xs)) : H a = some (.tup xs) := (RdLe.of_sub s).tup _ _ h
end

/-! ### items of lists, tuples, dicts -/
def dlook (kvs : List (D × D)) (q : D) : Option D := (kvs.find? fun kv => kv.1.same q).map (·.2)
theorem RepKs.look {K : PySem.W.Frag} {G : Hp} {q : D} (hq : q.isKey = true) : ∀ {kvs : List (D × D)} {ks : List (Key × V)}, RepKs K G kvs ks →
    (∀ d, dlook kvs q = some d → ∃ v, valV ks q.key = some v ∧ RepD K G d v) ∧ (dlook kvs q = none → valV ks q.key = none)
  | _, _, .nil => ⟨fun d h => by simp [dlook] at h, fun _ => rfl⟩
  | _, _, .cons (k := k) (x := x) (v := v) (kvs := kvs) (ks := ks) hk a b => by
    have ih := RepKs.look hq b
    have e : k.same q = decide (k.key = q.key) := same_iff hk hq
    by_cases h : k.key = q.key
    · have e1 : k.same q = true := by rw [e]; exact decide_eq_true h
      have e2 : dlook ((k, x) :: kvs) q = some x := by simp [dlook, List.find?_cons, e1]
      rw [e2, valV_pos h]
      exact ⟨fun d hd => by cases hd; exact ⟨v, rfl, a⟩, fun hd => by cases hd⟩
    · have e1 : k.same q = false := by rw [e]; exact decide_eq_false h
      have e2 : dlook ((k, x) :: kvs) q = dlook kvs q := by simp [dlook, List.find?_cons, e1]
      rw [e2, valV_neg h]
      exact ih
theorem ix_dict {X : Cx} (hu : X.A.units + 1 < cLine) : IxR X (fun x y H Q => ∃ a v, x = .ref a ∧ DGet H a y (some v) ∧ Q v H) := by
  intro value slice pins s σ H x y v u Q I rx ry h hs
  obtain ⟨a, w, rfl, g, q⟩ := h
  cases rx
  exact PyProof.Rows.tail_any (dict_typeIs I g) PySem.F.slot_dict_getitem.lookup (d_getItem hu I g ry fun w' s3 I3 rw' => ⟨w, H, I3, rw', q⟩) hs
def rIxAll (K : PySem.W.Frag) : R2 := fun x y H Q => rIx K x y H Q ∨ ∃ a v, x = .ref a ∧ DGet H a y (some v) ∧ Q v H
theorem ix_all {X : Cx} (hu : X.A.units + 1 < cLine) : IxR X (rIxAll X.K) := ix_seq.or (ix_dict hu)
/-- the place of a key in a node, and the key as a place's name -/
def nkIx (k : NK) (cs : List (D × T)) (q : D) : Option (D × Nat) :=
  match k with
  | .lst => match q with
    | .int i => (ixN cs.length i).map fun (j : Nat) => (.int j, j)
    | _ => none
  | .tup => match q with
    | .int i => (ixN cs.length i).map fun (j : Nat) => (.int j, j)
    | _ => none
  | .dct => if q.isKey = true then (ixOf .dct (cs.map Prod.fst) q).map fun j => (q, j) else none
  | _ => none
def g1 (h : EV → M EV) : List EV → M EV
  | [x] => h x
  | _ => fun _ => none
def g2 (h : EV → EV → M EV) : List EV → M EV
  | [x, y] => h x y
  | _ => fun _ => none
def EV.key : EV → Option D
  | .val (.leaf (some q)) => some q
  | _ => none
/-- an item of a deep value -/
def dIx (d q : D) : Option D := match d with
  | .list xs => match q with
    | .int i => atI xs i
    | _ => none
  | .tuple xs => match q with
    | .int i => atI xs i
    | _ => none
  | .str z => match q with
    | .int i => if z.length ≤ sizeLine then (atI z.cps.toList i).map fun c => .str ⟨#[c]⟩ else none
    | _ => none
  | .dict kvs => if q.isKey = true then dlook kvs q else none
  | _ => none
/-- a child as a value: by itself, or by its place -/
def kidOf (x : EV) (q' : D) (c : T) : Option EV := match c with
  | .leaf none => none
  | .leaf (some d) => some (.d d)
  | .node n k cs => match x with
    | .val _ => some (.val (.node n k cs))
    | .ptr i p => some (.ptr i (p ++ [q']))
def gIx (x y : EV) : M EV := fun ρ => match y.key with
  | none => none
  | some q => match look x ρ with
    | some (.leaf (some d)) => match dIx d q with
      | some r => some (.ok (.d r), ρ)
      | none => none
    | some (.node _ k cs) => match nkIx k cs q with
      | none => none
      | some (q', j) => match cs[j]? with
        | none => none
        | some c => match kidOf x q' c.2 with
          | none => none
          | some ev => some (.ok ev, ρ)
    | _ => none
theorem atI_rep {K : PySem.W.Frag} {G : Hp} {xs : List D} {vs : List V} {i : Int} {d : D} (r : RepDs K G xs vs) (h : atI xs i = some d) : ∃ v, atI vs i = some v ∧ RepD K G d v := by
  unfold atI at h ⊢
  rw [← r.length]
  cases e : ixN xs.length i with
  | none => rw [e] at h; cases h
  | some j =>
    rw [e] at h
    obtain ⟨v, h1, h2⟩ := r.get (show xs[j]? = some d from h)
    exact ⟨v, h1, h2⟩
theorem isKey_kV {q : D} (h : q.isKey = true) {K : PySem.W.Frag} {G : Hp} {y : V} (r : RepD K G q y) : y = kV q.key := by
  cases r <;> cases h <;> rfl
theorem isKey_sval {q : D} (h : q.isKey = true) : sval q = some (kV q.key) := by
  cases q <;> cases h <;> rfl
theorem map_two {as : List AV} {x y : EV} (h : as.map AV.er = [x, y]) : ∃ a b, as = [a, b] ∧ a.er = x ∧ b.er = y := by
  cases as with
  | nil => cases h
  | cons a as =>
    cases as with
    | nil => simp at h
    | cons b as =>
      cases as with
      | nil => simp at h; exact ⟨a, b, rfl, h.1, h.2⟩
      | cons c as => simp at h
theorem map_one {as : List AV} {x : EV} (h : as.map AV.er = [x]) : ∃ a, as = [a] ∧ a.er = x := by
  cases as with
  | nil => cases h
  | cons a as =>
    cases as with
    | nil => simp at h; exact ⟨a, rfl, h⟩
    | cons b as => simp at h
theorem er_leaf {a : A} {o : Option D} (h : er a = .leaf o) : ∃ v, a = .leaf (o, v) := by
  cases a with
  | leaf l => unfold er at h; cases h; exact ⟨l.2, rfl⟩
  | node n k cs => unfold er at h; cases h
theorem er_node {a : A} {u : Unit} {k : NK} {cs : List (D × T)} (h : er a = .node u k cs) : ∃ n cs', a = .node n k cs' ∧ ers cs' = cs := by
  cases a with
  | leaf l => unfold er at h; cases h
  | node n k' cs' => unfold er at h; cases h; exact ⟨n, cs', rfl, rfl⟩
theorem avd {b : AV} {q : D} (h : b.er = .val (.leaf (some q))) : ∃ v, b = .val (.leaf (some q, v)) := by
  cases b with
  | val a =>
    have h : er a = .leaf (some q) := by simpa [AV.er] using h
    obtain ⟨v, rfl⟩ := er_leaf h
    exact ⟨v, rfl⟩
  | ptr j p v => simp [AV.er] at h
theorem ers_get {cs : List (D × A)} {j : Nat} {k : D} {t : T} (h : (ers cs)[j]? = some (k, t)) : ∃ c, cs[j]? = some (k, c) ∧ er c = t := by
  rw [ers_map, List.getElem?_map] at h
  cases e : cs[j]? with
  | none => rw [e] at h; cases h
  | some c => rw [e] at h; simp at h; exact ⟨c.2, by rw [← h.1], h.2⟩
theorem vals_len (cs : List (D × A)) : (vals cs).length = cs.length := by simp [vals]
theorem vals_get {cs : List (D × A)} {j : Nat} {k : D} {c : A} (h : cs[j]? = some (k, c)) : (vals cs)[j]? = some (k, c.val) := by simp [vals, h]
theorem find_at {ls : List D} {q : D} {j : Nat} (hq : q.isKey = true) (h : ls.findIdx? (fun l => l.same q) = some j) (hk : ∀ l ∈ ls, l.isKey = true) : ls[j]? = some q := by
  rw [List.findIdx?_eq_some_iff_getElem] at h
  obtain ⟨h1, h2, _⟩ := h
  rw [List.getElem?_eq_getElem h1]
  exact congrArg some (same_key (hk _ (List.getElem_mem h1)) h2)
theorem valV_at {cs : List (D × V)} {q : D} {j : Nat} {k : D} {v : V} (hq : q.isKey = true) (hk : ∀ c ∈ cs, c.1.isKey = true) : ∀ (_ : (cs.map Prod.fst).findIdx? (fun l => l.same q) = some j) (_ : cs[j]? = some (k, v)), valV (cs.map fun c => (c.1.key, c.2)) q.key = some v := by
  induction cs generalizing j with
  | nil => intro h; simp at h
  | cons c cs ih =>
    intro h hj
    have e : c.1.same q = decide (c.1.key = q.key) := same_iff (hk c (by simp)) hq
    rw [List.map_cons, List.findIdx?_cons] at h
    by_cases hh : c.1.key = q.key
    · rw [e, decide_eq_true hh] at h
      simp at h
      subst h
      simp at hj
      rw [List.map_cons, valV_pos hh]
      simp [hj]
    · rw [e, decide_eq_false hh] at h
      simp at h
      obtain ⟨i, h1, h2⟩ := h
      subst h2
      rw [List.map_cons, valV_neg hh]
      exact ih (fun c' hc => hk c' (by simp [hc])) (by simpa using h1) (by simpa using hj)
/-- a node that is seen, as an object -/
theorem Seen.obj {K : PySem.W.Frag} {G H : Hp} {n : Addr × Addr} {k : NK} {cs : List (D × A)} (h : Seen K G H (.node n k cs)) : ∀ m ∈ nodeObjs k n (vals cs), ∃ o, m.2 = some o ∧ H m.1 = some o :=
  fun m q => h.nodes m (by unfold LT.nodes; simp [q])
theorem Seen.lst {K : PySem.W.Frag} {G H : Hp} {n : Addr × Addr} {cs : List (D × A)} (h : Seen K G H (.node n .lst cs)) : H n.1 = some (.lst ((vals cs).map (·.2))) := by
  obtain ⟨o, e1, e2⟩ := h.obj (n.1, some (.lst ((vals cs).map (·.2)))) (by simp [nodeObjs])
  cases e1; exact e2
theorem Seen.tup {K : PySem.W.Frag} {G H : Hp} {n : Addr × Addr} {cs : List (D × A)} (h : Seen K G H (.node n .tup cs)) : H n.1 = some (.tup ((vals cs).map (·.2))) := by
  obtain ⟨o, e1, e2⟩ := h.obj (n.1, some (.tup ((vals cs).map (·.2)))) (by simp [nodeObjs])
  cases e1; exact e2
theorem Seen.dctK {K : PySem.W.Frag} {G H : Hp} {n : Addr × Addr} {cs : List (D × A)} (h : Seen K G H (.node n .dct cs)) : keysOk (cs.map (·.1)) = true ∧ H n.1 = some (.dK ((vals cs).map fun c => (c.1.key, c.2))) := by
  obtain ⟨o, e1, e2⟩ := h.obj (n.1, if keysOk ((vals cs).map (·.1)) = true then some (.dK ((vals cs).map fun c => (c.1.key, c.2))) else none) (by simp [nodeObjs])
  have ek : (vals cs).map (·.1) = cs.map (·.1) := by simp [vals, Function.comp_def]
  rw [ek] at e1
  split at e1
  · rename_i hk
    cases e1
    exact ⟨hk, e2⟩
  · cases e1
theorem Seen.dct {K : PySem.W.Frag} {G H : Hp} {n : Addr × Addr} {cs : List (D × A)} (h : Seen K G H (.node n .dct cs)) : (∀ c ∈ vals cs, c.1.isKey = true) ∧ H n.1 = some (.dK ((vals cs).map fun c => (c.1.key, c.2))) := by
  obtain ⟨h1, h2⟩ := h.dctK
  refine ⟨fun c hc => ?_, h2⟩
  obtain ⟨b, hb, e⟩ := List.mem_map.mp hc
  subst e
  exact keysOk_key h1 _ (List.mem_map.mpr ⟨b, hb, rfl⟩)
theorem Seen.kid {K : PySem.W.Frag} {G H : Hp} {n : Addr × Addr} {k : NK} {cs : List (D × A)} {j : Nat} {l : D} {c : A} (h : Seen K G H (.node n k cs)) (e : cs[j]? = some (l, c)) : Seen K G H c := by
  have hm := List.mem_of_getElem? e
  refine ⟨fun m q => h.nodes m ?_, fun m q => h.leaves m ?_⟩
  · unfold LT.nodes
    rw [nodesL_zip]
    exact List.mem_append_right _ (List.mem_flatMap.mpr ⟨c, List.mem_map.mpr ⟨_, hm, rfl⟩, q⟩)
  · unfold LT.leaves
    rw [leavesL_zip]
    exact List.mem_flatMap.mpr ⟨c, List.mem_map.mpr ⟨_, hm, rfl⟩, q⟩
theorem ixN_lt {n : Nat} {i : Int} {j : Nat} (h : ixN n i = some j) : j < n := (ixN_seq h).2.1
/-- what a node gives at a key -/
theorem node_ix {K : PySem.W.Frag} {G H : Hp} {n : Addr × Addr} {k : NK} {cs : List (D × A)} {q q' : D} {j : Nat} {l : D} {c : A} {y : V} {Q : VK} (h : Seen K G H (.node n k cs)) (e : nkIx k (ers cs) q = some (q', j)) (ec : cs[j]? = some (l, c)) (ry : RepD K G q y) (hq : Q c.val H) :
    rIxAll K (.ref n.1) y H Q ∧ ixOf k (cs.map Prod.fst) q' = some j := by
  have ei : ∀ {i : Int} {j : Nat}, ixN (ers cs).length i = some j → cs[j]? = some (l, c) → atI ((vals cs).map (·.2)) i = some c.val ∧ 0 ≤ (j : Int) ∧ (j : Int) < cs.length := fun {i j} hi hc => by
    have hl : (ers cs).length = cs.length := by rw [ers_map]; simp
    rw [hl] at hi
    refine ⟨?_, Int.natCast_nonneg _, by have := ixN_lt hi; omega⟩
    unfold atI
    rw [List.length_map, vals_len, hi]
    show ((vals cs).map (·.2))[j]? = _
    rw [List.getElem?_map, vals_get hc]; rfl
  cases k with
  | lst =>
    cases q <;> simp [nkIx] at e
    rename_i i
    cases ry
    obtain ⟨h1, h2⟩ := e
    obtain ⟨a1, a2, a3⟩ := ei h1 ec
    subst h2
    refine ⟨.inl (.inl ⟨n.1, _, i, c.val, rfl, rfl, SqL.of h.lst, a1, hq⟩), ?_⟩
    unfold ixOf
    simp only [List.length_map]
    rw [if_pos ⟨a2, a3⟩]; simp
  | tup =>
    cases q <;> simp [nkIx] at e
    rename_i i
    cases ry
    obtain ⟨h1, h2⟩ := e
    obtain ⟨a1, a2, a3⟩ := ei h1 ec
    subst h2
    refine ⟨.inl (.inr (.inl ⟨n.1, _, i, c.val, rfl, rfl, SqT.of h.tup, a1, hq⟩)), ?_⟩
    unfold ixOf
    simp only [List.length_map]
    rw [if_pos ⟨a2, a3⟩]; simp
  | dct =>
    simp only [nkIx] at e
    split at e
    · rename_i hk
      rw [ers_keys] at e
      cases ex : ixOf .dct (cs.map Prod.fst) q with
      | none => rw [ex] at e; cases e
      | some i =>
        rw [ex] at e
        simp at e
        obtain ⟨e1, e2⟩ := e
        subst e1 e2
        obtain ⟨hks, hd⟩ := h.dct
        have ev : (cs.map Prod.fst) = ((vals cs).map Prod.fst) := by simp [vals, Function.comp_def]
        have ex' : ((vals cs).map Prod.fst).findIdx? (fun l => l.same q) = some i := by rw [← ev]; exact ex
        have hv := valV_at hk hks ex' (vals_get ec)
        refine ⟨.inr ⟨n.1, c.val, rfl, ?_, hq⟩, ex⟩
        rw [isKey_kV hk ry, ← hv]
        exact DGet.k hd
    · cases e
  | ins C => cases e
  | xd => cases e

/-- what is wanted behind an expression's value -/
abbrev Want (K : PySem.W.Frag) (σ : L2.St) (R : List A) (Q : VK) : EV → Hp → Hp → AF → Prop := fun ev G' H' F' => ∀ av : AV, Rel K G' H' σ F' (av.trees ++ R) → av.Ok F'.sl → av.er = ev → Q av.v H'
theorem ops1 {K : PySem.W.Frag} {W : WX} {r : V → Hp → VK → Prop} {h : EV → M EV} (k : ∀ (G H : Hp) (σ : L2.St) (F : AF) (R : List A) (a : AV) (Q : VK), Rel K G H σ F (a.trees ++ R) → a.Ok F.sl → Res K W σ (h a.er) G F R (Want K σ R Q) → r a.v H Q) :
    OpS K W (lift1 r) (g1 h) := by
  intro G H σ F R as Q rel ok res
  match as, rel, ok, res with
  | [a], rel, ok, res => exact k G H σ F R a Q (by simpa using rel) (ok a (by simp)) res
  | [], rel, ok, res => obtain ⟨_, _, e, _⟩ := res; cases e
  | _ :: _ :: _, rel, ok, res => obtain ⟨_, _, e, _⟩ := res; cases e
theorem ops2 {K : PySem.W.Frag} {W : WX} {r : R2} {h : EV → EV → M EV} (k : ∀ (G H : Hp) (σ : L2.St) (F : AF) (R : List A) (a b : AV) (Q : VK), Rel K G H σ F (a.trees ++ (b.trees ++ R)) → a.Ok F.sl → b.Ok F.sl → Res K W σ (h a.er b.er) G F R (Want K σ R Q) → r a.v b.v H Q) :
    OpS K W (lift2 r) (g2 h) := by
  intro G H σ F R as Q rel ok res
  match as, rel, ok, res with
  | [a, b], rel, ok, res => exact k G H σ F R a b Q (by simpa using rel) (ok a (by simp)) (ok b (by simp)) res
  | [], rel, ok, res => obtain ⟨_, _, e, _⟩ := res; cases e
  | [_], rel, ok, res => obtain ⟨_, _, e, _⟩ := res; cases e
  | _ :: _ :: _ :: _, rel, ok, res => obtain ⟨_, _, e, _⟩ := res; cases e
theorem key_av {b : AV} {q : D} (h : b.er.key = some q) : ∃ v, b = .val (.leaf (some q, v)) := by
  cases b with
  | val a =>
    cases a with
    | leaf l =>
      obtain ⟨o, v⟩ := l
      cases o with
      | none => cases h
      | some d => cases h; exact ⟨v, rfl⟩
    | node n k cs => cases h
  | ptr j p v => cases h
theorem Want.leaf {K : PySem.W.Frag} {G H : Hp} {σ : L2.St} {F : AF} {R : List A} {W : WX} {f : M EV} {Q : VK} {d : D} {v : V} (res : Res K W σ f G F R (Want K σ R Q)) (e : f F.er = some (.ok (.d d), F.er)) (relR : Rel K G H σ F R) (r : RepD K G d v) : Q v H := by
  obtain ⟨rr, ρ', e', k⟩ := res
  rw [e] at e'
  cases e'
  exact k G H F (Nx.refl _ _) rfl (.val (.leaf (some d, v))) (by simpa [AV.trees] using relR.leafNew r) trivial rfl
theorem dIx_ok {K : PySem.W.Frag} {G H : Hp} {d q r : D} {x y : V} {Q : VK} (s : Sub G H) (rd : RepD K G d x) (ry : RepD K G q y) (e : dIx d q = some r) (hq : ∀ v, RepD K G r v → Q v H) : rIxAll K x y H Q := by
  cases d with
  | list xs =>
    cases q <;> simp [dIx] at e
    cases ry
    cases rd with
    | lst h1 h2 =>
      obtain ⟨w, a1, a2⟩ := atI_rep h2 e
      exact .inl (.inl ⟨_, _, _, w, rfl, rfl, SqL.of (Sub.lst s h1), a1, hq _ a2⟩)
  | tuple xs =>
    cases q <;> simp [dIx] at e
    cases ry
    cases rd with
    | tup h1 h2 =>
      obtain ⟨w, a1, a2⟩ := atI_rep h2 e
      exact .inl (.inr (.inl ⟨_, _, _, w, rfl, rfl, SqT.of (Sub.tup s h1), a1, hq _ a2⟩))
  | str z =>
    cases q <;> simp [dIx] at e
    obtain ⟨hz, c, ec, rfl⟩ := e
    cases ry
    cases rd
    exact .inl (.inr (.inr ⟨z, _, c, rfl, rfl, hz, ec, hq _ (.str _)⟩))
  | dict kvs =>
    simp [dIx] at e
    obtain ⟨hk, e⟩ := e
    cases rd with
    | dct h1 h2 _ =>
      obtain ⟨w, a1, a2⟩ := (RepKs.look hk h2).1 r e
      exact .inr ⟨_, w, rfl, .inl ⟨_, q.key, (RdLe.of_sub s).rd _ _ h1, isKey_kV hk ry, a1.symm⟩, hq _ a2⟩
  | _ => cases e
theorem Rel.kid {K : PySem.W.Frag} {G H : Hp} {σ : L2.St} {F : AF} {R : List A} {n : Addr × Addr} {k : NK} {cs : List (D × A)} {j : Nat} {l : D} {c : A} (r : Rel K G H σ F (.node n k cs :: R)) (e : cs[j]? = some (l, c)) : Rel K G H σ F (c :: R) := by
  have hm := List.mem_of_getElem? e
  have hl : j < cs.length := (List.getElem?_eq_some_iff.mp e).1
  have hb : cs[j] = (l, c) := (List.getElem?_eq_some_iff.mp e).2
  have sp : cs = cs.take j ++ (l, c) :: cs.drop (j + 1) := by rw [← hb]; simp
  have en : nodesL cs = nodesL (cs.take j) ++ (LT.nodes c ++ nodesL (cs.drop (j + 1))) := by
    conv => lhs; rw [sp]
    rw [nodesL_append]; rfl
  have el : leavesL cs = leavesL (cs.take j) ++ (LT.leaves c ++ leavesL (cs.drop (j + 1))) := by
    conv => lhs; rw [sp]
    rw [leavesL_append]; rfl
  refine r.weakR (fun m q => ?_) (fun b => ?_) (fun m q => ?_)
  · simp only [allN_cons, List.mem_append] at q ⊢
    rcases q with q | q
    · left; unfold LT.nodes; rw [en]; simp [q]
    · exact .inr q
  · simp only [allN_cons, cnt_append]
    have : cnt b (LT.nodes (.node n k cs)) = cnt b (nodeObjs k n (vals cs)) + (cnt b (nodesL (cs.take j)) + (cnt b (LT.nodes c) + cnt b (nodesL (cs.drop (j + 1))))) := by
      conv => lhs; unfold LT.nodes
      rw [en]; simp [cnt_append]
    omega
  · simp only [allL_cons, List.mem_append] at q ⊢
    rcases q with q | q
    · left; unfold LT.leaves; rw [el]; simp [q]
    · exact .inr q
theorem ops_ix {K : PySem.W.Frag} {W : WX} : OpS K W (lift2 (rIxAll K)) (g2 gIx) := by
  refine ops2 fun G H σ F R a b Q rel oka okb res => ?_
  obtain ⟨rr, ρ', e, k⟩ := id res
  unfold gIx at e
  cases hb : b.er.key with
  | none => rw [hb] at e; cases e
  | some q =>
    rw [hb] at e
    obtain ⟨y, rfl⟩ := key_av hb
    have ry : RepD K G q y := rel.ok.leaves (some q, y) (by simp [AV.trees, leaves]) q rfl
    have relR : Rel K G H σ F R := (rel.drop (S := a.trees)).drop
    simp only at e
    cases hl : look a.er F.er with
    | none => rw [hl] at e; cases e
    | some t =>
      rw [hl] at e
      obtain ⟨c, hc1, hc2, seen⟩ := rel.look (t := t) oka (fun z hz => by simp [hz]) hl
      cases t with
      | leaf o =>
        cases o with
        | none => cases e
        | some d =>
          obtain ⟨v, rfl⟩ := er_leaf hc1
          have rd : RepD K G d v := seen.leaves (some d, v) (by simp [leaves]) d rfl
          simp only at e
          cases er : dIx d q with
          | none => rw [er] at e; cases e
          | some r =>
            rw [er] at e; cases e
            rw [← hc2]
            refine dIx_ok relR.ok.sub rd ry er fun v' r' => Want.leaf res ?_ relR r'
            unfold gIx
            simp only [hb, hl, er]
      | node n nk cs =>
        simp only at e
        cases e1 : nkIx nk cs q with
        | none => rw [e1] at e; cases e
        | some qj =>
          obtain ⟨q', j⟩ := qj
          rw [e1] at e
          simp only at e
          cases e2 : cs[j]? with
          | none => rw [e2] at e; cases e
          | some lc =>
            rw [e2] at e
            simp only at e
            cases e3 : kidOf a.er q' lc.2 with
            | none => rw [e3] at e; cases e
            | some ev =>
              rw [e3] at e
              cases e
              obtain ⟨l, ct⟩ := lc
              -- by where the node lies
              cases a with
              | val at_ =>
                have hat : er at_ = .node n nk cs := Option.some.inj hl
                obtain ⟨n', cs', rfl, rfl⟩ := er_node hat
                obtain ⟨c, hc, hct⟩ := ers_get e2
                have rel1 : Rel K G H σ F (.node n' nk cs' :: R) := by
                  have := rel
                  simp only [AV.trees, List.cons_append, List.nil_append] at this
                  exact this.weakR (fun m q => by simp only [allN_cons, List.mem_append] at q ⊢; rcases q with q | q <;> simp [q]) (fun b => by simp [allN_cons, cnt_append]) (fun m q => by simp only [allL_cons, List.mem_append] at q ⊢; rcases q with q | q <;> simp [q])
                have sn : Seen K G H (.node n' nk cs') := rel1.ok.seen (by simp)
                refine (node_ix sn e1 hc ry ?_).1
                have relc := rel1.kid hc
                cases ct with
                | leaf o =>
                  cases o with
                  | none => cases e3
                  | some d =>
                    cases e3
                    obtain ⟨v, rfl⟩ := er_leaf hct
                    exact k G H F (Nx.refl _ _) rfl (.val (.leaf (some d, v))) relc trivial rfl
                | node n2 k2 cs2 =>
                  cases e3
                  exact k G H F (Nx.refl _ _) rfl (.val c) relc trivial (by simp [AV.er, hct])
              | ptr i p v =>
                obtain ⟨av, cv, o1, o2, o3⟩ := id oka
                have hat : er cv = .node n nk cs := by
                  have h := hl
                  simp only [AV.er, look, sl_er, o1] at h
                  have h : (er av).at p = some (.node n nk cs) := h
                  rw [er_at, o2] at h
                  exact Option.some.inj h
                obtain ⟨n', cs', rfl, rfl⟩ := er_node hat
                obtain ⟨c, hc, hct⟩ := ers_get e2
                have sn : Seen K G H (.node n' nk cs') := (relR.ok.seen (by simp [mem_owns o1])).at o2
                show rIxAll K v y H Q
                rw [← o3]
                refine (node_ix sn e1 hc ry ?_).1
                cases ct with
                | leaf o =>
                  cases o with
                  | none => cases e3
                  | some d =>
                    cases e3
                    obtain ⟨v, rfl⟩ := er_leaf hct
                    exact k G H F (Nx.refl _ _) rfl (.val (.leaf (some d, v))) (relR.leafNew ((sn.kid hc).leaves (some d, v) (by simp [leaves]) d rfl)) trivial rfl
                | node n2 k2 cs2 =>
                  cases e3
                  refine k G H F (Nx.refl _ _) rfl (.ptr i (p ++ [q']) c.val) relR ⟨av, c, o1, ?_, rfl⟩ rfl
                  rw [TR.at_append o2, TR.at_node, (node_ix (Q := fun _ _ => True) sn e1 hc ry trivial).2]
                  simp only [hc]
                  rfl
end LT

/-! LA7: operations, further: arithmetic, comparisons, lists and tuples made. -/
namespace LT
open PySem PySem.Spec L2

/-! ### two ways -/
def gOr (g h : List EV → M EV) : List EV → M EV := fun xs ρ => match g xs ρ with
  | some y => some y
  | none => h xs ρ
theorem ops_or {K : PySem.W.Frag} {W : WX} {r1 r2 r : List V → Hp → VK → Prop} {g h : List EV → M EV} (hg : OpS K W r1 g) (hh : OpS K W r2 h) (k1 : ∀ vs H Q, r1 vs H Q → r vs H Q) (k2 : ∀ vs H Q, r2 vs H Q → r vs H Q) : OpS K W r (gOr g h) := by
  intro G H σ F R as Q rel ok res
  obtain ⟨rr, ρ', e, k⟩ := res
  unfold gOr at e
  cases q : g (as.map AV.er) F.er with
  | some y =>
    rw [q] at e
    exact k1 _ _ _ (hg G H σ F R as Q rel ok ⟨rr, ρ', q.trans e, k⟩)
  | none =>
    rw [q] at e
    exact k2 _ _ _ (hh G H σ F R as Q rel ok ⟨rr, ρ', e, k⟩)
theorem lift2_inl {r1 r2 : R2} {vs : List V} {H : Hp} {Q : VK} (h : lift2 r1 vs H Q) : lift2 (fun x y H Q => r1 x y H Q ∨ r2 x y H Q) vs H Q := by
  match vs, h with
  | [x, y], h => exact .inl h
theorem lift2_inr {r1 r2 : R2} {vs : List V} {H : Hp} {Q : VK} (h : lift2 r2 vs H Q) : lift2 (fun x y H Q => r1 x y H Q ∨ r2 x y H Q) vs H Q := by
  match vs, h with
  | [x, y], h => exact .inr h

/-! ### arithmetic -/
def opAdd : List D → Option D
  | [.int i, .int j] => some (.int (i + j))
  | [.str a, .str b] => if a.length + b.length ≤ sizeLine then some (.str (a ++ b)) else none
  | _ => none
def rAddS : R2 := fun x y H Q => (rI0 fun i j => .int (i + j)) x y H Q ∨ ∃ i j, x = .str i ∧ y = .str j ∧ i.length + j.length ≤ sizeLine ∧ Q (.str (i ++ j)) H
theorem op_addS {X : Cx} : OpR X (binaryOp .Add) rAddS := op_add.or op_add_str
theorem iop_addS {X : Cx} : OpR X (inplaceOp .Add) rAddS := iop_add.or iop_add_str
theorem ops_addS {K : PySem.W.Frag} {W : WX} : OpS K W (lift2 rAddS) (dop opAdd) := by
  refine ops_read fun H vs ds d v Q r e s q => ?_
  unfold opAdd at e
  split at e
  · cases e; cases s
    cases r with | cons a b => cases a; cases b with | cons a b => cases a; cases b; exact .inl ⟨_, _, rfl, rfl, q⟩
  · split at e
    · cases e; cases s
      cases r with | cons a b => cases a; cases b with | cons a b => cases a; cases b; exact .inr ⟨_, _, rfl, rfl, by assumption, q⟩
    · cases e
  · cases e
def opSub : List D → Option D
  | [.int i, .int j] => some (.int (i - j))
  | _ => none
theorem ops_sub {K : PySem.W.Frag} {W : WX} : OpS K W (lift2 (rI0 fun i j => .int (i - j))) (dop opSub) := by
  refine ops_read fun H vs ds d v Q r e s q => ?_
  unfold opSub at e
  split at e
  · cases e; cases s
    cases r with | cons a b => cases a; cases b with | cons a b => cases a; cases b; exact ⟨_, _, rfl, rfl, q⟩
  · cases e
def opMul : List D → Option D
  | [.int i, .int j] => if (-(2 ^ 64) < i ∧ i < 2 ^ 64) ∨ (-(2 ^ 64) < j ∧ j < 2 ^ 64) then some (.int (i * j)) else none
  | _ => none
theorem ops_mul {K : PySem.W.Frag} {W : WX} : OpS K W (lift2 (rI CMul fun i j => .int (i * j))) (dop opMul) := by
  refine ops_read fun H vs ds d v Q r e s q => ?_
  unfold opMul at e
  split at e
  · split at e
    · cases e; cases s
      cases r with | cons a b => cases a; cases b with | cons a b => cases a; cases b; exact ⟨_, _, rfl, rfl, by assumption, q⟩
    · cases e
  · cases e
def opDiv : List D → Option D
  | [.int i, .int j] => if 0 < j ∧ j < 2 ^ 200 then some (.int (i / j)) else none
  | _ => none
theorem ops_div {K : PySem.W.Frag} {W : WX} : OpS K W (lift2 (rI CDivW fun i j => .int (i / j))) (dop opDiv) := by
  refine ops_read fun H vs ds d v Q r e s q => ?_
  unfold opDiv at e
  split at e
  · split at e
    · rename_i hj
      cases e; cases s
      cases r with | cons a b => cases a; cases b with | cons a b => cases a; cases b; exact ⟨_, _, rfl, rfl, wide_div (b := 200) hj.1 (by omega) (by decide) (by decide), q⟩
    · cases e
  · cases e
def opMod : List D → Option D
  | [.int i, .int j] => if 0 < j then some (.int (i % j)) else none
  | _ => none
theorem ops_mod {K : PySem.W.Frag} {W : WX} : OpS K W (lift2 (rI (fun _ j => 0 < j) fun i j => .int (i % j))) (dop opMod) := by
  refine ops_read fun H vs ds d v Q r e s q => ?_
  unfold opMod at e
  split at e
  · split at e
    · cases e; cases s
      cases r with | cons a b => cases a; cases b with | cons a b => cases a; cases b; exact ⟨_, _, rfl, rfl, by assumption, q⟩
    · cases e
  · cases e
def opNeg : List D → Option D
  | [.int i] => some (.int (-i))
  | _ => none
theorem ops_neg {K : PySem.W.Frag} {W : WX} : OpS K W (lift1 (rU fun i => .int (-i))) (dop opNeg) := by
  refine ops_read fun H vs ds d v Q r e s q => ?_
  unfold opNeg at e
  split at e
  · cases e; cases s
    cases r with | cons a b => cases a; cases b; exact ⟨_, rfl, q⟩
  · cases e

/-! ### comparisons -/
def opEq : List D → Option D
  | [d, e] => if deepOk d = true ∧ deepOk e = true then some (.bool (PyData.eqv d e)) else none
  | _ => none
def opNe : List D → Option D
  | [d, e] => if deepOk d = true ∧ deepOk e = true then some (.bool (!PyData.eqv d e)) else none
  | _ => none
theorem ops_eq {K : PySem.W.Frag} {W : WX} : OpS K W (lift2 (rEqR K)) (dop opEq) := by
  refine ops_read fun H vs ds d v Q r e s q => ?_
  unfold opEq at e
  split at e
  · split at e
    · rename_i h
      cases e; cases s
      cases r with | cons a b => cases b with | cons b c => cases c; exact ⟨_, _, a, b, h.1, h.2, q⟩
    · cases e
  · cases e
theorem ops_ne {K : PySem.W.Frag} {W : WX} : OpS K W (lift2 (rNeR K)) (dop opNe) := by
  refine ops_read fun H vs ds d v Q r e s q => ?_
  unfold opNe at e
  split at e
  · split at e
    · rename_i h
      cases e; cases s
      cases r with | cons a b => cases b with | cons b c => cases c; exact ⟨_, _, a, b, h.1, h.2, q⟩
    · cases e
  · cases e
/-- an order of ints and of texts -/
def opOrd (f : Int → Int → Bool) (g : List Nat → List Nat → Bool) : List D → Option D
  | [.int i, .int j] => some (.bool (f i j))
  | [.str a, .str b] => some (.bool (g a.cps.toList b.cps.toList))
  | _ => none
def rOrd (f : Int → Int → Bool) (g : List Nat → List Nat → Bool) : R2 := fun x y H Q => (rI0 fun i j => .bl (f i j)) x y H Q ∨ ∃ i j, x = .str i ∧ y = .str j ∧ Q (.bl (g i.cps.toList j.cps.toList)) H
theorem ops_ord {K : PySem.W.Frag} {W : WX} {f : Int → Int → Bool} {g : List Nat → List Nat → Bool} : OpS K W (lift2 (rOrd f g)) (dop (opOrd f g)) := by
  refine ops_read fun H vs ds d v Q r e s q => ?_
  unfold opOrd at e
  split at e
  · cases e; cases s
    cases r with | cons a b => cases a; cases b with | cons a b => cases a; cases b; exact .inl ⟨_, _, rfl, rfl, q⟩
  · cases e; cases s
    cases r with | cons a b => cases a; cases b with | cons a b => cases a; cases b; exact .inr ⟨_, _, rfl, rfl, q⟩
  · cases e
abbrev sLt (a b : List Nat) : Bool := decide (a < b)
abbrev opLt := opOrd (fun i j => decide (i < j)) (fun a b => decide (a < b))
abbrev opLe := opOrd (fun i j => decide (i ≤ j)) (fun a b => !decide (b < a))
abbrev opGt := opOrd (fun i j => decide (j < i)) (fun a b => decide (b < a))
abbrev opGe := opOrd (fun i j => decide (j ≤ i)) (fun a b => !decide (a < b))
theorem op_ltS {X : Cx} : OpR X (compareOp .Lt) (rOrd (fun i j => decide (i < j)) (fun a b => decide (a < b))) := op_lt.or op_lt_str
theorem op_leS {X : Cx} : OpR X (compareOp .LtE) (rOrd (fun i j => decide (i ≤ j)) (fun a b => !decide (b < a))) := op_le.or op_le_str
theorem op_gtS {X : Cx} : OpR X (compareOp .Gt) (rOrd (fun i j => decide (j < i)) (fun a b => decide (b < a))) := op_gt.or op_gt_str
theorem op_geS {X : Cx} : OpR X (compareOp .GtE) (rOrd (fun i j => decide (j ≤ i)) (fun a b => !decide (a < b))) := op_ge.or op_ge_str
/-- is None -/
def opIsN : List D → Option D
  | [d, .none] => some (.bool (match d with | .none => true | _ => false))
  | _ => none
def opNotN : List D → Option D
  | [d, .none] => some (.bool (match d with | .none => false | _ => true))
  | _ => none
theorem ops_isN {K : PySem.W.Frag} {W : WX} : OpS K W (lift2 fun x y H Q => y = .non ∧ Q (.bl (decide (x = .non))) H) (dop opIsN) := by
  refine ops_read fun H vs ds d v Q r e s q => ?_
  unfold opIsN at e
  split at e
  · cases e; cases s
    cases r with
    | cons a b =>
      cases b with
      | cons b c =>
        cases b; cases c
        refine ⟨rfl, ?_⟩
        cases a <;> simpa using q
  · cases e
theorem ops_notN {K : PySem.W.Frag} {W : WX} : OpS K W (lift2 fun x y H Q => y = .non ∧ Q (.bl (!decide (x = .non))) H) (dop opNotN) := by
  refine ops_read fun H vs ds d v Q r e s q => ?_
  unfold opNotN at e
  split at e
  · cases e; cases s
    cases r with
    | cons a b =>
      cases b with
      | cons b c =>
        cases b; cases c
        refine ⟨rfl, ?_⟩
        cases a <;> simpa using q
  · cases e
/-- in -/
def memb (x : D) (xs : List D) : Bool := xs.any fun z => PyData.eqv z x
def opIn (neg : Bool) : List D → Option D
  | [.str a, .str b] => some (.bool (neg ^^ !(Builtin.Str.occurrences b a 0 b.length 1).isEmpty))
  | [q, .dict kvs] => if q.isKey = true then some (.bool (neg ^^ (dlook kvs q).isSome)) else match q with
    | .none => some (.bool neg)
    | _ => none
  | [d, c] => match seqOf c with
    | some xs => if deepOk d = true ∧ nds xs = true then some (.bool (neg ^^ memb d xs)) else none
    | none => none
  | _ => none
def rInAll (K : PySem.W.Frag) (neg : Bool) : R2 := fun x y H Q => (∃ i j, x = .str i ∧ y = .str j ∧ Q (.bl (neg ^^ !(Builtin.Str.occurrences j i 0 j.length 1).isEmpty)) H) ∨ rInR K neg x y H Q ∨
  (∃ a o, y = .ref a ∧ DGet H a x o ∧ Q (.bl (neg ^^ o.isSome)) H) ∨ ∃ a kvs, y = .ref a ∧ x = .non ∧ Rd H a (.dK kvs) ∧ Q (.bl neg) H
theorem op_inAll {X : Cx} (hu : X.A.units + 64 < cLine) : OpR X (compareOp .In) (rInAll X.K false) := by
  intro pins s σ H x y v u Q I rx ry h
  rcases h with ⟨i, j, rfl, rfl, q⟩ | h | ⟨a, o, rfl, g, q⟩ | ⟨a, kvs, rfl, rfl, g, q⟩
  · exact op_in_str pins s σ H _ _ v u Q I rx ry ⟨i, j, rfl, rfl, by simpa using q⟩
  · exact op_inR hu pins s σ H _ _ v u Q I rx ry h
  · cases ry
    exact d_in (by omega) I g rx fun s3 I3 => ⟨.bl o.isSome, H, I3, rfl, by simpa using q⟩
  · cases ry; cases rx
    exact d_inNone I g fun s3 I3 => ⟨.bl false, H, I3, rfl, q⟩
theorem op_notInAll {X : Cx} (hu : X.A.units + 64 < cLine) : OpR X (compareOp .NotIn) (rInAll X.K true) := by
  intro pins s σ H x y v u Q I rx ry h
  rcases h with ⟨i, j, rfl, rfl, q⟩ | h | ⟨a, o, rfl, g, q⟩ | ⟨a, kvs, rfl, rfl, g, q⟩
  · exact op_notIn_str pins s σ H _ _ v u Q I rx ry ⟨i, j, rfl, rfl, by simpa using q⟩
  · exact op_notInR hu pins s σ H _ _ v u Q I rx ry h
  · cases ry
    exact d_notIn (by omega) I g rx fun s3 I3 => ⟨.bl (!o.isSome), H, I3, rfl, by simpa using q⟩
  · cases ry; cases rx
    exact d_notInNone I g fun s3 I3 => ⟨.bl true, H, I3, rfl, q⟩
theorem ops_in {K : PySem.W.Frag} {W : WX} {neg : Bool} : OpS K W (lift2 (rInAll K neg)) (dop (opIn neg)) := by
  refine ops_read fun H vs ds d v Q r e s q => ?_
  unfold opIn at e
  split at e
  · cases e; cases s
    cases r with | cons a b => cases a; cases b with | cons a b => cases a; cases b; exact .inl ⟨_, _, rfl, rfl, q⟩
  · rename_i _ x kvs
    cases r with
    | cons a b =>
      cases b with
      | cons b c =>
        cases c
        cases b with
        | dct h1 h2 _ =>
          split at e
          · rename_i hk
            cases e; cases s
            have lk := RepKs.look hk h2
            refine .inr (.inr (.inl ⟨_, valV _ x.key, rfl, .inl ⟨_, x.key, h1, isKey_kV hk a, rfl⟩, ?_⟩))
            cases el : dlook kvs x with
            | none => rw [lk.2 el]; rw [el] at q; exact q
            | some z => obtain ⟨w, e1, _⟩ := lk.1 z el; rw [e1]; rw [el] at q; exact q
          · split at e
            · cases e; cases s
              cases a
              exact .inr (.inr (.inr ⟨_, _, rfl, rfl, h1, q⟩))
            · cases e
  · rename_i x c _ _
    split at e
    · rename_i xs hc
      split at e
      · rename_i h
        cases e; cases s
        cases r with
        | cons a b =>
          cases b with
          | cons b d =>
            cases d
            refine .inr (.inl ⟨_, _, xs, a, b, hc, h.1, h.2, ?_⟩)
            cases neg <;> simpa [memb] using q
      · cases e
    · cases e
  · cases e

/-! ### lists and tuples made -/
@[reducible] def T.lstT (ts : List T) : T := .node () .lst (ts.map fun t => (.none, t))
@[reducible] def T.lstD (xs : List D) : T := .node () .lst (xs.map fun x => (.none, .leaf (some x)))
def leafItems : List (D × T) → Option (List D)
  | [] => some []
  | (_, .leaf (some x)) :: r => match leafItems r with
    | none => none
    | some xs => some (x :: xs)
  | _ => none
theorem leafItems_lstD (xs : List D) : leafItems (xs.map fun x => (.none, .leaf (some x))) = some xs := by
  induction xs with
  | nil => rfl
  | cons x xs ih => simp [leafItems, ih]
theorem leafItems_ok {K : PySem.W.Frag} {G : Hp} : ∀ {cs : List (D × A)} {xs : List D}, (∀ l ∈ leavesL cs, ∀ d, l.1 = some d → RepD K G d l.2) → leafItems (ers cs) = some xs → RepDs K G xs ((vals cs).map (·.2))
  | [], xs, _, e => by cases e; exact .nil
  | (k, c) :: r, xs, h, e => by
    unfold ers at e
    cases q : er c with
    | node n k cs => rw [q] at e; simp [leafItems] at e
    | leaf o =>
      rw [q] at e
      cases o with
      | none => simp [leafItems] at e
      | some d =>
        obtain ⟨v, rfl⟩ := er_leaf q
        unfold leafItems at e
        cases q2 : leafItems (ers r) with
        | none => rw [q2] at e; cases e
        | some ys =>
          rw [q2] at e; cases e
          exact .cons (h (some d, v) (by simp [leavesL, leaves]) d rfl) (leafItems_ok (fun l hl => h l (by simp [leavesL, hl])) q2)
/-- a list's items, where they stay -/
def seqL (x : EV) (ρ : Fr) : Option (List D) := match look x ρ with
  | some (.leaf (some (.list xs))) => some xs
  | some (.node _ .lst cs) => leafItems cs
  | _ => none
def seqT (x : EV) (ρ : Fr) : Option (List D) := match look x ρ with
  | some (.leaf (some (.tuple xs))) => some xs
  | some (.node _ .tup cs) => leafItems cs
  | _ => none
section
variable {K : PySem.W.Frag} {G H : Hp} {σ : L2.St} {F : AF} {R S : List A}
theorem Rel.seqL {x : AV} {xs : List D} (r : Rel K G H σ F S) (hx : x.Ok F.sl) (hm : ∀ a ∈ x.trees, a ∈ S) (e : seqL x.er F.er = some xs) : ∃ a vs, x.v = .ref a ∧ H a = some (.lst vs) ∧ RepDs K G xs vs := by
  unfold LT.seqL at e
  cases hl : LT.look x.er F.er with
  | none => rw [hl] at e; cases e
  | some t =>
    rw [hl] at e
    obtain ⟨c, h1, h2, sn⟩ := r.look hx hm hl
    cases t with
    | leaf o =>
      obtain ⟨v, rfl⟩ := er_leaf h1
      cases o with
      | none => cases e
      | some d =>
        have rd : RepD K G d v := sn.leaves (some d, v) (by simp [leaves]) d rfl
        rw [← h2]
        cases d <;> cases e
        cases rd with
        | lst e1 e2 => exact ⟨_, _, rfl, Sub.lst r.ok.sub e1, e2⟩
    | node n k cs =>
      obtain ⟨n', cs', rfl, rfl⟩ := er_node h1
      rw [← h2]
      cases k <;> try (cases e; done)
      exact ⟨n'.1, _, rfl, sn.lst, leafItems_ok (fun l hl => sn.leaves l (by unfold leaves; exact hl)) e⟩
theorem Rel.seqT {x : AV} {xs : List D} (r : Rel K G H σ F S) (hx : x.Ok F.sl) (hm : ∀ a ∈ x.trees, a ∈ S) (e : seqT x.er F.er = some xs) : ∃ a vs, x.v = .ref a ∧ H a = some (.tup vs) ∧ RepDs K G xs vs := by
  unfold LT.seqT at e
  cases hl : LT.look x.er F.er with
  | none => rw [hl] at e; cases e
  | some t =>
    rw [hl] at e
    obtain ⟨c, h1, h2, sn⟩ := r.look hx hm hl
    cases t with
    | leaf o =>
      obtain ⟨v, rfl⟩ := er_leaf h1
      cases o with
      | none => cases e
      | some d =>
        have rd : RepD K G d v := sn.leaves (some d, v) (by simp [leaves]) d rfl
        rw [← h2]
        cases d <;> cases e
        cases rd with
        | tup e1 e2 => exact ⟨_, _, rfl, Sub.tup r.ok.sub e1, e2⟩
    | node n k cs =>
      obtain ⟨n', cs', rfl, rfl⟩ := er_node h1
      rw [← h2]
      cases k <;> try (cases e; done)
      exact ⟨n'.1, _, rfl, sn.tup, leafItems_ok (fun l hl => sn.leaves l (by unfold leaves; exact hl)) e⟩
/-- a new list of such items -/
theorem Rel.newL {xs : List D} {vs : List V} {p : Addr} (r : Rel K G H σ F R) (h : RepDs K G xs vs) (hp : H p = none) : ∃ a : A, er a = T.lstD xs ∧ a.val = .ref p ∧ Rel K G (upd H p (.lst vs)) σ F (a :: R) := by
  obtain ⟨bs, h1, h2, h3⟩ := r.leavesNew h
  have e1 : (bs.map fun b => ((.none : D), b)).map (·.2) = bs := by simp [Function.comp_def]
  have e2 : (vals (bs.map fun b => ((.none : D), b))).map (·.2) = vs := by simp [vals, Function.comp_def]; exact h2
  refine ⟨.node (p, 0) .lst (bs.map fun b => (.none, b)), ?_, rfl, Rel.newNode (by rw [e1]; exact h3) hp (by simp [nodeObjs, e2])⟩
  unfold er
  rw [ers_map]
  have e3 : bs.map er = xs.map fun x => (.leaf (some x) : T) := h1
  show TR.node () NK.lst _ = TR.node () NK.lst _
  congr 1
  rw [List.map_map]
  have e4 : (xs.map fun x => ((.none : D), (.leaf (some x) : T))) = (xs.map fun x => (.leaf (some x) : T)).map fun t => ((.none : D), t) := by simp [Function.comp_def]
  rw [e4, ← e3, List.map_map]
  rfl
end
/-- a rule that makes a new list -/
def mkL (op : List EV → Fr → Option (List D)) (as : List EV) : M EV := fun ρ => match op as ρ with
  | none => none
  | some xs => some (.ok (.val (T.lstD xs)), ρ)
theorem ops_newL {K : PySem.W.Frag} {W : WX} {r : List V → Hp → VK → Prop} {op : List EV → Fr → Option (List D)}
    (hr : ∀ (G H : Hp) (σ : L2.St) (F : AF) (R : List A) (as : List AV) (Q : VK) (xs : List D), Rel K G H σ F (avs as ++ R) → (∀ a ∈ as, a.Ok F.sl) → op (as.map AV.er) F.er = some xs →
      ∃ vs, RepDs K G xs vs ∧ ((∀ p, H p = none → Q (.ref p) (upd H p (.lst vs))) → r (as.map AV.v) H Q)) : OpS K W r (mkL op) := by
  intro G H σ F R as Q rel ok res
  obtain ⟨rr, ρ', e, k⟩ := res
  unfold mkL at e
  cases q : op (as.map AV.er) F.er with
  | none => rw [q] at e; cases e
  | some xs =>
    rw [q] at e; cases e
    obtain ⟨vs, h1, h2⟩ := hr G H σ F R as Q xs rel ok q
    refine h2 fun p hp => ?_
    obtain ⟨a, e1, e2, rel2⟩ := rel.drop.newL h1 hp
    rw [← e2]
    exact k G _ F (Nx.refl _ _) rfl (.val a) (by simpa [AV.trees] using rel2) trivial (by simp [AV.er, e1])
/-- a rule that makes a new tuple -/
def mkT (op : List EV → Fr → Option (List D)) (as : List EV) : M EV := fun ρ => match op as ρ with
  | none => none
  | some xs => some (.ok (.d (.tuple xs)), ρ)
theorem ops_newT {K : PySem.W.Frag} {W : WX} {r : List V → Hp → VK → Prop} {op : List EV → Fr → Option (List D)}
    (hr : ∀ (G H : Hp) (σ : L2.St) (F : AF) (R : List A) (as : List AV) (Q : VK) (xs : List D), Rel K G H σ F (avs as ++ R) → (∀ a ∈ as, a.Ok F.sl) → op (as.map AV.er) F.er = some xs →
      ∃ vs, RepDs K G xs vs ∧ ((∀ p, H p = none → Q (.ref p) (upd H p (.tup vs))) → (∀ a, H a = some (.tup vs) → RepD K G (.tuple xs) (.ref a) → Q (.ref a) H) → r (as.map AV.v) H Q)) : OpS K W r (mkT op) := by
  intro G H σ F R as Q rel ok res
  obtain ⟨rr, ρ', e, k⟩ := res
  unfold mkT at e
  cases q : op (as.map AV.er) F.er with
  | none => rw [q] at e; cases e
  | some xs =>
    rw [q] at e; cases e
    obtain ⟨vs, h1, h2⟩ := hr G H σ F R as Q xs rel ok q
    refine h2 (fun p hp => ?_) (fun a ha hr => ?_)
    · obtain ⟨n, rel2⟩ := rel.drop.newG (o := .tup vs) hp
      exact k _ _ F n rfl (.val (.leaf (some (.tuple xs), .ref p))) (by simpa [AV.trees] using rel2.leafNew (.tup upd_same (RepDs.mono (.of_same n.same) h1))) trivial rfl
    · exact k G H F (Nx.refl _ _) rfl (.val (.leaf (some (.tuple xs), .ref a))) (by simpa [AV.trees] using rel.drop.leafNew hr) trivial rfl
end LT

/-! LA8: operations, third part: +, * of lists and tuples, slices, built-ins. -/
namespace LT
open PySem PySem.Spec L2

/-- a tuple that stays -/
def tupOf (x : EV) (ρ : Fr) : Option (List D) := match look x ρ with
  | some (.leaf (some (.tuple xs))) => some xs
  | _ => none
section
variable {K : PySem.W.Frag} {G H : Hp} {σ : L2.St} {F : AF} {R S : List A}
theorem Rel.leafAt {x : AV} {d : D} (r : Rel K G H σ F S) (hx : x.Ok F.sl) (hm : ∀ a ∈ x.trees, a ∈ S) (e : LT.look x.er F.er = some (.leaf (some d))) : RepD K G d x.v := by
  obtain ⟨c, h1, h2, sn⟩ := r.look hx hm e
  obtain ⟨v, rfl⟩ := er_leaf h1
  rw [← h2]
  exact sn.leaves (some d, v) (by simp [leaves]) d rfl
theorem Rel.tupOf {x : AV} {xs : List D} (r : Rel K G H σ F S) (hx : x.Ok F.sl) (hm : ∀ a ∈ x.trees, a ∈ S) (e : tupOf x.er F.er = some xs) : RepD K G (.tuple xs) x.v := by
  unfold LT.tupOf at e
  split at e
  · rename_i h
    cases e
    exact r.leafAt hx hm h
  · cases e
end
theorem of_two {as : List AV} {f : EV → EV → Fr → Option (List D)} {ρ : Fr} {xs : List D} (h : (match as.map AV.er with | [x, y] => f x y ρ | _ => none) = some xs) : ∃ a b, as = [a, b] ∧ f a.er b.er ρ = some xs := by
  match as, h with
  | [a, b], h => exact ⟨a, b, rfl, h⟩
theorem of_one {as : List AV} {f : EV → Fr → Option (List D)} {ρ : Fr} {xs : List D} (h : (match as.map AV.er with | [x] => f x ρ | _ => none) = some xs) : ∃ a, as = [a] ∧ f a.er ρ = some xs := by
  match as, h with
  | [a], h => exact ⟨a, rfl, h⟩

/-! ### + -/
def catL2 (x y : EV) (ρ : Fr) : Option (List D) := match seqL x ρ with
  | none => none
  | some xs => match seqL y ρ with
    | none => none
    | some ys => if xs.length + ys.length ≤ sizeLine then some (xs ++ ys) else none
def catL (as : List EV) (ρ : Fr) : Option (List D) := match as with
  | [x, y] => catL2 x y ρ
  | _ => none
theorem ops_catL {K : PySem.W.Frag} {W : WX} : OpS K W (lift2 rCat) (mkL catL) := by
  refine ops_newL fun G H σ F R as Q xs rel ok e => ?_
  obtain ⟨a, b, rfl, e⟩ := of_two (f := catL2) e; rename_i e'; clear e
  have e : catL2 a.er b.er F.er = some xs := by assumption
  unfold catL2 at e
  cases ea : seqL a.er F.er with
  | none => rw [ea] at e; cases e
  | some us =>
    rw [ea] at e
    cases eb : seqL b.er F.er with
    | none => rw [eb] at e; cases e
    | some ws =>
      rw [eb] at e
      simp only at e
      split at e
      · rename_i hl
        cases e
        obtain ⟨l, vs, h1, h2, h3⟩ := rel.seqL (ok a (by simp)) (fun z hz => by simp [hz]) ea
        obtain ⟨l2, vs2, k1, k2, k3⟩ := rel.seqL (ok b (by simp)) (fun z hz => by simp [hz]) eb
        refine ⟨vs ++ vs2, h3.append k3, fun hq => ?_⟩
        exact ⟨l, l2, vs, vs2, h1, k1, h2, k2, by rw [← h3.length, ← k3.length]; exact hl, hq⟩
      · cases e
def catT2 (x y : EV) (ρ : Fr) : Option (List D) := match tupOf x ρ with
  | none => none
  | some xs => match tupOf y ρ with
    | none => none
    | some ys => if xs.length + ys.length ≤ sizeLine then some (xs ++ ys) else none
def catT (as : List EV) (ρ : Fr) : Option (List D) := match as with
  | [x, y] => catT2 x y ρ
  | _ => none
theorem ops_catT {K : PySem.W.Frag} {W : WX} : OpS K W (lift2 (rCatA K)) (mkT catT) := by
  refine ops_newT fun G H σ F R as Q xs rel ok e => ?_
  obtain ⟨a, b, rfl, e⟩ := of_two (f := catT2) e; rename_i e'; clear e
  have e : catT2 a.er b.er F.er = some xs := by assumption
  unfold catT2 at e
  cases ea : tupOf a.er F.er with
  | none => rw [ea] at e; cases e
  | some us =>
    rw [ea] at e
    cases eb : tupOf b.er F.er with
    | none => rw [eb] at e; cases e
    | some ws =>
      rw [eb] at e
      simp only at e
      split at e
      · rename_i hl
        cases e
        have r1 := rel.tupOf (ok a (by simp)) (fun z hz => by simp [hz]) ea
        have r2 := rel.tupOf (ok b (by simp)) (fun z hz => by simp [hz]) eb
        generalize ha : a.v = va at r1
        generalize hb : b.v = vb at r2
        cases r1 with
        | @tup _ l vs h1 h2 =>
          cases r2 with
          | @tup _ l2 vs2 k1 k2 =>
            refine ⟨vs ++ vs2, h2.append k2, fun hq hs => ?_⟩
            show rCatA K a.v b.v H Q
            rw [ha, hb]
            have s1 := Sub.tup rel.ok.sub h1
            have s2 := Sub.tup rel.ok.sub k1
            refine ⟨l, l2, vs, vs2, rfl, rfl, SqT.of s1, SqT.of s2, by rw [← h2.length, ← k2.length]; exact hl, fun e => ?_, fun e1 e2 => ?_, fun _ _ => hq⟩
            · subst e
              cases h2
              exact hs l2 (by simpa using s2) (by simpa using RepD.tup k1 k2)
            · subst e2
              cases k2
              exact hs l (by simpa using s1) (by simpa using RepD.tup h1 h2)
      · cases e
/-- a + b, whatever they are -/
def gAdd : List EV → M EV := gOr (dop opAdd) (gOr (mkL catL) (mkT catT))
def rAddAll (K : PySem.W.Frag) : R2 := fun x y H Q => rAddS x y H Q ∨ (rCat x y H Q ∨ rCatA K x y H Q)
theorem op_addAll {X : Cx} : OpR X (binaryOp .Add) (rAddAll X.K) := op_addS.or (op_cat.or op_catA)
theorem ops_add {K : PySem.W.Frag} {W : WX} : OpS K W (lift2 (rAddAll K)) gAdd :=
  ops_or ops_addS (ops_or (r := lift2 fun x y H Q => rCat x y H Q ∨ rCatA K x y H Q) ops_catL ops_catT (fun _ _ _ => lift2_inl) (fun _ _ _ => lift2_inr)) (fun _ _ _ => lift2_inl) (fun _ _ _ => lift2_inr)

/-! ### a list times an int -/
def repL2 (x y : EV) (ρ : Fr) : Option (List D) := match seqL x ρ with
  | none => none
  | some xs => match y.key with
    | some (.int k) => if -(2 ^ 63) ≤ k ∧ k < 2 ^ 63 ∧ xs.length * k.toNat ≤ sizeLine then some (List.replicate k.toNat xs).flatten else none
    | _ => none
def repL (as : List EV) (ρ : Fr) : Option (List D) := match as with
  | [x, y] => repL2 x y ρ
  | _ => none
theorem RepDs.rep {K : PySem.W.Frag} {G : Hp} {xs : List D} {vs : List V} (h : RepDs K G xs vs) : ∀ n : Nat, RepDs K G (List.replicate n xs).flatten (List.replicate n vs).flatten
  | 0 => .nil
  | n + 1 => by
    rw [List.replicate_succ, List.replicate_succ, List.flatten_cons, List.flatten_cons]
    exact h.append (RepDs.rep h n)
theorem ops_repL {K : PySem.W.Frag} {W : WX} : OpS K W (lift2 rRep) (mkL repL) := by
  refine ops_newL fun G H σ F R as Q xs rel ok e => ?_
  obtain ⟨a, b, rfl, e⟩ := of_two (f := repL2) e; rename_i e'; clear e
  have e : repL2 a.er b.er F.er = some xs := by assumption
  unfold repL2 at e
  cases ea : seqL a.er F.er with
  | none => rw [ea] at e; cases e
  | some us =>
    rw [ea] at e
    simp only at e
    split at e
    · rename_i k hk
      split at e
      · rename_i hl
        cases e
        obtain ⟨l, vs, h1, h2, h3⟩ := rel.seqL (ok a (by simp)) (fun z hz => by simp [hz]) ea
        obtain ⟨y, rfl⟩ := key_av hk
        have ry : RepD K G (.int k) y := rel.ok.leaves (some (.int k), y) (by simp [AV.trees, leaves]) _ rfl
        cases ry
        refine ⟨_, h3.rep k.toNat, fun hq => ?_⟩
        exact ⟨l, k, vs, h1, rfl, h2, hl.1, hl.2.1, by rw [← h3.length]; exact hl.2.2, hq⟩
      · cases e
    · cases e

/-! ### built-ins that read -/
def opLen : List D → Option D
  | [.list xs] => some (.int xs.length)
  | [.tuple xs] => some (.int xs.length)
  | [.str s] => if s.length ≤ sizeLine then some (.int s.length) else none
  | [.dict kvs] => some (.int kvs.length)
  | _ => none
theorem RepKs.length {K : PySem.W.Frag} {G : Hp} : ∀ {kvs : List (D × D)} {ks : List (Key × V)}, RepKs K G kvs ks → kvs.length = ks.length
  | _, _, .nil => rfl
  | _, _, .cons _ _ h => by simp [RepKs.length h]
def rLenAll (K : PySem.W.Frag) : List V → Hp → VK → Prop := fun xs H Q => (∃ p ys, xs = [.ref p] ∧ (SqL K H p ys ∨ SqT K H p ys) ∧ Q (.int ys.length) H) ∨ (∃ z, xs = [.str z] ∧ z.length ≤ sizeLine ∧ Q (.int z.length) H) ∨ ∃ p kvs, xs = [.ref p] ∧ Rd H p (.dK kvs) ∧ Q (.int kvs.length) H
theorem cr_lenAll {X : Cx} : CallR X (.builtin "len") (rLenAll X.K) := by
  intro pins s σ H xs us Q I r h
  rcases h with h | h | ⟨p, kvs, rfl, h, q⟩
  · exact call_len_seq pins s σ H xs us Q I r h
  · exact call_len_str pins s σ H xs us Q I r h
  · obtain rfl := r.ref1
    exact d_len I h fun t s' I' => ⟨.int _, H, I', ⟨_, rfl⟩, q⟩
theorem ops_len {K : PySem.W.Frag} {W : WX} : OpS K W (rLenAll K) (dop opLen) := by
  refine ops_read fun H vs ds d v Q r e s q => ?_
  unfold opLen at e
  split at e
  · cases e; cases s
    cases r with | cons a b => cases b; cases a with | lst h1 h2 => exact .inl ⟨_, _, rfl, .inl (SqL.of h1), by rw [← h2.length]; exact q⟩
  · cases e; cases s
    cases r with | cons a b => cases b; cases a with | tup h1 h2 => exact .inl ⟨_, _, rfl, .inr (SqT.of h1), by rw [← h2.length]; exact q⟩
  · split at e
    · cases e; cases s
      cases r with | cons a b => cases b; cases a; exact .inr (.inl ⟨_, rfl, by assumption, q⟩)
    · cases e
  · cases e; cases s
    cases r with | cons a b => cases b; cases a with | dct h1 h2 _ => exact .inr (.inr ⟨_, _, rfl, h1, by rw [← h2.length]; exact q⟩)
  · cases e
def opAbs : List D → Option D
  | [.int i] => some (.int (if i < 0 then -i else i))
  | _ => none
theorem ops_abs {K : PySem.W.Frag} {W : WX} : OpS K W (fun xs H Q => ∃ i, xs = [.int i] ∧ Q (.int (if i < 0 then -i else i)) H) (dop opAbs) := by
  refine ops_read fun H vs ds d v Q r e s q => ?_
  unfold opAbs at e
  split at e
  · cases e; cases s
    cases r with | cons a b => cases b; cases a; exact ⟨_, rfl, q⟩
  · cases e
def opInt : List D → Option D
  | [.int i] => some (.int i)
  | [.str a] => if a.length ≤ 640 then (PySem.intText? a).map .int else none
  | _ => none
def rIntA : List V → Hp → VK → Prop := fun xs H Q => ((∃ i, xs = [.int i] ∧ Q (.int i) H) ∨ ∃ k, xs = [.bl k] ∧ Q (.int (if k then 1 else 0)) H) ∨ ∃ a n, xs = [.str a] ∧ PySem.intText? a = some n ∧ a.length ≤ 640 ∧ Q (.int n) H
theorem call_intA {X : Cx} : CallR X (.type "int") rIntA := by
  intro pins s σ H xs us Q I r h
  rcases h with h | h
  · exact call_int1 pins s σ H xs us Q I r h
  · exact call_int_str pins s σ H xs us Q I r h
theorem ops_int {K : PySem.W.Frag} {W : WX} : OpS K W rIntA (dop opInt) := by
  refine ops_read fun H vs ds d v Q r e s q => ?_
  unfold opInt at e
  split at e
  · cases e; cases s
    cases r with | cons a b => cases b; cases a; exact .inl (.inl ⟨_, rfl, q⟩)
  · split at e
    · rename_i a hl
      cases hi : PySem.intText? a with
      | none => rw [hi] at e; cases e
      | some n =>
        rw [hi] at e
        cases e; cases s
        cases r with | cons x b => cases b; cases x; exact .inr ⟨_, _, rfl, hi, hl, q⟩
    · cases e
  · cases e
def opStr : List D → Option D
  | [.int i] => if i.natAbs < 2 ^ 1900 then some (.str (toString i)) else none
  | _ => none
theorem log_lt {n k : Nat} (hk : 0 < k) (h : n < 2 ^ k) : n.log2 < k := PySem.Flt.log2_lt_of hk h
theorem ops_str {K : PySem.W.Frag} {W : WX} : OpS K W (fun xs H Q => ∃ i, xs = [.int i] ∧ i.natAbs.log2 < 1920 ∧ Q (.str (toString i)) H) (dop opStr) := by
  refine ops_read fun H vs ds d v Q r e s q => ?_
  unfold opStr at e
  split at e
  · split at e
    · rename_i h
      cases e; cases s
      cases r with | cons a b => cases b; cases a; exact ⟨_, rfl, Nat.lt_trans (log_lt (by decide) h) (by decide), q⟩
    · cases e
  · cases e

/-! ### isinstance with a built-in class -/
def dType : D → String
  | .none => "NoneType"
  | .bool _ => "bool"
  | .int _ => "int"
  | .str _ => "str"
  | .list _ => "list"
  | .tuple _ => "tuple"
  | .dict _ => "dict"
theorem RepD.ty {K : PySem.W.Frag} {H : Hp} {d : D} {v : V} (h : RepD K H d v) : TyX K H v (.type (dType d)) := by
  cases h with
  | non => exact .base .non
  | bl b => exact .base (.bl b)
  | int i => exact .base (.int i)
  | str s => exact .base (.str s)
  | lst h _ => exact .base (.lst h)
  | tup h _ => exact .base (.tup h)
  | dct h _ _ => rcases h with h | ⟨o, h⟩; exact .base (.dK h); exact .fDict h
/-- is a value of the type d one of the type t -/
def isTy (d t : String) : Option Bool := match t with
  | "int" => some (d == "int" || d == "bool")
  | "bool" => some (d == "bool")
  | "str" => some (d == "str")
  | "list" => some (d == "list")
  | "tuple" => some (d == "tuple")
  | "dict" => some (d == "dict")
  | _ => none
theorem isTy_kit : ∀ (d : D) (t : String) (b : Bool), isTy (dType d) t = some b → kitB (dType d) t = some b := by
  intro d t b h
  unfold isTy at h
  split at h <;> cases h <;> cases d <;> simp only [dType] <;> decide +kernel
def opIsi (t : String) : List D → Option D
  | [d] => (isTy (dType d) t).map .bool
  | _ => none
theorem ops_isi {K : PySem.W.Frag} {W : WX} {t : String} : OpS K W (fun vs H Q => ∃ x, vs = [x] ∧ rIsi K [x, .ty t] H Q) (dop (opIsi t)) := by
  refine ops_read fun H vs ds d v Q r e s q => ?_
  unfold opIsi at e
  split at e
  · rename_i z
    cases hi : isTy (dType z) t with
    | none => rw [hi] at e; cases e
    | some b =>
      rw [hi] at e; cases e; cases s
      cases r with
      | cons a r =>
        cases r
        exact ⟨_, rfl, _, _, _, _, b, rfl, .ty t, a.ty, kit_ty (isTy_kit z t b hi), q⟩
  · cases e
theorem tD_mono {K : PySem.W.Frag} {W : WX} {f : M EV} {σ : L2.St} {H : Hp} {Q Q' : VK} (k : ∀ v H, Q v H → Q' v H) (h : tD K W f σ H Q) : tD K W f σ H Q' := by
  obtain ⟨G, F, R, rel, r, ρ', e, h⟩ := h
  refine ⟨G, F, R, rel, r, ρ', e, fun G' H' F' n e' => ?_⟩
  have := h G' H' F' n e'
  cases r with
  | ok x => exact fun av r1 ok e2 => k _ _ (this av r1 ok e2)
  | error x => exact this
theorem de_isi {X : Cx} {W : WX} {a : Expr} {fa : M EV} {t : String} {x : Str} {p p2 pos : Pos} (ha : DE X W a fa) (hg : Gl X "isinstance") (hm : X.mg "isinstance" = none) (hg2 : Gl X x) (hm2 : X.mg x = none) (hv : bootBuiltins x = some (.type t))
    (hv1 : bootBuiltins "isinstance" = some (.builtin "isinstance") := by decide +kernel) (hn : x ≠ "__name__" := by decide) (hdb : (x == ("__debug__" : Str)) = false := by decide)
    (he : starEach [a, .Name x p2] X.env = (false, eval a X.env) :: starEach [.Name x p2] X.env := by rfl) (he2 : starEach [.Name x p2] X.env = (false, eval (.Name x p2) X.env) :: starEach [] X.env := by rfl) (hpl : (backTo pos (starEach [.Name x p2] X.env)).any (·.1) = false := by rfl) :
    DE X W (.Call (.Name "isinstance" p) [a, .Name x p2] [] pos) (mop [fa] (dop (opIsi t))) := by
  refine PE.imp (pe_callB (call_isi (X := X)) hg hm hv1 (pa_cons ha (pa_cons (pe_bltn (v := .ty t) hg2 hm2 hv rfl hn hdb) pa_nil he2) he) (by decide) (by decide) he hpl) fun σ H Q h => ?_
  have this : tD X.K W fa σ H fun z H1 => ∃ x, [z] = [x] ∧ rIsi X.K [x, .ty t] H1 Q := mop_run (ops_isi (K := X.K) (W := W) (t := t)) h
  show tD X.K W fa σ H fun x H1 => rIsi X.K [x, .ty t] H1 Q
  refine tD_mono (fun v H' h => ?_) this
  obtain ⟨x, e, q⟩ := h
  cases e
  exact q
/-! ### slices -/
/-- an int, seen at once -/
def M.chkInt (f : M EV) : M EV := M.bind f fun x ρ => match x.key with
  | some (.int _) => some (.ok x, ρ)
  | _ => none
theorem chkInt_run {K : PySem.W.Frag} {W : WX} {f : M EV} {σ : L2.St} {H : Hp} {Q : VK} (h : tD K W (M.chkInt f) σ H Q) : tD K W f σ H fun x H1 => ∃ i, x = .int i ∧ Q x H1 := by
  obtain ⟨G, F, R, rel, r, ρ', e, k⟩ := h
  unfold M.chkInt M.bind at e
  cases q1 : f F.er with
  | none => rw [q1] at e; cases e
  | some y1 =>
    obtain ⟨r1, ρ1⟩ := y1
    rw [q1] at e
    cases r1 with
    | error ex => cases e; exact ⟨G, F, R, rel, _, _, q1, k⟩
    | ok x =>
      simp only at e
      split at e
      · rename_i i hk
        cases e
        refine ⟨G, F, R, rel, _, _, q1, fun G1 H1 F1 n1 e1 av rel1 ok1 ex1 => ?_⟩
        have q := k G1 H1 F1 n1 e1 av rel1 ok1 ex1
        subst ex1
        obtain ⟨y, rfl⟩ := key_av hk
        have ry : RepD K G1 (.int i) y := rel1.ok.leaves (some (.int i), y) (by simp [AV.trees, leaves]) _ rfl
        cases ry
        exact ⟨i, rfl, q⟩
      · cases e
/-- a part of a slice as a reading -/
def tPartI (K : PySem.W.Frag) (W : WX) (f : M EV) : TO := fun σ H Q => tD K W (M.chkInt f) σ H fun x H1 => ∀ i, x = .int i → Q (some i) H1
theorem po_int {X : Cx} {W : WX} {e : Expr} {f : M EV} (h : DE X W e f) : PO X (some e) (tPartI X.K W f) := by
  refine ⟨fun pins s σ H Q I q => (po_some h).run pins s σ H Q I ?_⟩
  refine tD_mono (fun v H' h => ?_) (chkInt_run q)
  obtain ⟨i, e, k⟩ := h
  exact ⟨i, e, k i e⟩
def rSlAll (K : PySem.W.Frag) : V → Option Int → Option Int → Hp → VK → Prop := fun x lo hi H Q => rSlL K x lo hi H Q ∨ rSlA K x lo hi H Q ∨ rSlS x lo hi H Q
theorem sl_all {X : Cx} : SlR X (rSlAll X.K) := sl_list.or (sl_tupA.or sl_str)
/-- xs[lo:hi] -/
def cutD (xs : List D) (lo hi : Option Int) : List D := (xs.drop (HT.sIx xs.length 0 lo)).take (HT.sIx xs.length xs.length hi - HT.sIx xs.length 0 lo)
theorem cutD_ok {K : PySem.W.Frag} {G : Hp} {xs : List D} {vs : List V} {lo hi : Option Int} (h : RepDs K G xs vs) : RepDs K G (cutD xs lo hi) (cutV vs lo hi) := by
  unfold cutD cutV
  rw [h.length]
  exact (h.drop _).take _
def gSl (lo hi : Option Int) (x : EV) : M EV := fun ρ => match look x ρ with
  | some (.leaf (some (.tuple xs))) => some (.ok (.d (.tuple (cutD xs lo hi))), ρ)
  | some (.leaf (some (.str z))) => if z.length ≤ sizeLine then some (.ok (.d (.str (cutS z lo hi))), ρ) else none
  | _ => match seqL x ρ with
    | some xs => some (.ok (.val (T.lstD (cutD xs lo hi))), ρ)
    | none => none
theorem cutD_whole {xs : List D} {lo hi : Option Int} (h : HT.sIx xs.length 0 lo = 0 ∧ HT.sIx xs.length xs.length hi = xs.length) : cutD xs lo hi = xs := by
  unfold cutD
  rw [h.1, h.2]
  simp
theorem sl_core {K : PySem.W.Frag} {W : WX} {lo hi : Option Int} {G H : Hp} {σ : L2.St} {F : AF} {R : List A} {a : AV} {Q : VK} (rel : Rel K G H σ F (a.trees ++ R)) (oka : a.Ok F.sl) (res : Res K W σ (gSl lo hi a.er) G F R (Want K σ R Q)) : rSlAll K a.v lo hi H Q := by
  obtain ⟨rr, ρ', e, k⟩ := id res
  have relR : Rel K G H σ F R := rel.drop
  have byL : (match seqL a.er F.er with | some xs => some (Except.ok (EV.val (T.lstD (cutD xs lo hi))), F.er) | none => none) = some (rr, ρ') → rSlAll K a.v lo hi H Q := fun e => by
    cases es : seqL a.er F.er with
    | none => rw [es] at e; cases e
    | some xs =>
      rw [es] at e; cases e
      obtain ⟨l, vs, h1, h2, h3⟩ := rel.seqL oka (fun z hz => by simp [hz]) es
      refine .inl ⟨l, vs, h1, SqL.of h2, fun p hp => ?_⟩
      obtain ⟨b, e1, e2, rel2⟩ := relR.newL (cutD_ok (lo := lo) (hi := hi) h3) hp
      rw [← e2]
      exact k G _ F (Nx.refl _ _) rfl (.val b) (by simpa [AV.trees] using rel2) trivial (by simp [AV.er, e1])
  unfold gSl at e
  split at e
  · rename_i xs hl
    cases e
    have r := rel.leafAt oka (fun z hz => by simp [hz]) hl
    generalize a.v = va at r
    cases r with
    | @tup _ l vs h1 h2 =>
      refine .inr (.inl ⟨l, vs, rfl, SqT.of (Sub.tup relR.ok.sub h1), fun hw => ?_, fun hw p hp => ?_⟩)
      · rw [← h2.length] at hw
        refine Want.leaf (d := .tuple (cutD xs lo hi)) res ?_ relR (by rw [cutD_whole hw]; exact .tup h1 h2)
        simp only [gSl, hl]
      · obtain ⟨n, rel2⟩ := relR.newG (o := .tup (cutV vs lo hi)) hp
        exact k _ _ F n rfl (.val (.leaf (some (.tuple (cutD xs lo hi)), .ref p))) (by simpa [AV.trees] using rel2.leafNew (.tup upd_same (RepDs.mono (.of_same n.same) (cutD_ok h2)))) trivial rfl
  · rename_i z hl
    split at e
    · rename_i hz
      cases e
      have r := rel.leafAt oka (fun z hz => by simp [hz]) hl
      generalize a.v = va at r
      cases r
      refine .inr (.inr ⟨z, rfl, hz, ?_⟩)
      exact Want.leaf (d := .str (cutS z lo hi)) res (by simp only [gSl, hl, if_pos hz]) relR (.str _)
    · cases e
  · exact byL e
theorem ops_sl {K : PySem.W.Frag} {W : WX} {lo hi : Option Int} : OpS K W (lift1 fun x H Q => rSlAll K x lo hi H Q) (g1 (gSl lo hi)) :=
  ops1 fun G H σ F R a Q rel oka res => sl_core rel oka res
def gSlL (x l : EV) : M EV := fun ρ => match l.key with
  | some (.int i) => gSl (some i) none x ρ
  | _ => none
def gSlH (x h : EV) : M EV := fun ρ => match h.key with
  | some (.int i) => gSl none (some i) x ρ
  | _ => none
def g3 (h : EV → EV → EV → M EV) : List EV → M EV
  | [x, y, z] => h x y z
  | _ => fun _ => none
def gSlLH (x l h : EV) : M EV := fun ρ => match l.key with
  | some (.int i) => match h.key with
    | some (.int j) => gSl (some i) (some j) x ρ
    | _ => none
  | _ => none
theorem int_of_key {K : PySem.W.Frag} {G H : Hp} {σ : L2.St} {F : AF} {S : List A} {b : AV} {i j : Int} (rel : Rel K G H σ F S) (hm : ∀ a ∈ b.trees, a ∈ S) (hk : b.er.key = some (.int i)) (hv : b.v = .int j) : i = j := by
  obtain ⟨y, rfl⟩ := key_av hk
  have ry : RepD K G (.int i) y := rel.ok.leaves (some (.int i), y) (by
    have := hm (.leaf (some (.int i), y)) (by simp [AV.trees])
    exact List.mem_flatMap.mpr ⟨_, List.mem_append_right _ this, by simp [leaves]⟩) _ rfl
  have hv : y = .int j := hv
  subst hv
  cases ry; rfl
theorem ops_slL {K : PySem.W.Frag} {W : WX} : OpS K W (lift2 fun x l H Q => ∀ i, l = .int i → rSlAll K x (some i) none H Q) (g2 gSlL) := by
  refine ops2 fun G H σ F R a b Q rel oka okb res i hi => ?_
  obtain ⟨rr, ρ', e, k⟩ := res
  unfold gSlL at e
  split at e
  · rename_i j hk
    have : j = i := int_of_key rel (fun z hz => by simp [hz]) hk hi
    subst this
    exact sl_core (rel.swap.drop) oka ⟨rr, ρ', e, k⟩
  · cases e
theorem ops_slH {K : PySem.W.Frag} {W : WX} : OpS K W (lift2 fun x l H Q => ∀ i, l = .int i → rSlAll K x none (some i) H Q) (g2 gSlH) := by
  refine ops2 fun G H σ F R a b Q rel oka okb res i hi => ?_
  obtain ⟨rr, ρ', e, k⟩ := res
  unfold gSlH at e
  split at e
  · rename_i j hk
    have : j = i := int_of_key rel (fun z hz => by simp [hz]) hk hi
    subst this
    exact sl_core (rel.swap.drop) oka ⟨rr, ρ', e, k⟩
  · cases e
def lift3 (r : V → V → V → Hp → VK → Prop) : List V → Hp → VK → Prop
  | [x, y, z], H, Q => r x y z H Q
  | _, _, _ => False
theorem ops_slLH {K : PySem.W.Frag} {W : WX} : OpS K W (lift3 fun x l h H Q => ∀ i j, l = .int i → h = .int j → rSlAll K x (some i) (some j) H Q) (g3 gSlLH) := by
  intro G H σ F R as Q rel ok res
  match as, rel, ok, res with
  | [a, b, c], rel, ok, res =>
    intro i j hi hj
    obtain ⟨rr, ρ', e, k⟩ := res
    have e : gSlLH a.er b.er c.er F.er = some (rr, ρ') := e
    simp only [avs_cons, avs_nil, List.append_assoc, List.append_nil] at rel
    unfold gSlLH at e
    split at e
    · rename_i i' hk
      split at e
      · rename_i j' hk'
        have e1 : i' = i := int_of_key rel (fun z hz => by simp [hz]) hk hi
        have e2 : j' = j := int_of_key rel (fun z hz => by simp [hz]) hk' hj
        subst e1 e2
        refine sl_core (R := R) ?_ (ok a (by simp)) ⟨rr, ρ', e, k⟩
        exact (rel.weakR (fun n q => by simp at q ⊢; rcases q with q | q <;> simp [q]) (fun b => by simp [cnt_append]; omega) (fun n q => by simp at q ⊢; rcases q with q | q <;> simp [q]))
      · cases e
    · cases e
  | [], rel, ok, res => obtain ⟨_, _, e, _⟩ := res; cases e
  | [_], rel, ok, res => obtain ⟨_, _, e, _⟩ := res; cases e
  | [_, _], rel, ok, res => obtain ⟨_, _, e, _⟩ := res; cases e
  | _ :: _ :: _ :: _ :: _, rel, ok, res => obtain ⟨_, _, e, _⟩ := res; cases e
section
variable {X : Cx} {W : WX} {a lo hi : Expr} {fa fl fh : M EV} {pos p2 : Pos}
theorem de_sl_nn (ha : DE X W a fa) : DE X W (.Subscript a (.Slice none none none p2) pos) (mop [fa] (g1 (gSl none none))) :=
  PE.imp (pe_slice sl_all ha po_none po_none) fun σ H Q h => mop_run (ops_sl (lo := none) (hi := none)) h
theorem de_sl_l (ha : DE X W a fa) (hl : DE X W lo fl) : DE X W (.Subscript a (.Slice (some lo) none none p2) pos) (mop [fa, M.chkInt fl] (g2 gSlL)) :=
  PE.imp (pe_slice sl_all ha (po_int hl) po_none) fun σ H Q h => mop_run ops_slL h
theorem de_sl_h (ha : DE X W a fa) (hh : DE X W hi fh) : DE X W (.Subscript a (.Slice none (some hi) none p2) pos) (mop [fa, M.chkInt fh] (g2 gSlH)) :=
  PE.imp (pe_slice sl_all ha po_none (po_int hh)) fun σ H Q h => mop_run ops_slH h
theorem de_sl_lh (ha : DE X W a fa) (hl : DE X W lo fl) (hh : DE X W hi fh) : DE X W (.Subscript a (.Slice (some lo) (some hi) none p2) pos) (mop [fa, M.chkInt fl, M.chkInt fh] (g3 gSlLH)) := by
  refine PE.imp (pe_slice sl_all ha (po_int hl) (po_int hh)) fun σ H Q h => ?_
  have := mop_run (r := lift3 fun x l h H Q => ∀ i j, l = .int i → h = .int j → rSlAll X.K x (some i) (some j) H Q) ops_slLH h
  have this : tD X.K W fa σ H fun x H1 => tD X.K W (M.chkInt fl) σ H1 fun l H2 => tD X.K W (M.chkInt fh) σ H2 fun u H3 => ∀ i j, l = .int i → u = .int j → rSlAll X.K x (some i) (some j) H3 Q := this
  show tD X.K W fa σ H fun x H1 => tD X.K W (M.chkInt fl) σ H1 fun l H2 => ∀ i, l = .int i → tD X.K W (M.chkInt fh) σ H2 fun u H3 => ∀ j, u = .int j → rSlAll X.K x (some i) (some j) H3 Q
  exact tD_mono (fun x H1 h1 => tD_mono (fun l H2 h2 i hi => tD_mono (fun u H3 h3 j hj => h3 i j hi hj) h2) h1) this
end
end LT

/-! LA9: stores in a frame's trees. -/
namespace LT
open PySem PySem.Spec L2

/-! ### aliases that a store makes invalid -/
def SV.kill (j : Nat) (p : List D) : SV → SV
  | .al j' p' => if j' = j ∧ below p p' = true then .emp else .al j' p'
  | s => s
def AS.kill (j : Nat) (p : List D) : AS → AS
  | .al j' p' v => if j' = j ∧ below p p' = true then .emp else .al j' p' v
  | s => s
def tmKill (j : Nat) (p : List D) : Option (Nat × List D) → Option (Nat × List D)
  | some (j', p') => if j' = j ∧ below p p' = true then none else some (j', p')
  | none => none
def atKill (j : Nat) (p : List D) : Option (Nat × List D × V) → Option (Nat × List D × V)
  | some (j', p', v) => if j' = j ∧ below p p' = true then none else some (j', p', v)
  | none => none
def Fr.put (ρ : Fr) (j : Nat) (p : List D) (new : T) : Option Fr := match ρ.sl[j]? with
  | some (.own t) => some { ρ with sl := (ρ.sl.map (SV.kill j p)).set j (.own (t.set p new)), tm := ρ.tm.map (tmKill j p) }
  | _ => none
def AF.put (F : AF) (j : Nat) (p : List D) (a new : A) : AF := { F with sl := (F.sl.map (AS.kill j p)).set j (.own (a.set p new)), tm := F.tm.map (atKill j p) }
theorem AS.kill_er (j : Nat) (p : List D) (s : AS) : (s.kill j p).er = s.er.kill j p := by
  cases s with
  | al j' p' v =>
    by_cases h : j' = j ∧ below p p' = true
    · simp only [AS.kill, AS.er, SV.kill, if_pos h]
    · simp only [AS.kill, AS.er, SV.kill, if_neg h]
  | _ => rfl
theorem AF.put_er {F : AF} {j : Nat} {p : List D} {a new : A} (h : F.sl[j]? = some (.own a)) : F.er.put j p (LT.er new) = some (F.put j p a new).er := by
  unfold Fr.put
  simp only [sl_er, h, Option.map_some, AS.er]
  unfold AF.put AF.er
  simp only [List.map_set, List.map_map, AS.er, er_set]
  congr 2
  · congr 1
    · apply List.map_congr_left
      intro s _
      exact (AS.kill_er j p s).symm
  · apply List.map_congr_left
    intro s _
    cases s with
    | none => rfl
    | some x =>
      obtain ⟨j', p', v⟩ := x
      by_cases h : j' = j ∧ below p p' = true
      · simp only [Function.comp, Option.map, tmKill, atKill, if_pos h]
      · simp only [Function.comp, Option.map, tmKill, atKill, if_neg h]
theorem owns_split {sl : List AS} {j : Nat} {a : A} (h : sl[j]? = some (.own a)) : ∃ P Q, owns sl = P ++ a :: Q ∧ ∀ a', owns (sl.set j (.own a')) = P ++ a' :: Q := by
  have hl : j < sl.length := (List.getElem?_eq_some_iff.mp h).1
  have hb : sl[j] = .own a := (List.getElem?_eq_some_iff.mp h).2
  refine ⟨owns (sl.take j), owns (sl.drop (j + 1)), ?_, fun a' => ?_⟩
  · have sp : sl = sl.take j ++ (.own a) :: sl.drop (j + 1) := by rw [← hb]; simp
    conv => lhs; rw [sp]
    simp [owns, AS.trees]
  · rw [List.set_eq_take_append_cons_drop, if_pos hl]
    simp [owns, AS.trees]
theorem owns_kill (j : Nat) (p : List D) (sl : List AS) : owns (sl.map (AS.kill j p)) = owns sl := by
  induction sl with
  | nil => rfl
  | cons s sl ih =>
    have : owns (s :: sl) = s.trees ++ owns sl := by simp [owns]
    rw [List.map_cons]
    have e : owns (s.kill j p :: sl.map (AS.kill j p)) = (s.kill j p).trees ++ owns (sl.map (AS.kill j p)) := by simp [owns]
    rw [e, ih, this]
    congr 1
    cases s with
    | al j' p' v => simp only [AS.kill]; split <;> rfl
    | _ => rfl
/-- a place that is not below p stands as it did behind a store at p -/
theorem at_keep {p : List D} : ∀ {a c c' : A} {r : List D} {x : A}, a.at p = some c → c'.val = c.val → below p r = false → a.at r = some x → ∃ x', (a.set p c').at r = some x' ∧ x'.val = x.val := by
  induction p with
  | nil =>
    intro a c c' r x h hv hb hr
    rw [TR.at_nil] at h; cases h
    cases r with
    | nil => rw [TR.at_nil] at hr; cases hr; exact ⟨c', by rw [TR.set_nil, TR.at_nil], hv⟩
    | cons q r => cases hb
  | cons q p ih =>
    intro a c c' r x h hv hb hr
    obtain ⟨n, k, cs, i, b, rfl, e, e2, h', hs⟩ := TR.at_cons h
    cases r with
    | nil =>
      rw [TR.at_nil] at hr; cases hr
      exact ⟨_, TR.at_nil _, by rw [hs]; rfl⟩
    | cons q' r =>
      obtain ⟨_, _, _, i', b', e0, e', e2', h2, _⟩ := TR.at_cons hr
      cases e0
      rw [hs, TR.at_node, map_fst_set e2, e']
      have hl : i < cs.length := (List.getElem?_eq_some_iff.mp e2).1
      by_cases hi : i = i'
      · subst hi
        rw [e2] at e2'; cases e2'
        simp only [List.getElem?_set_self hl]
        by_cases hq : q.same q' = true
        · have hb' : below p r = false := by simpa [below, hq] using hb
          exact ih h' hv hb' h2
        · -- two names of one place: only where they are the same name
          have hqq : q.same q' = true := by
            cases k with
            | lst =>
              cases q <;> simp [ixOf] at e
              cases q' <;> simp [ixOf] at e'
              simp [PyData.same]; omega
            | tup =>
              cases q <;> simp [ixOf] at e
              cases q' <;> simp [ixOf] at e'
              simp [PyData.same]; omega
            | dct =>
              unfold ixOf at e e'
              rw [List.findIdx?_eq_some_iff_getElem] at e e'
              obtain ⟨g1, g2, _⟩ := e
              obtain ⟨g1', g2', _⟩ := e'
              generalize (List.map Prod.fst cs)[i] = z at g2 g2'
              cases z <;> cases q <;> cases q' <;> simp [PyData.same] at g2 g2' ⊢ <;> simp_all
            | ins C =>
              unfold ixOf at e e'
              rw [List.findIdx?_eq_some_iff_getElem] at e e'
              obtain ⟨g1, g2, _⟩ := e
              obtain ⟨g1', g2', _⟩ := e'
              generalize (List.map Prod.fst cs)[i] = z at g2 g2'
              cases z <;> cases q <;> cases q' <;> simp [PyData.same] at g2 g2' ⊢ <;> simp_all
            | xd =>
              unfold ixOf at e e'
              rw [List.findIdx?_eq_some_iff_getElem] at e e'
              obtain ⟨g1, g2, _⟩ := e
              obtain ⟨g1', g2', _⟩ := e'
              generalize (List.map Prod.fst cs)[i] = z at g2 g2'
              cases z <;> cases q <;> cases q' <;> simp [PyData.same] at g2 g2' ⊢ <;> simp_all
          exact absurd hqq hq
      · simp only [List.getElem?_set_ne hi, e2']
        exact ⟨x, h2, rfl⟩
/-- THE STORE: the tree at slot j gets new at p; G and the trees S that go in may change with it -/
theorem Rel.put {K : PySem.W.Frag} {G G' H H' : Hp} {σ : L2.St} {F : AF} {R S : List A} {j : Nat} {p : List D} {a c c' : A} (r : Rel K G H σ F S) (hj : F.sl[j]? = some (.own a)) (hp : a.at p = some c) (hv : c'.val = c.val)
    (h : ∀ P Q N1 N2 L1 L2, owns F.sl = P ++ a :: Q → LT.nodes a = N1 ++ LT.nodes c ++ N2 → LT.leaves a = L1 ++ LT.leaves c ++ L2 →
      Held K G' H' (allN P ++ (N1 ++ LT.nodes c' ++ N2) ++ allN Q ++ allN R) (allL P ++ (L1 ++ LT.leaves c' ++ L2) ++ allL Q ++ allL R)) (hs : Same G G') :
    Rel K G' H' σ (F.put j p a c') R ∧ Nx G G' F (F.put j p a c') := by
  obtain ⟨N1, N2, L1, L2, e1, e2, e3⟩ := at_split hp
  obtain ⟨P, Q, o1, o2⟩ := owns_split hj
  obtain ⟨f1, f2, f3⟩ := e3 c' hv
  have hjl : j < F.sl.length := (List.getElem?_eq_some_iff.mp hj).1
  have hjk : (F.sl.map (AS.kill j p))[j]? = some (.own a) := by rw [List.getElem?_map, hj]; rfl
  obtain ⟨P', Q', o1', o2'⟩ := owns_split hjk
  have eo : owns ((F.sl.map (AS.kill j p)).set j (.own (a.set p c'))) = P ++ a.set p c' :: Q := by
    rw [o2']
    have e0 := o2' a
    have e00 : (F.sl.map (AS.kill j p)).set j (.own a) = F.sl.map (AS.kill j p) := by
      apply List.ext_getElem?
      intro i
      by_cases hi : j = i
      · subst hi; rw [List.getElem?_set_self (by simpa using hjl), hjk]
      · rw [List.getElem?_set_ne hi]
    -- the same split, by hand
    have t1 : (F.sl.map (AS.kill j p)).set j (.own (a.set p c')) = (F.sl.set j (.own (a.set p c'))).map (AS.kill j p) := by
      rw [List.map_set]; rfl
    rw [← o2', t1, owns_kill, o2]
  have hsl : ∀ i, (F.put j p a c').sl[i]? = if i = j then some (.own (a.set p c')) else (F.sl[i]?).map (AS.kill j p) := fun i => by
    unfold AF.put
    by_cases hi : i = j
    · subst hi; rw [if_pos rfl]; show ((F.sl.map (AS.kill i p)).set i _)[i]? = _; rw [List.getElem?_set_self (by simpa using hjl)]
    · rw [if_neg hi]; show ((F.sl.map (AS.kill j p)).set j _)[i]? = _; rw [List.getElem?_set_ne (Ne.symm hi), List.getElem?_map]
  have hva : ∀ i q v, ¬ (i = j ∧ below p q = true) → ValAt F.sl i q v → ValAt (F.put j p a c').sl i q v := fun i q v hb ⟨b, x, x1, x2, x3⟩ => by
    by_cases hi : i = j
    · subst hi
      rw [hj] at x1; cases x1
      have hb' : below p q = false := by cases z : below p q with | false => rfl | true => exact absurd ⟨rfl, z⟩ hb
      obtain ⟨x', y1, y2⟩ := at_keep hp hv hb' x2
      exact ⟨a.set p c', x', by rw [hsl, if_pos rfl], y1, y2.trans x3⟩
    · exact ⟨b, x, by rw [hsl, if_neg hi, x1]; rfl, x2, x3⟩
  have ho := h P Q N1 N2 L1 L2 o1 e1 e2
  refine ⟨⟨?_, ?_, fun i b hb => ?_, fun i i' q v hb => ?_, fun i q v hb => ?_, fun x hx => ?_⟩, ⟨hs, rfl, by simp [AF.put], fun i x hx => ?_⟩⟩
  · show Held K G' H' (allN (owns ((F.sl.map (AS.kill j p)).set j (.own (a.set p c'))) ++ R)) (allL (owns ((F.sl.map (AS.kill j p)).set j (.own (a.set p c'))) ++ R))
    rw [eo]
    have en : allN (P ++ a.set p c' :: Q ++ R) = allN P ++ (N1 ++ LT.nodes c' ++ N2) ++ allN Q ++ allN R := by simp [f1, List.append_assoc]
    have el : allL (P ++ a.set p c' :: Q ++ R) = allL P ++ (L1 ++ LT.leaves c' ++ L2) ++ allL Q ++ allL R := by simp [f2, List.append_assoc]
    rw [en, el]
    exact ho
  · show ((F.sl.map (AS.kill j p)).set j _).length = _
    simp [r.len]
  · rw [hsl] at hb
    by_cases hi : i = j
    · subst hi; rw [if_pos rfl] at hb; cases hb; rw [f3]; exact r.own _ _ hj
    · rw [if_neg hi] at hb
      cases q : F.sl[i]? with
      | none => rw [q] at hb; cases hb
      | some s =>
        rw [q] at hb
        cases s with
        | own b' => cases hb; exact r.own _ _ q
        | emp => cases hb
        | al j' p' v => simp only [Option.map_some, AS.kill] at hb; split at hb <;> cases hb
  · rw [hsl] at hb
    by_cases hi : i = j
    · subst hi; rw [if_pos rfl] at hb; cases hb
    · rw [if_neg hi] at hb
      cases q' : F.sl[i]? with
      | none => rw [q'] at hb; cases hb
      | some s =>
        rw [q'] at hb
        cases s with
        | own b' => cases hb
        | emp => cases hb
        | al j' p' v' =>
          simp only [Option.map_some, AS.kill] at hb
          split at hb
          · cases hb
          · rename_i hk
            cases hb
            obtain ⟨a1, a2⟩ := r.al _ _ _ _ q'
            exact ⟨a1, hva _ _ _ hk a2⟩
  · have hb : some (i, q, v) ∈ F.tm.map (atKill j p) := hb
    obtain ⟨y, hy, e⟩ := List.mem_map.mp hb
    cases y with
    | none => cases e
    | some z =>
      obtain ⟨j', p', v'⟩ := z
      simp only [atKill] at e
      split at e
      · cases e
      · rename_i hk
        cases e
        exact hva _ _ _ hk (r.tm _ _ _ hy)
  · obtain ⟨b, h1, h2⟩ := r.io x hx
    by_cases hi : x.1 = j
    · rw [hi, hj] at h1; cases h1
      exact ⟨a.set p c', by rw [hsl, if_pos hi], by rw [f3]; exact h2⟩
    · exact ⟨b, by rw [hsl, if_neg hi, h1]; rfl, h2⟩
  · have hx : (F.tm.map (atKill j p))[i]? = some (some x) := hx
    rw [List.getElem?_map] at hx
    cases q : F.tm[i]? with
    | none => rw [q] at hx; cases hx
    | some y =>
      rw [q] at hx
      cases y with
      | none => cases hx
      | some z =>
        obtain ⟨j', p', v'⟩ := z
        simp only [Option.map_some, atKill] at hx
        split at hx
        · cases hx
        · cases hx; rfl
end LT

/-! LA10: freezing, names, constants, tests, displays, calls of methods. -/
namespace LT
open PySem PySem.Spec L2

/-! ### freezing -/
section
variable {K : PySem.W.Frag} {G H : Hp} {σ : L2.St} {F : AF} {R S : List A}
theorem rep_frz {N' : List (Addr × Option HO)} {L : List (Option D × V)} {a : A} {d : D} (h : Held K G H (LT.nodes a ++ N') L) (hl : ∀ l ∈ LT.leaves a, l ∈ L) (e : (er a).toD = some d) : RepD K (frzG G H (LT.nodes a)) d a.val := by
  obtain ⟨_, h2, h3⟩ := h.freeze
  exact rep_of_tree h3 (fun l q x e => h2.leaves l (hl l q) x e) e
theorem Rel.frzVal {a : A} {d : D} (r : Rel K G H σ F (a :: R)) (e : (er a).toD = some d) : ∃ G', Same G G' ∧ Rel K G' H σ F (.leaf (some d, a.val) :: R) := by
  have h : Held K G H (LT.nodes a ++ (allN (owns F.sl) ++ allN R)) (LT.leaves a ++ (allL (owns F.sl) ++ allL R)) :=
    Held.less r.ok (fun n q => by simp at q ⊢; rcases q with q | q | q <;> simp [q]) (fun b => by
      show _ ≤ cnt b (allN (owns F.sl ++ (a :: R)))
      simp only [allN_append, allN_cons, cnt_append]; omega) (fun n q => by simp at q ⊢; rcases q with q | q | q <;> simp [q])
  have rd := rep_frz h (fun l q => by simp [q]) e
  obtain ⟨s, h2, h3⟩ := h.freeze
  refine ⟨_, s, ⟨?_, r.len, r.own, r.al, r.tm, r.io⟩⟩
  refine ⟨h2.sub, fun n q => h2.nodes n (by simpa [nodes] using q), fun l q x e => ?_, fun b => ?_, fun n q => h2.free n (by simpa [nodes] using q)⟩
  · simp only [allL_append, allL_cons, leaves, List.mem_append, List.mem_cons, List.not_mem_nil, or_false] at q
    rcases q with q | q | q
    · exact h2.leaves l (by simp [q]) x e
    · subst q; cases e; exact rd
    · exact h2.leaves l (by simp [q]) x e
  · have := h2.one b
    show cnt b (allN (owns F.sl ++ (.leaf (some d, a.val) :: R))) ≤ 1
    simpa [nodes, cnt_append] using this
theorem Rel.frzPtr {j : Nat} {p : List D} {a c : A} {d : D} (r : Rel K G H σ F R) (hj : F.sl[j]? = some (.own a)) (hp : a.at p = some c) (e : (er c).toD = some d) :
    ∃ G', Rel K G' H σ (F.put j p a (.leaf (some d, c.val))) R ∧ Nx G G' F (F.put j p a (.leaf (some d, c.val))) := by
  have hh : ∀ P Q N1 N2 L1 L2, owns F.sl = P ++ a :: Q → LT.nodes a = N1 ++ LT.nodes c ++ N2 → LT.leaves a = L1 ++ LT.leaves c ++ L2 →
      Held K G H (LT.nodes c ++ (allN P ++ (N1 ++ N2) ++ allN Q ++ allN R)) (LT.leaves c ++ (allL P ++ (L1 ++ L2) ++ allL Q ++ allL R)) := fun P Q N1 N2 L1 L2 e1 e2 e3 => by
    have h := r.ok
    rw [e1] at h
    refine Held.less h (fun n q => ?_) (fun b => ?_) (fun n q => ?_)
    · show n ∈ allN ((P ++ a :: Q) ++ R)
      simp only [allN_append, allN_cons, e2, List.mem_append] at q ⊢
      rcases q with q | (((q | q | q) | q) | q) <;> simp [q]
    · show _ ≤ cnt b (allN ((P ++ a :: Q) ++ R))
      simp only [allN_append, allN_cons, e2, cnt_append]; omega
    · show n ∈ allL ((P ++ a :: Q) ++ R)
      simp only [allL_append, allL_cons, e3, List.mem_append] at q ⊢
      rcases q with q | (((q | q | q) | q) | q) <;> simp [q]
  obtain ⟨N1, N2, L1, L2, e1, e2, _⟩ := at_split hp
  obtain ⟨P, Q, o1, _⟩ := owns_split hj
  have s := (hh P Q N1 N2 L1 L2 o1 e1 e2).freeze.1
  refine ⟨frzG G H (LT.nodes c), ?_⟩
  refine r.put hj hp rfl (fun P Q N1 N2 L1 L2 e1 e2 e3 => ?_) s
  have h := hh P Q N1 N2 L1 L2 e1 e2 e3
  have rd := rep_frz h (fun l q => by simp [q]) e
  obtain ⟨_, h2, h3⟩ := h.freeze
  refine ⟨h2.sub, fun n q => h2.nodes n (by simpa [nodes] using q), fun l q x e => ?_, fun b => by simpa [nodes] using h2.one b, fun n q => h2.free n (by simpa [nodes] using q)⟩
  simp only [leaves, List.mem_append, List.mem_cons, List.not_mem_nil, or_false] at q
  rcases q with ((q | (q | q) | q) | q) | q
  · exact h2.leaves l (by simp [q]) x e
  · exact h2.leaves l (by simp [q]) x e
  · subst q; cases e; exact rd
  · exact h2.leaves l (by simp [q]) x e
  · exact h2.leaves l (by simp [q]) x e
  · exact h2.leaves l (by simp [q]) x e
end
/-- a value that stays from now on -/
def gFrz (x : EV) (ρ : Fr) : Option (EV × Fr) := match x with
  | .val t => match t.toD with
    | none => none
    | some d => some (.d d, ρ)
  | .ptr j p => match look (.ptr j p) ρ with
    | none => none
    | some t => match t.toD with
      | none => none
      | some d => match ρ.put j p (.leaf (some d)) with
        | none => none
        | some ρ' => some (.d d, ρ')
theorem look_ptr {F : AF} {j : Nat} {p : List D} {v : V} {t : T} (hx : ValAt F.sl j p v) (e : look (.ptr j p) F.er = some t) : ∃ a c : A, F.sl[j]? = some (.own a) ∧ a.at p = some c ∧ c.val = v ∧ er c = t := by
  obtain ⟨a, c, h1, h2, h3⟩ := hx
  have e' : (er a).at p = some t := by
    simp only [look, sl_er, h1] at e
    exact e
  rw [er_at, h2] at e'
  exact ⟨a, c, h1, h2, h3, Option.some.inj e'⟩
theorem frz_ok {K : PySem.W.Frag} : GhostOk K gFrz := by
  intro G H σ F R av ev' ρ' rel ok e
  cases av with
  | val a =>
    simp only [AV.er, gFrz] at e
    cases q : (er a).toD with
    | none => rw [q] at e; cases e
    | some d =>
      rw [q] at e; cases e
      obtain ⟨G', s, rel'⟩ := Rel.frzVal (a := a) (R := R) (by simpa [AV.trees] using rel) q
      exact ⟨G', F, .val (.leaf (some d, a.val)), ⟨s, rfl, rfl, fun _ _ h => h⟩, rfl, rfl, rfl, trivial, by simpa [AV.trees] using rel'⟩
  | ptr j p v =>
    simp only [AV.er, gFrz] at e
    cases q : look (.ptr j p) F.er with
    | none => rw [q] at e; cases e
    | some t =>
      rw [q] at e
      simp only at e
      cases q2 : t.toD with
      | none => rw [q2] at e; cases e
      | some d =>
        rw [q2] at e
        simp only at e
        obtain ⟨a, c, h1, h2, h3, h4⟩ := look_ptr ok q
        subst h4
        have pe := AF.put_er (p := p) (new := .leaf (some d, c.val)) h1
        rw [show (TR.leaf (some d) : T) = LT.er (.leaf (some d, c.val)) from rfl, pe] at e
        cases e
        have relR : Rel K G H σ F R := by simpa [AV.trees] using rel
        obtain ⟨G', r', n'⟩ := relR.frzPtr h1 h2 q2
        have va : ValAt (F.put j p a (.leaf (some d, c.val))).sl j p c.val := by
          have hjl : j < F.sl.length := (List.getElem?_eq_some_iff.mp h1).1
          refine ⟨a.set p (.leaf (some d, c.val)), .leaf (some d, c.val), ?_, ?_, rfl⟩
          · show ((F.sl.map (AS.kill j p)).set j _)[j]? = _
            rw [List.getElem?_set_self (by simpa using hjl)]
          · have := TR.at_set (.leaf (some d, c.val)) h2 []
            rw [List.append_nil, TR.at_nil] at this
            exact this
        -- the leaf's value may be held apart: its own fact is in the tree
        obtain ⟨b, x, b1, b2, b3⟩ := va
        have rd : RepD K G' d c.val := by
          have sn := (r'.ok.seen (a := b) (by simp [mem_owns b1])).at b2
          have hx : x = .leaf (some d, c.val) := by
            have := TR.at_set (.leaf (some d, c.val)) h2 []
            rw [List.append_nil, TR.at_nil] at this
            have hjl : j < F.sl.length := (List.getElem?_eq_some_iff.mp h1).1
            have hb : b = a.set p (.leaf (some d, c.val)) := by
              have hb1 : ((F.sl.map (AS.kill j p)).set j (.own (a.set p (.leaf (some d, c.val)))))[j]? = some (.own b) := b1
              rw [List.getElem?_set_self (by simpa using hjl)] at hb1
              cases hb1; rfl
            rw [hb, this] at b2
            cases b2; rfl
          subst hx
          exact sn.leaves (some d, c.val) (by simp [leaves]) d rfl
        exact ⟨G', _, .val (.leaf (some d, c.val)), n', rfl, rfl, h3, trivial, by simpa [AV.trees] using r'.leafNew rd⟩
theorem de_frz {X : Cx} {W : WX} {e : Expr} {f : M EV} (h : DE X W e f) : DE X W e (M.ghost gFrz f) := de_ghost frz_ok h

/-! ### names and constants -/
def M.cst (d : D) : M EV := M.ret (.d d)
theorem cst_ok {K : PySem.W.Frag} {W : WX} {d : D} {v : V} (h : sval d = some v) {σ : L2.St} {H : Hp} {Q : VK} (q : tD K W (M.cst d) σ H Q) : Q v H := by
  obtain ⟨G, F, R, rel, r, ρ', e, k⟩ := q
  cases e
  exact k G H F (Nx.refl _ _) rfl (.val (.leaf (some d, v))) (by simpa [AV.trees] using rel.leafNew (sval_rep h)) trivial rfl
section
variable {X : Cx} {W : WX}
theorem de_int {i : Int} {j pos} : DE X W (.Constant (.int i) j pos) (M.cst (.int i)) := PE.imp pe_int fun σ H Q h => cst_ok rfl h
theorem de_bl {b : Bool} {j pos} : DE X W (.Constant (.bool b) j pos) (M.cst (.bool b)) := PE.imp pe_bl fun σ H Q h => cst_ok rfl h
theorem de_non {j pos} : DE X W (.Constant .none j pos) (M.cst .none) := PE.imp pe_non fun σ H Q h => cst_ok rfl h
theorem de_str {x : Str} {j pos} : DE X W (.Constant (.str x) j pos) (M.cst (.str x)) := PE.imp pe_str fun σ H Q h => cst_ok rfl h
theorem de_globI {x : Str} {i : Int} {t : Tok} {pos : Pos} (hg : Gl X x) (hm : X.mg x = some (.int i t)) (hd : (x == ("__debug__" : Str)) = false := by decide) : DE X W (.Name x pos) (M.cst (.int i)) :=
  PE.imp (pe_glob (v := .int i) hg hm ⟨t, rfl⟩ hd) fun σ H Q h => cst_ok rfl h
theorem de_globS {x : Str} {i : Str} {t : Tok} {pos : Pos} (hg : Gl X x) (hm : X.mg x = some (.str i t)) (hd : (x == ("__debug__" : Str)) = false := by decide) : DE X W (.Name x pos) (M.cst (.str i)) :=
  PE.imp (pe_glob (v := .str i) hg hm ⟨t, rfl⟩ hd) fun σ H Q h => cst_ok rfl h
end
def M.var (i : Nat) : M EV := fun ρ => match ρ.sl[i]? with
  | some (.own (.leaf (some d))) => some (.ok (.d d), ρ)
  | some (.own (.node _ _ _)) => some (.ok (.ptr i []), ρ)
  | some (.al j p) => match look (.ptr j p) ρ with
    | some (.leaf (some d)) => some (.ok (.d d), ρ)
    | some (.node _ _ _) => some (.ok (.ptr j p), ρ)
    | _ => none
  | _ => none
theorem var_ok {K : PySem.W.Frag} {W : WX} {i : Nat} {σ : L2.St} {H : Hp} {Q : VK} (q : tD K W (M.var i) σ H Q) : tVar i σ H Q := by
  obtain ⟨G, F, R, rel, r, ρ', e, k⟩ := q
  unfold M.var at e
  rw [sl_er] at e
  cases hs : F.sl[i]? with
  | none => rw [hs] at e; cases e
  | some s =>
    rw [hs] at e
    cases s with
    | emp => cases e
    | own a =>
      have hv := rel.own i a hs
      refine ⟨a.val, hv, ?_⟩
      cases a with
      | leaf l =>
        obtain ⟨o, v⟩ := l
        cases o with
        | none => cases e
        | some d =>
          cases e
          exact k G H F (Nx.refl _ _) rfl (.val (.leaf (some d, v))) (by simpa [AV.trees] using rel.leafNew ((rel.ok.seen (a := .leaf (some d, v)) (by simp [mem_owns hs])).leaves (some d, v) (by simp [leaves]) d rfl)) trivial rfl
      | node n nk cs =>
        cases e
        exact k G H F (Nx.refl _ _) rfl (.ptr i [] (.ref n.1)) (by simpa [AV.trees] using rel) ⟨_, _, hs, TR.at_nil _, rfl⟩ rfl
    | al j p v =>
      obtain ⟨hv, va⟩ := rel.al i j p v hs
      refine ⟨v, hv, ?_⟩
      simp only [Option.map_some, AS.er] at e
      cases hl : look (.ptr j p) F.er with
      | none => rw [hl] at e; cases e
      | some t =>
        rw [hl] at e
        obtain ⟨a, c, h1, h2, h3, h4⟩ := look_ptr va hl
        cases t with
        | leaf o =>
          cases o with
          | none => cases e
          | some d =>
            cases e
            obtain ⟨w, rfl⟩ := er_leaf h4
            have : w = v := h3
            subst this
            exact k G H F (Nx.refl _ _) rfl (.val (.leaf (some d, w))) (by simpa [AV.trees] using rel.leafNew (((rel.ok.seen (a := a) (by simp [mem_owns h1])).at h2).leaves (some d, w) (by simp [leaves]) d rfl)) trivial rfl
        | node n nk cs =>
          cases e
          exact k G H F (Nx.refl _ _) rfl (.ptr j p v) (by simpa [AV.trees] using rel) va rfl
theorem de_var {X : Cx} {W : WX} (i : Nat) {x : Str} {pos : Pos} (hN : X.N[i]? = some x := by rfl) (hv : Vis X.env.scope x := by first | exact Or.inl rfl | exact Or.inr (Or.inl rfl) | exact Or.inr (Or.inr rfl)) (hd : (x == ("__debug__" : Str)) = false := by decide)
    (hcd : (x == ("__classdict__" : Str)) = false := by decide) : DE X W (.Name x pos) (M.var i) := PE.imp (pe_var hN hv hd hcd) fun σ H Q h => var_ok h
end LT

/-! LA11: tests, and, or, not, methods. -/
namespace LT
open PySem PySem.Spec L2

/-! ### something said of a value as soon as it is there -/
def M.chk (P : EV → Fr → Bool) (f : M EV) : M EV := M.bind f fun x ρ => match P x ρ with
  | true => some (.ok x, ρ)
  | false => none
def ChkOk (K : PySem.W.Frag) (P : EV → Fr → Bool) (Pt : V → Hp → Prop) : Prop :=
  ∀ (G H : Hp) (σ : L2.St) (F : AF) (R : List A) (av : AV), Rel K G H σ F (av.trees ++ R) → av.Ok F.sl → P av.er F.er = true → Pt av.v H
theorem chk_run {K : PySem.W.Frag} {W : WX} {P : EV → Fr → Bool} {Pt : V → Hp → Prop} (hP : ChkOk K P Pt) {f : M EV} {σ : L2.St} {H : Hp} {Q : VK} (h : tD K W (M.chk P f) σ H Q) : tD K W f σ H fun x H1 => Pt x H1 ∧ Q x H1 := by
  obtain ⟨G, F, R, rel, r, ρ', e, k⟩ := h
  unfold M.chk M.bind at e
  cases q1 : f F.er with
  | none => rw [q1] at e; cases e
  | some y1 =>
    obtain ⟨r1, ρ1⟩ := y1
    rw [q1] at e
    cases r1 with
    | error ex => cases e; exact ⟨G, F, R, rel, _, _, q1, k⟩
    | ok x =>
      simp only at e
      split at e
      · rename_i hk
        cases e
        refine ⟨G, F, R, rel, _, _, q1, fun G1 H1 F1 n1 e1 av rel1 ok1 ex1 => ?_⟩
        subst ex1
        subst e1
        exact ⟨hP G1 H1 σ F1 R av rel1 ok1 hk, k G1 H1 F1 n1 rfl av rel1 ok1 rfl⟩
      · cases e
def isStrE (x : EV) (ρ : Fr) : Bool := match look x ρ with
  | some (.leaf (some (.str _))) => true
  | _ => false
theorem isStr_ok {K : PySem.W.Frag} : ChkOk K isStrE fun x _ => ∃ a, x = .str a := by
  intro G H σ F R av rel ok h
  unfold isStrE at h
  split at h
  · rename_i z hl
    have r := rel.leafAt ok (fun a ha => by simp [ha]) hl
    generalize av.v = v at r
    cases r
    exact ⟨_, rfl⟩
  · cases h
def isLstE (x : EV) (ρ : Fr) : Bool := match look x ρ with
  | some (.leaf (some (.list _))) => true
  | some (.node _ .lst _) => true
  | _ => false
theorem isLst_ok {K : PySem.W.Frag} : ChkOk K isLstE fun x H => tyV K "list" x H := by
  intro G H σ F R av rel ok h
  unfold isLstE at h
  split at h
  · rename_i z hl
    have r := rel.leafAt ok (fun a ha => by simp [ha]) hl
    generalize av.v = v at r
    cases r with
    | lst h1 h2 => exact .inl ⟨rfl, _, SqL.of (Sub.lst rel.ok.sub h1)⟩
  · rename_i n cs hl
    obtain ⟨c, h1, h2, sn⟩ := rel.look ok (fun a ha => by simp [ha]) hl
    obtain ⟨n', cs', rfl, _⟩ := er_node h1
    rw [← h2]
    exact .inl ⟨rfl, _, SqL.of sn.lst⟩
  · cases h
def isDctE (x : EV) (ρ : Fr) : Bool := match look x ρ with
  | some (.leaf (some (.dict _))) => true
  | some (.node _ .dct _) => true
  | _ => false
theorem isDct_ok {K : PySem.W.Frag} : ChkOk K isDctE fun x H => ∃ a, x = .ref a ∧ IsD H a := by
  intro G H σ F R av rel ok h
  unfold isDctE at h
  split at h
  · rename_i z hl
    have r := rel.leafAt ok (fun a ha => by simp [ha]) hl
    generalize av.v = v at r
    cases r with
    | dct h1 h2 _ => exact ⟨_, rfl, .inl ⟨_, (RdLe.of_sub rel.ok.sub).rd _ _ h1⟩⟩
  · rename_i n cs hl
    obtain ⟨c, h1, h2, sn⟩ := rel.look ok (fun a ha => by simp [ha]) hl
    obtain ⟨n', cs', rfl, _⟩ := er_node h1
    rw [← h2]
    exact ⟨_, rfl, .inl ⟨_, .inl sn.dct.2⟩⟩
  · cases h

/-! ### methods -/
def liftM (r : V → List V → Hp → VK → Prop) : List V → Hp → VK → Prop
  | x :: xs, H, Q => r x xs H Q
  | [], _, _ => False
theorem meth_run {K : PySem.W.Frag} {W : WX} {P : EV → Fr → Bool} {Pt : V → Hp → Prop} {r : V → List V → Hp → VK → Prop} {g : List EV → M EV} {f : M EV} {fs : List (M EV)} (hP : ChkOk K P Pt) (hs : OpS K W (liftM r) g) {σ : L2.St} {H : Hp} {Q : VK}
    (h : tD K W (mop (M.chk P f :: fs) g) σ H Q) : tD K W f σ H fun x H1 => Pt x H1 ∧ tAs (fs.map (tD K W)) σ H1 fun xs H2 => r x xs H2 Q :=
  chk_run hP (show tD K W (M.chk P f) σ H fun x H1 => tAs (fs.map (tD K W)) σ H1 fun xs H2 => r x xs H2 Q from mop_run (r := liftM r) hs h)
section
variable {X : Cx} {W : WX} {o e : Expr} {es : List Expr} {fo f : M EV} {fs : List (M EV)} {name : Str} {apos cpos : Pos} {id : String} {r : V → List V → Hp → VK → Prop} {g : List EV → M EV}
/-- a list's method -/
theorem de_lm (slot : Slot "list" name id) (hty : typeOf (.builtin id) = pure (.type "method_descriptor")) (hm : MtR X id r) (hs : OpS X.K W (liftM r) g) (ho : DE X W o fo) (ha : DAs X W (e :: es) fs)
    (hbase : attributeBase o name X.env (eval o X.env) = eval o X.env := by rfl)
    (hfew : ((backTo cpos (starEach (e :: es) X.env)).all (fun x => !x.1) && (backToKw cpos (keywordEach [] X.env)).all (fun x => x.1.isSome)
      && decide ((e :: es).length + ([] : List Keyword).length + (if ([] : List Keyword).isEmpty then 0 else 1) < 30)) = true := by rfl)
    (hline : (apos.endLine == cpos.line) = true := by rfl) (hst : starEach (e :: es) X.env = (false, eval e X.env) :: starEach es X.env := by rfl) (hplain : (backTo cpos (starEach es X.env)).any (·.1) = false := by rfl) :
    DE X W (.Call (.Attribute o name apos) (e :: es) [] cpos) (mop (M.chk isLstE fo :: fs) g) :=
  PE.imp (pe_bm PySem.F.plainAttrs_list slot hty hm ho ha hbase hfew hline hst hplain) fun σ H Q h => meth_run isLst_ok hs h
theorem de_lm0 (slot : Slot "list" name id) (hty : typeOf (.builtin id) = pure (.type "method_descriptor")) (hm : MtR X id r) (hs : OpS X.K W (liftM r) g) (ho : DE X W o fo)
    (hbase : attributeBase o name X.env (eval o X.env) = eval o X.env := by rfl) (hline : (apos.endLine == cpos.line) = true := by rfl) : DE X W (.Call (.Attribute o name apos) [] [] cpos) (mop [M.chk isLstE fo] g) :=
  PE.imp (pe_bm0 PySem.F.plainAttrs_list slot hty hm ho hbase hline) fun σ H Q h => meth_run (fs := []) isLst_ok hs h
/-- a text's method with one argument -/
theorem de_sm (slot : Slot "str" name id) (ty : typeOf (.builtin id) = pure (.type "method_descriptor")) (hm : MtR X id r) (hs : OpS X.K W (liftM r) g) (ho : DE X W o fo) (he : DE X W e f)
    (hst : starEach [e] X.env = [(false, eval e X.env)] := by rfl) (hbase : attributeBase o name X.env (eval o X.env) = eval o X.env := by rfl) (hline : (apos.endLine == cpos.line) = true := by rfl) :
    DE X W (.Call (.Attribute o name apos) [e] [] cpos) (mop [M.chk isStrE fo, f] g) :=
  PE.imp (pe_m1 slot ty hm ho he hst hbase hline) fun σ H Q h => meth_run (fs := [f]) isStr_ok hs h
end
theorem opsM_read {K : PySem.W.Frag} {W : WX} {r : V → List V → Hp → VK → Prop} {op : List D → Option D}
    (hr : ∀ (H : Hp) (x : V) (vs : List V) (ds : List D) (d : D) (v : V) (Q : VK), RepDs K H ds (x :: vs) → op ds = some d → sval d = some v → Q v H → r x vs H Q) (h0 : op [] = none := by rfl) : OpS K W (liftM r) (dop op) :=
  ops_read fun H vs ds d v Q rd e s q => by
    cases vs with
    | nil => cases rd; rw [h0] at e; cases e
    | cons x vs => exact hr H x vs ds d v Q rd e s q
/-- s.find(t) -/
def opFind : List D → Option D
  | [.str a, .str b] => some (.int (Txt.find a b))
  | _ => none
theorem ops_find {K : PySem.W.Frag} {W : WX} : OpS K W (liftM fun x xs H Q => ∃ a b, x = .str a ∧ xs = [.str b] ∧ Q (.int (Txt.find a b)) H) (dop opFind) := by
  refine opsM_read fun H x vs ds d v Q r e s q => ?_
  unfold opFind at e
  split at e
  · cases e; cases s
    cases r with | cons a b => cases a; cases b with | cons a b => cases a; cases b; exact ⟨_, _, rfl, rfl, q⟩
  · cases e
/-- sep.join(texts) -/
def strsOf : List D → Option (List Str)
  | [] => some []
  | .str s :: r => match strsOf r with
    | none => none
    | some ss => some (s :: ss)
  | _ => none
theorem strsOf_rep {K : PySem.W.Frag} {H : Hp} : ∀ {ds : List D} {vs : List V} {ss : List Str}, RepDs K H ds vs → strsOf ds = some ss → vs = ss.map V.str
  | _, _, _, .nil, e => by cases e; rfl
  | _, _, _, .cons (x := x) (xs := xs) a b, e => by
    cases x <;> try (cases e; done)
    rename_i s
    unfold strsOf at e
    cases q : strsOf xs with
    | none => rw [q] at e; cases e
    | some ss => rw [q] at e; cases e; cases a; rw [strsOf_rep b q]; rfl
def opJoin : List D → Option D
  | [.str a, c] => match seqOf c with
    | none => none
    | some xs => match strsOf xs with
      | none => none
      | some ss => if (ss.map (·.length)).sum + ss.length * a.length ≤ 16777216 then some (.str (Txt.join a ss)) else none
  | _ => none
theorem ops_join {K : PySem.W.Frag} {W : WX} : OpS K W (liftM fun x xs H Q => ∃ a p, ∃ ys : List Str, x = .str a ∧ xs = [.ref p] ∧ (SqL K H p (ys.map V.str) ∨ SqT K H p (ys.map V.str)) ∧ (ys.map (·.length)).sum + ys.length * a.length ≤ 16777216 ∧ Q (.str (Txt.join a ys)) H) (dop opJoin) := by
  refine opsM_read fun H x vs ds d v Q r e s q => ?_
  unfold opJoin at e
  split at e
  · rename_i a c
    cases q1 : seqOf c with
    | none => rw [q1] at e; cases e
    | some xs =>
      rw [q1] at e
      simp only at e
      cases q2 : strsOf xs with
      | none => rw [q2] at e; cases e
      | some ss =>
        rw [q2] at e
        simp only at e
        split at e
        · rename_i hl
          cases e; cases s
          cases r with
          | cons ra r =>
            cases ra
            cases r with
            | cons rc r =>
              cases r
              cases rc with
              | lst h1 h2 => cases q1; exact ⟨a, _, ss, rfl, rfl, .inl (by rw [← strsOf_rep h2 q2]; exact SqL.of h1), hl, q⟩
              | tup h1 h2 => cases q1; exact ⟨a, _, ss, rfl, rfl, .inr (by rw [← strsOf_rep h2 q2]; exact SqT.of h1), hl, q⟩
              | _ => cases q1
        · cases e
  · cases e

/-! ### tests -/
def M.asBool (f : M EV) : M Bool := M.bind f fun x ρ => match x.key with
  | some (.bool b) => some (.ok b, ρ)
  | _ => none
theorem asBool_run {K : PySem.W.Frag} {W : WX} {f : M EV} {σ : L2.St} {H : Hp} {Q : Bool → Hp → Prop} (h : tDT K W (M.asBool f) σ H Q) : tD K W f σ H fun x H1 => ∃ k, x = .bl k ∧ Q k H1 := by
  obtain ⟨G, F, R, rel, r, ρ', e, k⟩ := h
  unfold M.asBool M.bind at e
  cases q1 : f F.er with
  | none => rw [q1] at e; cases e
  | some y1 =>
    obtain ⟨r1, ρ1⟩ := y1
    rw [q1] at e
    cases r1 with
    | error ex => cases e; exact ⟨G, F, R, rel, _, _, q1, k⟩
    | ok x =>
      simp only at e
      split at e
      · rename_i b hk
        cases e
        refine ⟨G, F, R, rel, _, _, q1, fun G1 H1 F1 n1 e1 av rel1 ok1 ex1 => ?_⟩
        subst ex1
        subst e1
        obtain ⟨y, rfl⟩ := key_av hk
        have ry : RepD K G1 (.bool b) y := rel1.ok.leaves (some (.bool b), y) (by simp [AV.trees, leaves]) _ rfl
        cases ry
        exact ⟨b, rfl, k G1 H1 F1 n1 rfl rel1.drop⟩
      · cases e
/-- the truth of a value -/
def dTru : D → Option Bool
  | .none => some false
  | .bool b => some b
  | .int i => some (i != 0)
  | .str s => if s.length ≤ sizeLine then some ((s.length : Int) != 0) else none
  | .list xs => some (!xs.isEmpty)
  | .tuple xs => some (!xs.isEmpty)
  | .dict _ => none
def truOf (x : EV) (ρ : Fr) : Option Bool := match look x ρ with
  | some (.leaf (some d)) => dTru d
  | some (.node _ .lst cs) => some (!cs.isEmpty)
  | some (.node _ .tup cs) => some (!cs.isEmpty)
  | some (.node _ .dct cs) => some (!cs.isEmpty)
  | _ => none
def M.tru (f : M EV) : M Bool := M.bind f fun x ρ => match truOf x ρ with
  | some b => some (.ok b, ρ)
  | none => none
theorem isEmpty_len {α β : Type} {l : List α} {m : List β} (h : l.length = m.length) : l.isEmpty = m.isEmpty := by
  cases l <;> cases m <;> simp at h ⊢
theorem truOf_ok {K : PySem.W.Frag} {G H : Hp} {σ : L2.St} {F : AF} {S : List A} {x : AV} {b : Bool} (rel : Rel K G H σ F S) (ok : x.Ok F.sl) (hm : ∀ a ∈ x.trees, a ∈ S) (e : truOf x.er F.er = some b) : TruV K x.v H b := by
  unfold truOf at e
  cases hl : look x.er F.er with
  | none => rw [hl] at e; cases e
  | some t =>
    rw [hl] at e
    obtain ⟨c, h1, h2, sn⟩ := rel.look ok hm hl
    cases t with
    | leaf o =>
      cases o with
      | none => cases e
      | some d =>
        have r := rel.leafAt ok hm hl
        clear h1 h2
        generalize x.v = v at r
        cases r with
        | non => cases e; rfl
        | bl c => cases e; rfl
        | int i => cases e; rfl
        | str s =>
          simp only [dTru] at e
          split at e
          · rename_i h; cases e; exact ⟨h, rfl⟩
          · cases e
        | lst g1 g2 => cases e; exact .inl ⟨_, SqL.of (Sub.lst rel.ok.sub g1), by rw [isEmpty_len g2.length]⟩
        | tup g1 g2 => cases e; exact .inr (.inl ⟨_, SqT.of (Sub.tup rel.ok.sub g1), by rw [isEmpty_len g2.length]⟩)
        | dct => cases e
    | node n nk cs =>
      obtain ⟨n', cs', rfl, rfl⟩ := er_node h1
      rw [← h2]
      have el : (ers cs').length = cs'.length := by rw [ers_map]; simp
      cases nk with
      | lst => cases e; exact .inl ⟨_, SqL.of sn.lst, by rw [isEmpty_len (m := (vals cs').map (·.2)) (by rw [el]; simp [vals])]⟩
      | tup => cases e; exact .inr (.inl ⟨_, SqT.of sn.tup, by rw [isEmpty_len (m := (vals cs').map (·.2)) (by rw [el]; simp [vals])]⟩)
      | dct => cases e; exact .inr (.inr ⟨_, sn.dct.2, by rw [isEmpty_len (m := (vals cs').map fun c => (c.1.key, c.2)) (by rw [el]; simp [vals])]⟩)
      | _ => cases e
section
variable {X : Cx} {W : WX}
theorem dt_tru {e : Expr} {f : M EV} (h : DE X W e f) (he : ∀ whole, isTrue e X.env whole = (do let v ← whole; standAt e.pos; holding [v] (truthy v)) := by intro _; rfl) : DT X W e (M.tru f) := by
  refine PT.imp (pt_truth h he) fun σ H Q q => ?_
  obtain ⟨G, F, R, rel, r, ρ', e, k⟩ := q
  unfold M.tru M.bind at e
  cases q1 : f F.er with
  | none => rw [q1] at e; cases e
  | some y1 =>
    obtain ⟨r1, ρ1⟩ := y1
    rw [q1] at e
    cases r1 with
    | error ex => cases e; exact ⟨G, F, R, rel, _, _, q1, k⟩
    | ok x =>
      simp only at e
      split at e
      · rename_i b hk
        cases e
        refine ⟨G, F, R, rel, _, _, q1, fun G1 H1 F1 n1 e1 av rel1 ok1 ex1 => ?_⟩
        subst ex1
        subst e1
        exact ⟨b, truOf_ok rel1 ok1 (fun a ha => by simp [ha]) hk, k G1 H1 F1 n1 rfl rel1.drop⟩
      · cases e
theorem dt_cmp {a b : Expr} {fa fb : M EV} {op : CmpOp} {r : R2} {pos : Pos} {g : List EV → M EV} (ho : OpR X (compareOp op) r) (hs : OpS X.K W (lift2 r) g) (ha : DE X W a fa) (hb : DE X W b fb) (hm : behindInMarks op b = false) : DT X W (.Compare a [op] [b] pos) (M.asBool (mop [fa, fb] g)) :=
  PT.imp (pt_cmpR ho ha hb hm) fun σ H Q h => mop_run hs (asBool_run h)
def DW (X : Cx) (W : WX) (e : Expr) (f : M Bool) : Prop := PW X e (tDT X.K W f)
theorem DW.dt {e : Expr} {f : M Bool} (h : DW X W e f) : DT X W e f := PW.pt h
def M.andB (f g : M Bool) : M Bool := M.bind f fun b => if b = true then g else M.ret false
def M.orB (f g : M Bool) : M Bool := M.bind f fun b => if b = true then M.ret true else g
def M.notB (f : M Bool) : M Bool := M.bind f fun b => M.ret (!b)
/-- a test, then what hangs on it -/
theorem bindB_run {K : PySem.W.Frag} {α : Type} {f : M Bool} {g : Bool → M α} {C : Hp → AF → List A → α → Hp → Hp → AF → Prop} {σ : L2.St} {H : Hp}
    (h : ∃ G F R, Rel K G H σ F R ∧ Res K W σ (M.bind f g) G F R fun x G' H' F' => C G F R x G' H' F')
    (hC : ∀ G F R G1 F1, Nx G G1 F F1 → ∀ x G' H' F', C G F R x G' H' F' → C G1 F1 R x G' H' F') :
    tDT K W f σ H fun b H1 => ∃ G F R, Rel K G H1 σ F R ∧ Res K W σ (g b) G F R fun x G' H' F' => C G F R x G' H' F' := by
  obtain ⟨G, F, R, rel, r, ρ', e, k⟩ := h
  unfold M.bind at e
  cases q1 : f F.er with
  | none => rw [q1] at e; cases e
  | some y1 =>
    obtain ⟨r1, ρ1⟩ := y1
    rw [q1] at e
    cases r1 with
    | error ex =>
      cases e
      exact ⟨G, F, R, rel, _, _, q1, k⟩
    | ok b =>
      refine ⟨G, F, R, rel, _, _, q1, fun G1 H1 F1 n1 e1 rel1 => ?_⟩
      subst e1
      refine ⟨G1, F1, R, rel1, r, ρ', e, fun G2 H2 F2 n2 e2 => ?_⟩
      have := k G2 H2 F2 (n1.trans n2) e2
      cases r with
      | error ex => exact this
      | ok x => exact hC _ _ _ _ _ n1 _ _ _ _ this
theorem tDT_ret {K : PySem.W.Frag} {b : Bool} {σ : L2.St} {H : Hp} {Q : Bool → Hp → Prop} (h : tDT K W (M.ret b) σ H Q) : Q b H := by
  obtain ⟨G, F, R, rel, r, ρ', e, k⟩ := h
  cases e
  exact k G H F (Nx.refl _ _) rfl rel
theorem tDT_bind {K : PySem.W.Frag} {f : M Bool} {g : Bool → M Bool} {σ : L2.St} {H : Hp} {Q : Bool → Hp → Prop} (h : tDT K W (M.bind f g) σ H Q) : tDT K W f σ H fun b H1 => tDT K W (g b) σ H1 Q := by
  obtain ⟨G, F, R, h⟩ := h
  exact bindB_run (C := fun _ _ R b G' H' F' => Rel K G' H' σ F' R → Q b H') ⟨G, F, R, h⟩ fun _ _ _ _ _ _ _ _ _ _ z => z
theorem tD_bindB {K : PySem.W.Frag} {f : M Bool} {g : Bool → M EV} {σ : L2.St} {H : Hp} {Q : VK} (h : tD K W (M.bind f g) σ H Q) : tDT K W f σ H fun b H1 => tD K W (g b) σ H1 Q := by
  obtain ⟨G, F, R, h⟩ := h
  exact bindB_run (C := fun _ _ R b G' H' F' => Want K σ R Q b G' H' F') ⟨G, F, R, h⟩ fun _ _ _ _ _ _ _ _ _ _ z => z
theorem tDT_mono {K : PySem.W.Frag} {f : M Bool} {σ : L2.St} {H : Hp} {Q Q' : Bool → Hp → Prop} (k : ∀ v H, Q v H → Q' v H) (h : tDT K W f σ H Q) : tDT K W f σ H Q' := by
  obtain ⟨G, F, R, rel, r, ρ', e, h⟩ := h
  refine ⟨G, F, R, rel, r, ρ', e, fun G' H' F' n e' => ?_⟩
  have := h G' H' F' n e'
  cases r with
  | ok x => exact fun r1 => k _ _ (this r1)
  | error x => exact this
variable {a b : Expr} {rest : List Expr} {fa fb : M Bool} {pos : Pos}
theorem dw_and1 (ha : DT X W a fa) : DW X W (.BoolOp .And [a] pos) fa := pw_and1 ha
theorem dw_or1 (ha : DT X W a fa) : DW X W (.BoolOp .Or [a] pos) fa := pw_or1 ha
theorem PW.imp {e : Expr} {t t' : TT} (h : PW X e t) (k : ∀ σ H Q, t' σ H Q → t σ H Q) : PW X e t' := ⟨fun wh pins s σ H Q I q => h.run wh pins s σ H Q I (k _ _ _ q)⟩
theorem dw_and (ha : DT X W a fa) (hb : DW X W (.BoolOp .And (b :: rest) pos) fb) : DW X W (.BoolOp .And (a :: b :: rest) pos) (M.andB fa fb) :=
  PW.imp (pw_and ha hb) fun σ H Q h => tDT_mono (fun c H1 q => by
    cases c with
    | true => exact q
    | false => exact tDT_ret q) (tDT_bind h)
theorem dw_or (ha : DT X W a fa) (hb : DW X W (.BoolOp .Or (b :: rest) pos) fb) : DW X W (.BoolOp .Or (a :: b :: rest) pos) (M.orB fa fb) :=
  PW.imp (pw_or ha hb) fun σ H Q h => tDT_mono (fun c H1 q => by
    cases c with
    | true => exact tDT_ret q
    | false => exact q) (tDT_bind h)
theorem dt_not (ha : DT X W a fa) : DT X W (.UnaryOp .Not a pos) (M.notB fa) :=
  PT.imp (pt_not ha) fun σ H Q h => tDT_mono (fun c H1 q => tDT_ret q) (tDT_bind h)
/-- a test as a value: e is a comparison or the like whose value is its test's -/
def M.ofB (f : M Bool) : M EV := M.bind f fun b => M.ret (.d (.bool b))
def M.andV (f g : M EV) : M EV := M.bind (M.asBool f) fun b => if b = true then g else M.ret (.d (.bool false))
def M.orV (f g : M EV) : M EV := M.bind (M.asBool f) fun b => if b = true then M.ret (.d (.bool true)) else g
def M.notV (f : M EV) : M EV := M.bind (M.asBool f) fun b => M.ret (.d (.bool (!b)))
variable {va vb : M EV}
theorem de_one {op : BoolOp} (h : DE X W a va) : DE X W (.BoolOp op [a] pos) va := pe_one h
theorem de_and (ha : DE X W a va) (hb : DE X W (.BoolOp .And (b :: rest) pos) vb) : DE X W (.BoolOp .And (a :: b :: rest) pos) (M.andV va vb) :=
  PE.imp (pe_and ha hb) fun σ H Q h => tD_mono (fun v H1 ⟨c, e, q⟩ => ⟨c, e, by
    cases c with
    | true => exact q
    | false => exact cst_ok rfl q⟩) (asBool_run (tD_bindB h))
theorem de_or (ha : DE X W a va) (hb : DE X W (.BoolOp .Or (b :: rest) pos) vb) : DE X W (.BoolOp .Or (a :: b :: rest) pos) (M.orV va vb) :=
  PE.imp (pe_or ha hb) fun σ H Q h => tD_mono (fun v H1 ⟨c, e, q⟩ => ⟨c, e, by
    cases c with
    | true => exact cst_ok rfl q
    | false => exact q⟩) (asBool_run (tD_bindB h))
theorem de_not (ha : DE X W a va) : DE X W (.UnaryOp .Not a pos) (M.notV va) :=
  PE.imp (pe_not ha) fun σ H Q h => tD_mono (fun v H1 ⟨c, e, q⟩ => ⟨c, e, cst_ok rfl q⟩) (asBool_run (tD_bindB h))
def M.ite {α : Type} (c : M Bool) (f g : M α) : M α := M.bind c fun b => if b = true then f else g
theorem de_ifExp {c : Expr} {fc : M Bool} (hc : DT X W c fc) (ha : DE X W a va) (hb : DE X W b vb) : DE X W (.IfExp c a b pos) (M.ite fc va vb) :=
  PE.imp (pe_ifExp hc ha hb) fun σ H Q h => tDT_mono (fun k H1 q => by
    cases k with
    | true => exact q
    | false => exact q) (tD_bindB h)
end
end LT

/-! LA12: displays, assignments, statements. -/
namespace LT
open PySem PySem.Spec L2

/-! ### displays -/
def keysOf : List EV → Option (List D)
  | [] => some []
  | x :: xs => match x.key with
    | none => none
    | some d => match keysOf xs with
      | none => none
      | some ds => some (d :: ds)
def treesOf : List EV → Option (List T)
  | [] => some []
  | .val t :: xs => match treesOf xs with
    | none => none
    | some ts => some (t :: ts)
  | _ => none
section
variable {K : PySem.W.Frag} {G H : Hp} {σ : L2.St} {F : AF} {R S : List A}
theorem Rel.keys {K : PySem.W.Frag} {S : List A} (r : Rel K G H σ F S) : ∀ {as : List AV} {ds : List D}, (∀ x ∈ as, ∀ a ∈ x.trees, a ∈ S) → keysOf (as.map AV.er) = some ds → RepDs K G ds (as.map AV.v)
  | [], ds, _, e => by cases e; exact .nil
  | x :: as, ds, hm, e => by
    simp only [List.map_cons, keysOf] at e
    cases q : x.er.key with
    | none => rw [q] at e; cases e
    | some d =>
      rw [q] at e
      cases q2 : keysOf (as.map AV.er) with
      | none => rw [q2] at e; cases e
      | some ds' =>
        rw [q2] at e
        cases e
        obtain ⟨v, rfl⟩ := key_av q
        exact .cons ((r.ok.seen (a := .leaf (some d, v)) (by simp [hm _ List.mem_cons_self _ (show TR.leaf (some d, v) ∈ AV.trees (.val (.leaf (some d, v))) by simp [AV.trees])])).leaves (some d, v) (by simp [leaves]) d rfl)
          (r.keys (fun y hy => hm y (by simp [hy])) q2)
theorem of_trees : ∀ {as : List AV} {ts : List T}, treesOf (as.map AV.er) = some ts → (avs as).map er = ts ∧ (avs as).map TR.val = as.map AV.v
  | [], ts, e => by cases e; exact ⟨rfl, rfl⟩
  | x :: as, ts, e => by
    cases x with
    | ptr j p v => simp [treesOf, AV.er] at e
    | val a =>
      simp only [List.map_cons, AV.er, treesOf] at e
      cases q2 : treesOf (as.map AV.er) with
      | none => rw [q2] at e; cases e
      | some ts' =>
        rw [q2] at e
        cases e
        obtain ⟨h1, h2⟩ := of_trees q2
        exact ⟨by simp [AV.trees, h1], by simp [AV.trees, h2, AV.v]⟩
end
def gTupD (as : List EV) : M EV := mkT (fun as _ => match keysOf as with
  | some ds => if ds.length ≤ sizeLine then some ds else none
  | none => none) as
theorem ops_tupD {K : PySem.W.Frag} {W : WX} : OpS K W rTup gTupD := by
  refine ops_newT fun G H σ F R as Q xs rel ok e => ?_
  cases q : keysOf (as.map AV.er) with
  | none => simp only [q] at e; cases e
  | some ds =>
    simp only [q] at e
    split at e
    · rename_i hl
      cases e
      have r := rel.keys (fun x hx a ha => by simp [mem_avs hx ha]) q
      exact ⟨_, r, fun hq _ => ⟨by rw [← r.length]; exact hl, hq⟩⟩
    · cases e
def mkNode (k : NK) (as : List EV) : M EV := fun ρ => match treesOf as with
  | none => none
  | some ts => if ts.length ≤ sizeLine then some (.ok (.val (.node () k (ts.map fun t => (.none, t)))), ρ) else none
theorem ops_node {K : PySem.W.Frag} {W : WX} {k : NK} {o : List V → HO} (ho : ∀ p cs, nodeObjs k (p, 0) cs = [(p, some (o (cs.map (·.2))))]) :
    OpS K W (fun xs H1 Q => xs.length ≤ sizeLine ∧ ∀ p, H1 p = none → Q (.ref p) (upd H1 p (o xs))) (mkNode k) := by
  intro G H σ F R as Q rel ok res
  obtain ⟨rr, ρ', e, kk⟩ := res
  unfold mkNode at e
  cases q : treesOf (as.map AV.er) with
  | none => rw [q] at e; cases e
  | some ts =>
    rw [q] at e
    simp only at e
    split at e
    · rename_i hl
      cases e
      obtain ⟨h1, h2⟩ := of_trees q
      have hlen : (as.map AV.v).length ≤ sizeLine := by
        rw [← h2, List.length_map]
        have := congrArg List.length h1
        rw [List.length_map] at this
        omega
      refine ⟨hlen, fun p hp => ?_⟩
      have e1 : ((avs as).map fun b => ((.none : D), b)).map (·.2) = avs as := by simp [Function.comp_def]
      have e2 : (vals ((avs as).map fun b => ((.none : D), b))).map (·.2) = as.map AV.v := by simp [vals, Function.comp_def]; rw [← h2]
      have rel2 := Rel.newNode (k := k) (cs := (avs as).map fun b => (.none, b)) (o := o (as.map AV.v)) (by rw [e1]; exact rel) hp (by rw [ho, e2])
      refine kk G _ F (Nx.refl _ _) rfl (.val (.node (p, 0) k ((avs as).map fun b => (.none, b)))) (by simpa [AV.trees] using rel2) trivial ?_
      show EV.val (er _) = _
      unfold er
      rw [ers_map, ← h1]
      simp [Function.comp_def]
    · cases e
theorem ops_lstO {K : PySem.W.Frag} {W : WX} : OpS K W rLst (mkNode .lst) := ops_node (o := .lst) fun p cs => rfl
theorem ops_tupO {K : PySem.W.Frag} {W : WX} : OpS K W rTup (mkNode .tup) := ops_node (o := .tup) fun p cs => rfl
section
variable {X : Cx} {W : WX} {es : List Expr} {fs : List (M EV)} {pos : Pos}
theorem de_tupD {k} (ha : DAs X W es fs) : DE X W (.Tuple es k pos) (mop fs gTupD) := de_tup ops_tupD ha
theorem de_tupO {k} (ha : DAs X W es fs) : DE X W (.Tuple es k pos) (mop fs (mkNode .tup)) := de_tup ops_tupO ha
theorem de_lstO (ha : DAs X W es fs) : DE X W (.List es pos) (mop fs (mkNode .lst)) := de_lst ops_lstO ha
def M.dict0 : M EV := M.ret (.val (.node () .dct []))
theorem de_dict0 : DE X W (.Dict [] [] pos) M.dict0 := PE.imp pe_dnewK fun σ H Q q => by
  obtain ⟨G, F, R, rel, r, ρ', e, k⟩ := q
  cases e
  intro p hp
  have rel2 := Rel.newNode (k := .dct) (cs := []) (o := .dK []) (by simpa using rel) hp rfl
  exact k G _ F (Nx.refl _ _) rfl (.val (.node (p, 0) .dct [])) (by simpa [AV.trees] using rel2) trivial (by simp [AV.er, er, ers])
end

/-! ### results of statements -/
inductive SO where
  | nx | ret (t : T) | brk | ct
def tDS (K : PySem.W.Frag) (W : WX) (f : M SO) : L2.TS := fun D σ H => ∃ G F R, Rel K G H σ F R ∧ ∃ r ρ', f F.er = some (r, ρ') ∧ ∀ G' H' F' σ', Nx G G' F F' → F'.er = ρ' → match r with
  | .ok .nx => Rel K G' H' σ' F' R → D.nx σ' H'
  | .ok .brk => Rel K G' H' σ' F' R → D.bk σ' H'
  | .ok .ct => Rel K G' H' σ' F' R → D.ct σ' H'
  | .ok (.ret t) => ∀ a : A, Rel K G' H' σ' F' (a :: R) → er a = t → D.rt a.val H'
  | .error e => RaiseOk K W σ' R e G' H' F'
def DS (X : Cx) (W : WX) (st : Stmt) (f : M SO) : Prop := PS X st (tDS X.K W f)
def DSs (X : Cx) (W : WX) (sts : List Stmt) (f : M SO) : Prop := PSs X sts (tDS X.K W f)
def M.seq (f g : M SO) : M SO := M.bind f fun o => match o with
  | .nx => g
  | o => M.ret o
section
variable {X : Cx} {W : WX}
theorem tDS_seq {K : PySem.W.Frag} {f g : M SO} {D : Ends} {σ : L2.St} {H : Hp} (h : tDS K W (M.seq f g) D σ H) : tDS K W f { D with nx := tDS K W g D } σ H := by
  obtain ⟨G, F, R, rel, r, ρ', e, k⟩ := h
  unfold M.seq M.bind at e
  cases q1 : f F.er with
  | none => rw [q1] at e; cases e
  | some y1 =>
    obtain ⟨r1, ρ1⟩ := y1
    rw [q1] at e
    refine ⟨G, F, R, rel, r1, ρ1, q1, fun G1 H1 F1 σ1 n1 e1 => ?_⟩
    subst e1
    cases r1 with
    | error ex => cases e; exact k G1 H1 F1 σ1 n1 rfl
    | ok o =>
      cases o with
      | nx => exact fun rel1 => ⟨G1, F1, R, rel1, r, ρ', e, fun G2 H2 F2 σ2 n2 e2 => k G2 H2 F2 σ2 (n1.trans n2) e2⟩
      | ret t => cases e; exact k G1 H1 F1 σ1 n1 rfl
      | brk => cases e; exact k G1 H1 F1 σ1 n1 rfl
      | ct => cases e; exact k G1 H1 F1 σ1 n1 rfl
theorem tDS_nx {K : PySem.W.Frag} {D : Ends} {σ : L2.St} {H : Hp} (h : tDS K W (M.ret .nx) D σ H) : D.nx σ H := by
  obtain ⟨G, F, R, rel, r, ρ', e, k⟩ := h
  cases e
  exact k G H F σ (Nx.refl _ _) rfl rel
theorem dss_nil : DSs X W [] (M.ret .nx) := PSs.imp pss_nil fun D σ H h => tDS_nx h
theorem dss_cons {st : Stmt} {rest : List Stmt} {f g : M SO} (h1 : DS X W st f) (h2 : DSs X W rest g) : DSs X W (st :: rest) (M.seq f g) := PSs.imp (pss_cons h1 h2) fun D σ H h => tDS_seq h
theorem dss_one {st : Stmt} {f : M SO} (h1 : DS X W st f) : DSs X W [st] f := pss_one h1
theorem ds_pass {pos : Pos} : DS X W (.Pass pos) (M.ret .nx) := PS.imp ps_pass fun D σ H h => tDS_nx h
theorem ds_break {pos : Pos} : DS X W (.Break pos) (M.ret .brk) := PS.imp ps_break fun D σ H h => by
  obtain ⟨G, F, R, rel, r, ρ', e, k⟩ := h
  cases e
  exact k G H F σ (Nx.refl _ _) rfl rel
theorem ds_continue {pos : Pos} : DS X W (.Continue pos) (M.ret .ct) := PS.imp ps_continue fun D σ H h => by
  obtain ⟨G, F, R, rel, r, ρ', e, k⟩ := h
  cases e
  exact k G H F σ (Nx.refl _ _) rfl rel
/-- an expression, then what is done with its value in the frame -/
def M.fin (f : M EV) (g : EV → Fr → Option (SO × Fr)) : M SO := M.bind f fun x ρ => match g x ρ with
  | none => none
  | some (o, ρ') => some (.ok o, ρ')
theorem fin_run {K : PySem.W.Frag} {f : M EV} {g : EV → Fr → Option (SO × Fr)} {D : Ends} {σ : L2.St} {H : Hp} {Q : VK} (h : tDS K W (M.fin f g) D σ H)
    (hq : ∀ (G H : Hp) (F : AF) (R : List A) (av : AV) (o : SO) (ρ' : Fr), Rel K G H σ F (av.trees ++ R) → av.Ok F.sl → g av.er F.er = some (o, ρ') → (∀ G' H' F' σ', Nx G G' F F' → F'.er = ρ' → match o with
      | .nx => Rel K G' H' σ' F' R → D.nx σ' H'
      | .brk => Rel K G' H' σ' F' R → D.bk σ' H'
      | .ct => Rel K G' H' σ' F' R → D.ct σ' H'
      | .ret t => ∀ a : A, Rel K G' H' σ' F' (a :: R) → er a = t → D.rt a.val H') → Q av.v H) : tD K W f σ H Q := by
  obtain ⟨G, F, R, rel, r, ρ', e, k⟩ := h
  unfold M.fin M.bind at e
  cases q1 : f F.er with
  | none => rw [q1] at e; cases e
  | some y1 =>
    obtain ⟨r1, ρ1⟩ := y1
    rw [q1] at e
    cases r1 with
    | error ex => cases e; exact ⟨G, F, R, rel, _, _, q1, fun G1 H1 F1 n1 e1 => k G1 H1 F1 σ n1 e1⟩
    | ok x =>
      refine ⟨G, F, R, rel, _, _, q1, fun G1 H1 F1 n1 e1 av rel1 ok1 ex1 => ?_⟩
      subst ex1
      subst e1
      simp only at e
      cases q2 : g av.er F1.er with
      | none => rw [q2] at e; cases e
      | some y2 =>
        obtain ⟨o, ρ2⟩ := y2
        rw [q2] at e
        cases e
        refine hq G1 H1 F1 R av o _ rel1 ok1 q2 fun G2 H2 F2 σ2 n2 e2 => ?_
        have := k G2 H2 F2 σ2 (n1.trans n2) e2
        cases o <;> exact this
/-- the value is dropped -/
def gDrop (_ : EV) (ρ : Fr) : Option (SO × Fr) := some (.nx, ρ)
theorem ds_expr {e : Expr} {f : M EV} {pos : Pos} (he : DE X W e f) (hs : swapsWith e none pos.line X.env = pure false := by rfl) : DS X W (.Expr e pos) (M.fin f gDrop) :=
  PS.imp (ps_expr he hs) fun D σ H h => fin_run h fun G H F R av o ρ' rel ok e k => by
    cases e
    exact k G H F σ (Nx.refl _ _) rfl rel.drop
def gRet (x : EV) (ρ : Fr) : Option (SO × Fr) := match x with
  | .val t => some (.ret t, ρ)
  | _ => none
theorem ds_ret {e : Expr} {f : M EV} {pos : Pos} (he : DE X W e f) : DS X W (.Return (some e) pos) (M.fin f gRet) :=
  PS.imp (ps_ret he) fun D σ H h => fin_run h fun G H F R av o ρ' rel ok e k => by
    cases av with
    | ptr j p v => cases e
    | val a =>
      cases e
      exact k G H F σ (Nx.refl _ _) rfl a (by simpa [AV.trees] using rel) rfl
theorem ds_retN {pos : Pos} : DS X W (.Return none pos) (M.ret (.ret (.leaf (some .none)))) := PS.imp ps_retN fun D σ H h => by
  obtain ⟨G, F, R, rel, r, ρ', e, k⟩ := h
  cases e
  exact k G H F σ (Nx.refl _ _) rfl (.leaf (some .none, .non)) (rel.leafNew .non) rfl
theorem ds_if {c : Expr} {a b : List Stmt} {fc : M Bool} {fa fb : M SO} {pos : Pos} (hc : DT X W c fc) (ha : DSs X W a fa) (hb : DSs X W b fb) : DS X W (.If c a b pos) (M.ite fc fa fb) :=
  PS.imp (ps_if hc ha hb) fun D σ H h => by
    obtain ⟨G, F, R, rel, r, ρ', e, k⟩ := h
    unfold M.ite M.bind at e
    cases q1 : fc F.er with
    | none => rw [q1] at e; cases e
    | some y1 =>
      obtain ⟨r1, ρ1⟩ := y1
      rw [q1] at e
      cases r1 with
      | error ex => cases e; exact ⟨G, F, R, rel, _, _, q1, fun G1 H1 F1 n1 e1 => k G1 H1 F1 σ n1 e1⟩
      | ok b =>
        refine ⟨G, F, R, rel, _, _, q1, fun G1 H1 F1 n1 e1 rel1 => ?_⟩
        subst e1
        have done : ∀ {g : M SO}, g F1.er = some (r, ρ') → tDS X.K W g D σ H1 := fun {g} e => ⟨G1, F1, R, rel1, r, ρ', e, fun G2 H2 F2 σ2 n2 e2 => k G2 H2 F2 σ2 (n1.trans n2) e2⟩
        cases b with
        | true => exact done e
        | false => exact done e
end

/-! ### x = e -/
def SV.kill0 (i : Nat) : SV → SV
  | .al j p => if j = i then .emp else .al j p
  | s => s
def AS.kill0 (i : Nat) : AS → AS
  | .al j p v => if j = i then .emp else .al j p v
  | s => s
def tmKill0 (i : Nat) : Option (Nat × List D) → Option (Nat × List D)
  | some (j, p) => if j = i then none else some (j, p)
  | none => none
def atKill0 (i : Nat) : Option (Nat × List D × V) → Option (Nat × List D × V)
  | some (j, p, v) => if j = i then none else some (j, p, v)
  | none => none
def EV.sv (x : EV) : SV := match x with
  | .val t => .own t
  | .ptr j p => .al j p
def AV.as (x : AV) : AS := match x with
  | .val a => .own a
  | .ptr j p v => .al j p v
def Fr.store (ρ : Fr) (i : Nat) (x : EV) : Option Fr :=
  if ρ.io.contains i = true then none else
  match x with
  | .ptr j _ => if j = i then none else some { ρ with sl := (ρ.sl.map (SV.kill0 i)).set i x.sv, tm := ρ.tm.map (tmKill0 i) }
  | .val _ => some { ρ with sl := (ρ.sl.map (SV.kill0 i)).set i x.sv, tm := ρ.tm.map (tmKill0 i) }
theorem AS.kill0_er (i : Nat) (s : AS) : (s.kill0 i).er = s.er.kill0 i := by
  cases s with
  | al j' p' v =>
    by_cases h : j' = i
    · simp only [AS.kill0, AS.er, SV.kill0, if_pos h]
    · simp only [AS.kill0, AS.er, SV.kill0, if_neg h]
  | _ => rfl
theorem owns_set {sl : List AS} {i : Nat} {s0 : AS} (h : sl[i]? = some s0) : ∃ P Q, owns sl = P ++ (s0.trees ++ Q) ∧ ∀ s : AS, owns (sl.set i s) = P ++ (s.trees ++ Q) := by
  have hl : i < sl.length := (List.getElem?_eq_some_iff.mp h).1
  have hb : sl[i] = s0 := (List.getElem?_eq_some_iff.mp h).2
  refine ⟨owns (sl.take i), owns (sl.drop (i + 1)), ?_, fun s => ?_⟩
  · have sp : sl = sl.take i ++ s0 :: sl.drop (i + 1) := by rw [← hb]; simp
    conv => lhs; rw [sp]
    simp [owns]
  · rw [List.set_eq_take_append_cons_drop, if_pos hl]
    simp [owns]
theorem owns_kill0 (i : Nat) (sl : List AS) : owns (sl.map (AS.kill0 i)) = owns sl := by
  induction sl with
  | nil => rfl
  | cons s sl ih =>
    have e : owns (s.kill0 i :: sl.map (AS.kill0 i)) = (s.kill0 i).trees ++ owns (sl.map (AS.kill0 i)) := by simp [owns]
    have e2 : owns (s :: sl) = s.trees ++ owns sl := by simp [owns]
    rw [List.map_cons, e, ih, e2]
    congr 1
    cases s with
    | al j' p' v => simp only [AS.kill0]; split <;> rfl
    | _ => rfl
def AF.store (F : AF) (i : Nat) (x : AV) : AF := { F with sl := (F.sl.map (AS.kill0 i)).set i x.as, tm := F.tm.map (atKill0 i) }
theorem store_ok {K : PySem.W.Frag} {G H : Hp} {σ : L2.St} {F : AF} {R : List A} {av : AV} {i : Nat} {ρ' : Fr} (rel : Rel K G H σ F (av.trees ++ R)) (ok : av.Ok F.sl) (e : F.er.store i av.er = some ρ') (hi : i < σ.length) :
    (F.store i av).er = ρ' ∧ Rel K G H (σ.set i (some av.v)) (F.store i av) R ∧ Nx G G F (F.store i av) := by
  unfold Fr.store at e
  split at e
  · cases e
  rename_i hio
  have hil : i < F.sl.length := by rw [rel.len]; exact hi
  have hnj : ∀ j p v, av = .ptr j p v → j ≠ i := fun j p v h => by
    subst h
    simp only [AV.er] at e
    split at e
    · cases e
    · assumption
  have hE : (F.store i av).er = ρ' := by
    have hsv : av.as.er = av.er.sv := by cases av <;> rfl
    have hall : (F.store i av).er = { F.er with sl := (F.er.sl.map (SV.kill0 i)).set i av.er.sv, tm := F.er.tm.map (tmKill0 i) } := by
      unfold AF.store AF.er
      simp only [List.map_set, List.map_map, hsv]
      congr 1
      · congr 1
        apply List.map_congr_left
        intro s _
        exact AS.kill0_er i s
      · apply List.map_congr_left
        intro s _
        cases s with
        | none => rfl
        | some x =>
          obtain ⟨j', p', v⟩ := x
          by_cases h : j' = i
          · simp only [Function.comp, Option.map, tmKill0, atKill0, if_pos h]
          · simp only [Function.comp, Option.map, tmKill0, atKill0, if_neg h]
    rw [hall]
    cases av with
    | val a => exact Option.some.inj e
    | ptr j p v =>
      simp only [AV.er] at e
      rw [if_neg (hnj j p v rfl)] at e
      exact Option.some.inj e
  obtain ⟨s0, hs0⟩ : ∃ s0, F.sl[i]? = some s0 := ⟨_, List.getElem?_eq_getElem hil⟩
  obtain ⟨P, Q, o1, o2⟩ := owns_set hs0
  have eo : owns ((F.sl.map (AS.kill0 i)).set i av.as) = P ++ (av.as.trees ++ Q) := by
    have h1 : (F.sl.map (AS.kill0 i)).set i av.as = (F.sl.set i av.as).map (AS.kill0 i) := by
      rw [List.map_set]
      congr 1
      cases av with
      | val a => rfl
      | ptr j p v => simp only [AV.as, AS.kill0, if_neg (hnj j p v rfl)]
    rw [h1, owns_kill0, o2]
  have tr : av.as.trees = av.trees := by cases av <;> rfl
  have hsl : ∀ k, (F.store i av).sl[k]? = if k = i then some av.as else (F.sl[k]?).map (AS.kill0 i) := fun k => by
    unfold AF.store
    by_cases hk : k = i
    · subst hk; rw [if_pos rfl]; show ((F.sl.map (AS.kill0 k)).set k _)[k]? = _; rw [List.getElem?_set_self (by simpa using hil)]
    · rw [if_neg hk]; show ((F.sl.map (AS.kill0 i)).set i _)[k]? = _; rw [List.getElem?_set_ne (Ne.symm hk), List.getElem?_map]
  have hva : ∀ j q v, j ≠ i → ValAt F.sl j q v → ValAt (F.store i av).sl j q v := fun j q v hj ⟨b, x, x1, x2, x3⟩ => ⟨b, x, by rw [hsl, if_neg hj, x1]; rfl, x2, x3⟩
  refine ⟨hE, ⟨?_, ?_, fun k a hk => ?_, fun k j q v hk => ?_, fun j q v hm => ?_, fun x hx => ?_⟩, ⟨fun _ _ h => h, rfl, by simp [AF.store], fun k x hx => ?_⟩⟩
  · show OkT K G H (owns ((F.sl.map (AS.kill0 i)).set i av.as) ++ R)
    rw [eo, tr]
    have h := rel.ok
    rw [o1] at h
    refine h.less (fun n q => ?_) (fun b => ?_) (fun n q => ?_)
    · simp only [allN_append, List.mem_append] at q ⊢
      rcases q with (q | q | q) | q <;> simp [q]
    · simp only [allN_append, cnt_append]; omega
    · simp only [allL_append, List.mem_append] at q ⊢
      rcases q with (q | q | q) | q <;> simp [q]
  · show ((F.sl.map (AS.kill0 i)).set i _).length = _
    simp [rel.len]
  · rw [hsl] at hk
    by_cases h : k = i
    · subst h
      rw [if_pos rfl] at hk
      cases av with
      | ptr j p v => cases hk
      | val b => cases hk; rw [List.getElem?_set_self hi]; rfl
    · rw [if_neg h] at hk
      rw [List.getElem?_set_ne (Ne.symm h)]
      cases q : F.sl[k]? with
      | none => rw [q] at hk; cases hk
      | some s =>
        rw [q] at hk
        cases s with
        | own b => cases hk; exact rel.own _ _ q
        | emp => cases hk
        | al j p v => simp only [Option.map_some, AS.kill0] at hk; split at hk <;> cases hk
  · rw [hsl] at hk
    by_cases h : k = i
    · subst h
      rw [if_pos rfl] at hk
      cases av with
      | val b => cases hk
      | ptr j' p' v' =>
        cases hk
        exact ⟨by rw [List.getElem?_set_self hi]; rfl, hva _ _ _ (hnj _ _ _ rfl) ok⟩
    · rw [if_neg h] at hk
      rw [List.getElem?_set_ne (Ne.symm h)]
      cases q' : F.sl[k]? with
      | none => rw [q'] at hk; cases hk
      | some s =>
        rw [q'] at hk
        cases s with
        | own b => cases hk
        | emp => cases hk
        | al j' p' v' =>
          simp only [Option.map_some, AS.kill0] at hk
          split at hk
          · cases hk
          · rename_i hj
            cases hk
            obtain ⟨a1, a2⟩ := rel.al _ _ _ _ q'
            exact ⟨a1, hva _ _ _ hj a2⟩
  · have hm : some (j, q, v) ∈ F.tm.map (atKill0 i) := hm
    obtain ⟨y, hy, ey⟩ := List.mem_map.mp hm
    cases y with
    | none => cases ey
    | some z =>
      obtain ⟨j', p', v'⟩ := z
      simp only [atKill0] at ey
      split at ey
      · cases ey
      · rename_i hj
        cases ey
        exact hva _ _ _ hj (rel.tm _ _ _ hy)
  · obtain ⟨b, h1, h2⟩ := rel.io x hx
    have hne : x.1 ≠ i := fun h => by
      apply hio
      show (F.io.map (·.1)).contains i = true
      rw [List.contains_iff_mem]
      exact List.mem_map.mpr ⟨x, hx, h⟩
    exact ⟨b, by rw [hsl, if_neg hne, h1]; rfl, h2⟩
  · have hx : (F.tm.map (atKill0 i))[k]? = some (some x) := hx
    rw [List.getElem?_map] at hx
    cases q : F.tm[k]? with
    | none => rw [q] at hx; cases hx
    | some y =>
      rw [q] at hx
      cases y with
      | none => cases hx
      | some z =>
        obtain ⟨j', p', v'⟩ := z
        simp only [Option.map_some, atKill0] at hx
        split at hx
        · cases hx
        · cases hx; rfl
def gSet1 (i : Nat) (x : EV) (ρ : Fr) : Option (SO × Fr) := match ρ.store i x with
  | none => none
  | some ρ' => if i < ρ.sl.length then some (.nx, ρ') else none
section
variable {X : Cx} {W : WX} {e : Expr} {f : M EV} {pos pos' : Pos}
theorem set1_run {K : PySem.W.Frag} {i : Nat} {D : Ends} {σ : L2.St} {H : Hp} (h : tDS K W (M.fin f (gSet1 i)) D σ H) : tAsg (tD K W f) (gName i) D σ H :=
  fin_run h fun G H F R av o ρ' rel ok e k => by
    unfold gSet1 at e
    cases q : F.er.store i av.er with
    | none => rw [q] at e; cases e
    | some ρ2 =>
      rw [q] at e
      simp only at e
      split at e
      · rename_i hl
        cases e
        have hl' : i < σ.length := by
          rw [← rel.len]
          simpa [AF.er] using hl
        obtain ⟨h1, h2, h3⟩ := store_ok rel ok q hl'
        exact k G H _ _ h3 h1 h2
      · cases e
theorem ds_set (i : Nat) {x : Str} (hN : X.N.Nodup) (he : DE X W e f) (hi : X.N[i]? = some x := by rfl) (hx : Loc X.env.scope x := by first | exact Or.inl rfl | exact Or.inr rfl) (hs : swapsWith e (some (.Name x pos')) pos.line X.env = pure false := by rfl)
    (hf : X.fn x = true ∨ X.env.scope.names.lookup x = some .local := by first | exact .inl rfl | exact .inr rfl | assumption) : DS X W (.Assign [.Name x pos'] e pos) (M.fin f (gSet1 i)) :=
  PS.imp (ps_set hN hi hx he hs hf) fun D σ H h => set1_run h
end
end LT

/-! LA13: stores into lists and dicts. -/
namespace LT
open PySem PySem.Spec L2

/-! ### a node of a slot's tree is changed -/
theorem cnt_cons {b : Addr} {x : Addr × Option HO} {l : List (Addr × Option HO)} : cnt b (x :: l) = cnt b l + if x.1 == b then 1 else 0 := by simp [cnt, List.countP_cons]
theorem allN_perm {ts us : List A} (h : ts.Perm us) : (∀ n, n ∈ allN ts ↔ n ∈ allN us) ∧ (∀ b, cnt b (allN ts) = cnt b (allN us)) ∧ ∀ l, l ∈ allL ts ↔ l ∈ allL us :=
  ⟨fun n => (h.flatMap_right LT.nodes).mem_iff, fun b => (h.flatMap_right LT.nodes).countP_eq _, fun l => (h.flatMap_right LT.leaves).mem_iff⟩
section
variable {K : PySem.W.Frag} {G H : Hp} {σ : L2.St} {F : AF} {R S U : List A}
theorem Rel.mut {k : NK} {n : Addr × Addr} {cs cs' : List (D × A)} {o o' : HO} {E : List (Addr × Option HO)} {j : Nat} {p : List D} {a : A} (r : Rel K G H σ F (S ++ R)) (hj : F.sl[j]? = some (.own a)) (hp : a.at p = some (.node n k cs))
    (ho : nodeObjs k n (vals cs) = (n.1, some o) :: E) (ho' : nodeObjs k n (vals cs') = (n.1, some o') :: E) (hperm : (cs'.map (·.2) ++ U).Perm (cs.map (·.2) ++ S)) :
    Rel K G (upd H n.1 o') σ (F.put j p a (.node n k cs')) (U ++ R) ∧ Nx G G F (F.put j p a (.node n k cs')) := by
  refine r.put hj hp rfl (fun P Q N1 N2 L1 L2 e1 e2 e3 => ?_) (fun _ _ h => h)
  have en : LT.nodes (.node n k cs) = (n.1, some o) :: (E ++ allN (cs.map (·.2))) := by
    show nodeObjs k n (vals cs) ++ nodesL cs = _
    rw [ho, nodesL_zip]; rfl
  have en' : LT.nodes (.node n k cs') = (n.1, some o') :: (E ++ allN (cs'.map (·.2))) := by
    show nodeObjs k n (vals cs') ++ nodesL cs' = _
    rw [ho', nodesL_zip]; rfl
  have el : LT.leaves (.node n k cs) = allL (cs.map (·.2)) := leavesL_zip
  have el' : LT.leaves (.node n k cs') = allL (cs'.map (·.2)) := leavesL_zip
  obtain ⟨pn, pc, pl⟩ := allN_perm hperm
  simp only [allN_append, allL_append, List.mem_append, cnt_append] at pn pc pl
  have h := r.ok
  rw [e1] at h
  have h1 : Held K G H ((n.1, some o) :: (E ++ (allN P ++ (N1 ++ allN (cs.map (·.2)) ++ N2) ++ allN Q ++ allN S ++ allN R))) (allL P ++ (L1 ++ allL (cs.map (·.2)) ++ L2) ++ allL Q ++ allL S ++ allL R) := by
    refine Held.less h (fun m q => ?_) (fun b => ?_) (fun m q => ?_)
    · show m ∈ allN ((P ++ a :: Q) ++ (S ++ R))
      simp only [allN_append, allN_cons, e2, en, List.mem_append, List.mem_cons] at q ⊢
      rcases q with q | q | ((((q | (q | q) | q) | q) | q) | q) <;> simp [q]
    · show _ ≤ cnt b (allN ((P ++ a :: Q) ++ (S ++ R)))
      simp only [allN_append, allN_cons, e2, en, cnt_append, cnt_cons]; omega
    · show m ∈ allL ((P ++ a :: Q) ++ (S ++ R))
      simp only [allL_append, allL_cons, e3, el, List.mem_append] at q ⊢
      rcases q with (((q | (q | q) | q) | q) | q) | q <;> simp [q]
  have h2 := h1.write (o' := o')
  refine Held.less h2 (fun m q => ?_) (fun b => ?_) (fun m q => ?_)
  · simp only [allN_append, en', List.mem_append, List.mem_cons] at q ⊢
    have := pn m
    rcases q with ((q | (q | (q | q | q)) | q) | q) | q | q
    · simp [q]
    · simp [q]
    · simp [q]
    · simp [q]
    · rcases this.mp (.inl q) with z | z <;> simp [z]
    · simp [q]
    · simp [q]
    · rcases this.mp (.inr q) with z | z <;> simp [z]
    · simp [q]
  · have := pc b
    simp only [allN_append, en', cnt_append, cnt_cons]; omega
  · simp only [allL_append, el', List.mem_append] at q ⊢
    have := pl m
    rcases q with ((q | (q | q) | q) | q) | q | q
    · simp [q]
    · simp [q]
    · rcases this.mp (.inl q) with z | z <;> simp [z]
    · simp [q]
    · simp [q]
    · rcases this.mp (.inr q) with z | z <;> simp [z]
    · simp [q]
end

/-! ### tables by keys -/
def putD {α : Type} : List (D × α) → D → α → List (D × α)
  | [], q, t => [(q, t)]
  | (k, c) :: r, q, t => if k.same q = true then (k, t) :: r else (k, c) :: putD r q t
def delD {α : Type} : List (D × α) → D → List (D × α)
  | [], _ => []
  | (k, c) :: r, q => if k.same q = true then r else (k, c) :: delD r q
def getD {α : Type} : List (D × α) → D → Option α
  | [], _ => none
  | (k, c) :: r, q => if k.same q = true then some c else getD r q
theorem putD_map {α β : Type} (f : α → β) (q : D) (t : α) : ∀ l : List (D × α), (putD l q t).map (fun c => (c.1, f c.2)) = putD (l.map fun c => (c.1, f c.2)) q (f t)
  | [] => rfl
  | (k, c) :: r => by
    by_cases h : k.same q = true
    · simp [putD, h]
    · simp [putD, h, putD_map f q t r]
theorem delD_map {α β : Type} (f : α → β) (q : D) : ∀ l : List (D × α), (delD l q).map (fun c => (c.1, f c.2)) = delD (l.map fun c => (c.1, f c.2)) q
  | [] => rfl
  | (k, c) :: r => by
    by_cases h : k.same q = true
    · simp [delD, h]
    · simp [delD, h, delD_map f q r]
theorem getD_map {α β : Type} (f : α → β) (q : D) : ∀ l : List (D × α), getD (l.map fun c => (c.1, f c.2)) q = (getD l q).map f
  | [] => rfl
  | (k, c) :: r => by
    by_cases h : k.same q = true
    · simp [getD, h]
    · simp [getD, h, getD_map f q r]
theorem putD_perm {α : Type} (q : D) (t : α) : ∀ l : List (D × α), ∃ U : List α, ((putD l q t).map (·.2) ++ U).Perm (l.map (·.2) ++ [t]) ∧ U = (getD l q).toList
  | [] => ⟨[], by simp [putD], rfl⟩
  | (k, c) :: r => by
    by_cases h : k.same q = true
    · refine ⟨[c], ?_, by simp [getD, h]⟩
      simp only [putD, h, if_true, List.map_cons, List.cons_append]
      refine (List.perm_append_comm (l₁ := t :: r.map (·.2)) (l₂ := [c])).trans ?_
      exact (List.perm_append_comm (l₁ := [t]) (l₂ := r.map (·.2))).cons c
    · obtain ⟨U, h1, h2⟩ := putD_perm q t r
      exact ⟨U, by simp only [putD, h, if_false, List.map_cons, List.cons_append]; exact h1.cons c, by simp [getD, h, h2]⟩
theorem delD_perm {α : Type} (q : D) : ∀ l : List (D × α), ((delD l q).map (·.2) ++ (getD l q).toList).Perm (l.map (·.2))
  | [] => by simp [delD, getD]
  | (k, c) :: r => by
    by_cases h : k.same q = true
    · simp only [delD, getD, h, if_true, List.map_cons, Option.toList]
      exact List.perm_append_comm
    · simp only [delD, getD, h, if_false, List.map_cons, List.cons_append]
      exact (delD_perm q r).cons c
theorem keysOk_cons {k : D} {l : List D} (h : keysOk (k :: l) = true) : k.isKey = true ∧ keysOk l = true ∧ k.key ∉ l.map (·.key) := by
  have h1 := keysOk_key h
  have h2 := keysOk_nd h
  rw [List.map_cons, List.nodup_cons] at h2
  exact ⟨h1 k (by simp), keysOk_mk (fun x hx => h1 x (by simp [hx])) h2.2, h2.1⟩
theorem putD_keys {α : Type} {q : D} (hq : q.isKey = true) (t : α) : ∀ {l : List (D × α)}, keysOk (l.map (·.1)) = true → keysOk ((putD l q t).map (·.1)) = true ∧ ∀ z, z ∈ ((putD l q t).map (·.1)).map (·.key) → z ∈ (l.map (·.1)).map (·.key) ∨ z = q.key
  | [], _ => ⟨keysOk_mk (by simp [putD, hq]) (by simp [putD]), by simp [putD]⟩
  | (k, c) :: r, h => by
    obtain ⟨h1, h2, h3⟩ := keysOk_cons h
    by_cases e : k.same q = true
    · simp only [putD, e, if_true]
      exact ⟨h, fun z hz => .inl hz⟩
    · obtain ⟨i1, i2⟩ := putD_keys hq t h2
      simp only [putD, if_neg e, List.map_cons]
      have ne : ¬ k.key = q.key := fun z => e (by rw [same_iff h1 hq, z]; simp)
      refine ⟨keysOk_mk (fun x hx => ?_) ?_, fun z hz => ?_⟩
      · rcases List.mem_cons.mp hx with rfl | hx
        · exact h1
        · exact keysOk_key i1 _ hx
      · rw [List.map_cons, List.nodup_cons]
        refine ⟨fun hm => ?_, keysOk_nd i1⟩
        rcases i2 _ hm with w | w
        · exact h3 w
        · exact ne w
      · rcases List.mem_cons.mp hz with rfl | hz
        · exact .inl (by simp)
        · rcases i2 _ hz with w | w
          · exact .inl (List.mem_cons_of_mem _ w)
          · exact .inr w
theorem delD_keys {α : Type} {q : D} : ∀ {l : List (D × α)}, keysOk (l.map (·.1)) = true → keysOk ((delD l q).map (·.1)) = true ∧ ∀ z, z ∈ ((delD l q).map (·.1)).map (·.key) → z ∈ (l.map (·.1)).map (·.key)
  | [], h => ⟨h, fun _ h => h⟩
  | (k, c) :: r, h => by
    obtain ⟨h1, h2, h3⟩ := keysOk_cons h
    by_cases e : k.same q = true
    · simp only [delD, e, if_true]
      exact ⟨h2, fun z hz => List.mem_cons_of_mem _ hz⟩
    · obtain ⟨i1, i2⟩ := delD_keys (q := q) h2
      simp only [delD, if_neg e, List.map_cons]
      refine ⟨keysOk_mk (fun x hx => ?_) ?_, fun z hz => ?_⟩
      · rcases List.mem_cons.mp hx with rfl | hx
        · exact h1
        · exact keysOk_key i1 _ hx
      · rw [List.map_cons, List.nodup_cons]
        exact ⟨fun hm => h3 (i2 _ hm), keysOk_nd i1⟩
      · rcases List.mem_cons.mp hz with rfl | hz
        · simp
        · exact List.mem_cons_of_mem _ (i2 _ hz)
def kvOf (l : List (D × V)) : List (Key × V) := l.map fun c => (c.1.key, c.2)
theorem kvOf_keys (l : List (D × V)) : (kvOf l).map (·.1) = (l.map (·.1)).map (·.key) := by simp [kvOf]
theorem valV_none {l : List (Key × V)} {k : Key} (h : k ∉ l.map (·.1)) : valV l k = none := by
  induction l with
  | nil => rfl
  | cons p r ih =>
    rw [List.map_cons, List.mem_cons, not_or] at h
    rw [valV_neg (fun e => h.1 e.symm), ih h.2]
theorem putK_cons {p : Key × V} {r : List (Key × V)} {k : Key} {v : V} (h : ¬ p.1 = k) : putK (p :: r) k v = p :: putK r k v := by
  unfold putK
  rw [List.any_cons, decide_eq_false h, Bool.false_or, List.map_cons, if_neg h]
  split <;> rfl
theorem putK_head {p : Key × V} {r : List (Key × V)} {k : Key} {v : V} (h : p.1 = k) (n : k ∉ r.map (·.1)) : putK (p :: r) k v = (p.1, v) :: r := by
  unfold putK
  rw [List.any_cons, decide_eq_true h, Bool.true_or, if_pos rfl, List.map_cons, if_pos h]
  congr 1
  have : ∀ x ∈ r, (if x.1 = k then (x.1, v) else x) = x := fun x hx => if_neg fun e => n (List.mem_map.mpr ⟨x, hx, e⟩)
  rw [List.map_congr_left this, List.map_id']
theorem putK_put {q : D} (hq : q.isKey = true) (v : V) : ∀ {l : List (D × V)}, keysOk (l.map (·.1)) = true → putK (kvOf l) q.key v = kvOf (putD l q v)
  | [], _ => rfl
  | (k, c) :: r, h => by
    obtain ⟨h1, h2, h3⟩ := keysOk_cons h
    have ee := same_iff h1 hq
    by_cases e : k.key = q.key
    · have e1 : k.same q = true := by rw [ee, decide_eq_true e]
      simp only [putD, e1, if_true]
      show putK ((k.key, c) :: kvOf r) q.key v = _
      rw [putK_head e (by rw [kvOf_keys, ← e]; exact h3)]
      rfl
    · have e1 : ¬ k.same q = true := by rw [ee, decide_eq_false e]; exact Bool.false_ne_true
      simp only [putD, e1, if_false]
      show putK ((k.key, c) :: kvOf r) q.key v = _
      rw [putK_cons e, putK_put hq v h2]
      rfl
theorem dropK_del {q : D} (hq : q.isKey = true) : ∀ {l : List (D × V)}, keysOk (l.map (·.1)) = true → dropK (kvOf l) q.key = kvOf (delD l q)
  | [], _ => rfl
  | (k, c) :: r, h => by
    obtain ⟨h1, h2, h3⟩ := keysOk_cons h
    have ee := same_iff h1 hq
    by_cases e : k.key = q.key
    · have e1 : k.same q = true := by rw [ee, decide_eq_true e]
      simp only [delD, e1, if_true]
      show ((k.key, c) :: kvOf r).filter _ = _
      rw [List.filter_cons, if_neg (by simp [e])]
      rw [List.filter_eq_self]
      intro x hx
      have : x.1 ≠ q.key := fun z => h3 (by rw [← kvOf_keys, e, ← z]; exact List.mem_map.mpr ⟨x, hx, rfl⟩)
      simpa using this
    · have e1 : ¬ k.same q = true := by rw [ee, decide_eq_false e]; exact Bool.false_ne_true
      simp only [delD, e1, if_false]
      show ((k.key, c) :: kvOf r).filter _ = _
      rw [List.filter_cons, if_pos (by simpa using e)]
      have := dropK_del hq h2
      unfold dropK at this
      rw [this]
      rfl
theorem valV_get {q : D} (hq : q.isKey = true) : ∀ {l : List (D × V)}, keysOk (l.map (·.1)) = true → valV (kvOf l) q.key = getD l q
  | [], _ => rfl
  | (k, c) :: r, h => by
    obtain ⟨h1, h2, h3⟩ := keysOk_cons h
    have ee := same_iff h1 hq
    by_cases e : k.key = q.key
    · have e1 : k.same q = true := by rw [ee, decide_eq_true e]
      simp only [getD, e1, if_true]
      exact valV_pos (p := (k.key, c)) e
    · have e1 : ¬ k.same q = true := by rw [ee, decide_eq_false e]; exact Bool.false_ne_true
      simp only [getD, e1, if_false]
      exact (valV_neg (p := (k.key, c)) e).trans (valV_get hq h2)
theorem nodeObjs_dct {n : Addr × Addr} {l : List (D × V)} (h : keysOk (l.map (·.1)) = true) : nodeObjs .dct n l = [(n.1, some (.dK (kvOf l)))] := by
  unfold nodeObjs
  simp only [h, if_true]
  rfl
theorem ers_put {q : D} {t : A} (l : List (D × A)) : ers (putD l q t) = putD (ers l) q (er t) := by
  rw [ers_map, ers_map, putD_map er]
theorem vals_put {q : D} {t : A} (l : List (D × A)) : vals (putD l q t) = putD (vals l) q t.val := putD_map TR.val q t l
theorem ers_del {q : D} (l : List (D × A)) : ers (delD l q) = delD (ers l) q := by
  rw [ers_map, ers_map, delD_map er]
theorem vals_del {q : D} (l : List (D × A)) : vals (delD l q) = delD (vals l) q := delD_map TR.val q l
theorem vals_fst (l : List (D × A)) : (vals l).map (·.1) = l.map (·.1) := by simp [vals, Function.comp_def]

/-! ### o[i] = e -/
/-- the children behind a store -/
def setT {α : Type} (k : NK) (cs : List (D × α)) (q : D) (t : α) : Option (List (D × α)) := match k with
  | .lst => match q with
    | .int i => (ixN cs.length i).map fun j => cs.set j (.none, t)
    | _ => none
  | .dct => if q.isKey = true then (if cs.length < sizeLine then some (putD cs q t) else none) else none
  | _ => none
def gSetI (x o i : EV) (ρ : Fr) : Option Fr := match x with
  | .val t => match o with
    | .ptr j p => match i.key with
      | none => none
      | some q => match look (.ptr j p) ρ with
        | some (.node _ k cs) => match setT k cs q t with
          | none => none
          | some cs' => ρ.put j p (.node () k cs')
        | _ => none
    | _ => none
  | _ => none
def rSet : TSet := fun o i v H Q => rSetL o i v H Q ∨ rSetD o i v H Q
theorem set_any {X : Cx} (hu : X.A.units + 1 < cLine) : PSet X rSet := by
  intro pins s σ H o i v ov iv u Q I ro ri rv h
  rcases h with h | h
  · exact set_list pins s σ H o i v ov iv u Q I ro ri rv h
  · exact set_dict hu pins s σ H o i v ov iv u Q I ro ri rv h
theorem look_at {K : PySem.W.Frag} {G H : Hp} {σ : L2.St} {F : AF} {R : List A} {j : Nat} {p : List D} {v : V} {u : Unit} {k : NK} {cs : List (D × T)} (rel : Rel K G H σ F R) (ok : ValAt F.sl j p v) (e : look (.ptr j p) F.er = some (.node u k cs)) :
    ∃ (a : A) (n : Addr × Addr) (cs' : List (D × A)), F.sl[j]? = some (.own a) ∧ a.at p = some (.node n k cs') ∧ v = .ref n.1 ∧ ers cs' = cs ∧ Seen K G H (.node n k cs') := by
  obtain ⟨a, c, h1, h2, h3, h4⟩ := look_ptr ok e
  obtain ⟨n, cs', rfl, h5⟩ := er_node h4
  exact ⟨a, n, cs', h1, h2, h3.symm, h5, (rel.ok.seen (by simp [mem_owns h1])).at h2⟩
theorem len_ers (cs : List (D × A)) : (ers cs).length = cs.length := by rw [ers_map]; simp
theorem set_map {α β : Type} (f : α → β) (k : NK) (cs : List (D × α)) (q : D) (t : α) : setT k (cs.map fun c => (c.1, f c.2)) q (f t) = (setT k cs q t).map fun l => l.map fun c => (c.1, f c.2) := by
  cases k <;> try rfl
  case lst =>
    cases q <;> try rfl
    rename_i i
    simp only [setT, List.length_map]
    cases ixN cs.length i with
    | none => rfl
    | some j => simp [List.map_set]
  case dct =>
    simp only [setT, List.length_map]
    split
    · split
      · simp [putD_map f]
      · rfl
    · rfl
theorem set_perm {k : NK} {cs cs' : List (D × A)} {q : D} {t : A} (h : setT k cs q t = some cs') : ∃ U, (cs'.map (·.2) ++ U).Perm (cs.map (·.2) ++ [t]) := by
  cases k <;> try cases h
  case lst =>
    cases q <;> simp [setT] at h
    rename_i i
    obtain ⟨j, hj, rfl⟩ := h
    have hl := ixN_lt hj
    refine ⟨[cs[j].2], ?_⟩
    have e0 : cs = cs.take j ++ cs[j] :: cs.drop (j + 1) := by rw [← List.drop_eq_getElem_cons hl, List.take_append_drop]
    have e : cs.map (·.2) = (cs.take j).map (·.2) ++ cs[j].2 :: (cs.drop (j + 1)).map (·.2) := by
      conv => lhs; rw [e0]
      rw [List.map_append, List.map_cons]
    rw [List.set_eq_take_append_cons_drop, if_pos hl, e]
    simp only [List.map_append, List.map_cons, List.append_assoc, List.cons_append]
    refine List.Perm.append_left _ ?_
    refine (List.perm_append_comm (l₁ := t :: (cs.drop (j + 1)).map (·.2)) (l₂ := [cs[j].2])).trans ?_
    exact (List.perm_append_comm (l₁ := [t]) (l₂ := (cs.drop (j + 1)).map (·.2))).cons _
  case dct =>
    simp only [setT] at h
    split at h
    · split at h
      · cases h
        obtain ⟨U, h1, _⟩ := putD_perm q t cs
        exact ⟨U, h1⟩
      · cases h
    · cases h
/-- what is written, at the model -/
theorem set_node {K : PySem.W.Frag} {G H : Hp} {n : Addr × Addr} {k : NK} {cs cs' : List (D × A)} {q : D} {t : A} {y : V} {Q : Hp → Prop} (h : Seen K G H (.node n k cs)) (e : setT k cs q t = some cs') (ry : RepD K G q y) :
    ∃ o o', nodeObjs k n (vals cs) = [(n.1, some o)] ∧ nodeObjs k n (vals cs') = [(n.1, some o')] ∧ (Q (upd H n.1 o') → rSet (.ref n.1) y t.val H Q) := by
  cases k <;> try cases e
  case lst =>
    cases q <;> simp [setT] at e
    rename_i i
    obtain ⟨j, hj, rfl⟩ := e
    cases ry
    have hv : (vals (cs.set j (PyData.none, t))).map (·.2) = ((vals cs).map (·.2)).set j t.val := by simp [vals, List.map_set]
    refine ⟨_, _, rfl, rfl, fun hq => .inl ⟨n.1, _, i, j, rfl, rfl, h.lst, ?_, ?_⟩⟩
    · simpa [vals] using hj
    · first | (rw [← hv]; exact hq) | exact hq
  case dct =>
    simp only [setT] at e
    split at e
    · rename_i hk
      split at e
      · rename_i hl
        cases e
        obtain ⟨h1, h2⟩ := h.dctK
        have h1' : keysOk ((vals cs).map (·.1)) = true := by rw [vals_fst]; exact h1
        have h3 := (putD_keys hk t.val h1').1
        refine ⟨_, _, nodeObjs_dct h1', by rw [vals_put]; exact nodeObjs_dct h3, fun hq => .inr ⟨n.1, _, rfl, ?_, hq⟩⟩
        rw [isKey_kV hk ry, ← putK_put hk t.val h1']
        exact DPut.k h2 (by simpa [kvOf, vals] using hl)
      · cases e
    · cases e
theorem setI_run {K : PySem.W.Frag} {G H : Hp} {σ : L2.St} {F : AF} {R : List A} {x o i : AV} {ρ' : Fr} {Q : Hp → Prop} (rel : Rel K G H σ F (x.trees ++ (o.trees ++ (i.trees ++ R)))) (okx : x.Ok F.sl) (oko : o.Ok F.sl) (oki : i.Ok F.sl)
    (e : gSetI x.er o.er i.er F.er = some ρ') (k : ∀ G' H' F', Nx G G' F F' → F'.er = ρ' → Rel K G' H' σ F' R → Q H') : rSet o.v i.v x.v H Q := by
  cases x with
  | ptr j p v => cases e
  | val t =>
    cases o with
    | val a => cases e
    | ptr j p v =>
      rw [show AV.er (.val t) = .val (er t) from rfl, show AV.er (.ptr j p v) = .ptr j p from rfl] at e
      simp only [gSetI] at e
      cases hb : i.er.key with
      | none => rw [hb] at e; cases e
      | some q =>
        rw [hb] at e
        obtain ⟨y, rfl⟩ := key_av hb
        have ry : RepD K G q y := rel.ok.leaves (some q, y) (by simp [AV.trees, leaves]) q rfl
        simp only at e
        cases hl : look (.ptr j p) F.er with
        | none => rw [hl] at e; cases e
        | some tt =>
          rw [hl] at e
          cases tt with
          | leaf o => cases e
          | node u nk cs =>
            simp only at e
            obtain ⟨a, n, cs0, h1, h2, rfl, rfl, sn⟩ := look_at rel oko hl
            rw [ers_map, set_map er] at e
            cases es : setT nk cs0 q t with
            | none => rw [es] at e; cases e
            | some cs' =>
              rw [es] at e
              simp only [Option.map_some] at e
              rw [← ers_map, show (TR.node () nk (ers cs') : T) = LT.er (.node n nk cs') from rfl, AF.put_er h1] at e
              cases e
              obtain ⟨ob, ob', o1, o2, kk⟩ := set_node (Q := Q) sn es ry
              obtain ⟨U, hp⟩ := set_perm es
              have rel' : Rel K G H σ F ([t] ++ R) := by
                simp only [AV.trees, List.nil_append] at rel
                refine rel.weakR (fun m q => ?_) (fun b => ?_) (fun m q => ?_)
                · simp only [List.cons_append, List.nil_append, allN_append, allN_cons, List.mem_append] at q ⊢; rcases q with q | q <;> simp [q]
                · simp only [List.cons_append, List.nil_append, allN_append, allN_cons, cnt_append]; omega
                · simp only [List.cons_append, List.nil_append, allL_append, allL_cons, List.mem_append] at q ⊢; rcases q with q | q <;> simp [q]
              obtain ⟨r1, n1⟩ := rel'.mut h1 h2 o1 o2 hp
              exact kk (k _ _ _ n1 rfl r1.drop)
/-- o[i] = e -/
def M.setItem (fx fo fi : M EV) : M SO := M.bind (evalArgs [fx, fo, fi]) fun xs ρ => match xs with
  | [x, o, i] => match gSetI x o i ρ with
    | none => none
    | some ρ' => some (.ok .nx, ρ')
  | _ => none
theorem map_three {as : List AV} {x y z : EV} (h : as.map AV.er = [x, y, z]) : ∃ a b c, as = [a, b, c] ∧ a.er = x ∧ b.er = y ∧ c.er = z := by
  cases as with
  | nil => cases h
  | cons a as =>
    simp only [List.map_cons, List.cons.injEq] at h
    obtain ⟨b, c, rfl, h1, h2⟩ := map_two h.2
    exact ⟨a, b, c, rfl, h.1, h1, h2⟩
theorem setItem_run {K : PySem.W.Frag} {W : WX} {fx fo fi : M EV} {D : Ends} {σ : L2.St} {H : Hp} (h : tDS K W (M.setItem fx fo fi) D σ H) :
    tAsg (tD K W fx) (gSub (tD K W fo) (tD K W fi) rSet) D σ H := by
  have : tAs [tD K W fx, tD K W fo, tD K W fi] σ H fun vs H1 => ∃ a b c, vs = [a, b, c] ∧ rSet b c a H1 fun H4 => D.nx σ H4 := by
    refine args_run [fx, fo, fi] ?_
    obtain ⟨G, F, R, rel, r, ρ', e, k⟩ := h
    unfold M.setItem M.bind at e
    cases q1 : evalArgs [fx, fo, fi] F.er with
    | none => rw [q1] at e; cases e
    | some y1 =>
      obtain ⟨r1, ρ1⟩ := y1
      rw [q1] at e
      cases r1 with
      | error ex =>
        cases e
        exact ⟨G, F, R, rel, _, _, q1, fun G1 H1 F1 n1 e1 => k G1 H1 F1 σ n1 e1⟩
      | ok xs =>
        refine ⟨G, F, R, rel, _, _, q1, fun G1 H1 F1 n1 e1 as rel1 ok1 ex1 => ?_⟩
        subst e1
        simp only at e
        match xs, e with
        | [x, o, i], e =>
          obtain ⟨a, b, c, rfl, rfl, rfl, rfl⟩ := map_three ex1
          simp only at e
          cases q2 : gSetI a.er b.er c.er F1.er with
          | none => rw [q2] at e; cases e
          | some ρ2 =>
            rw [q2] at e
            cases e
            exact ⟨_, _, _, rfl, setI_run (by simpa using rel1) (ok1 a (by simp)) (ok1 b (by simp)) (ok1 c (by simp)) q2 fun G2 H2 F2 n2 e2 rel2 => k G2 H2 F2 σ (n1.trans n2) e2 rel2⟩
  have this : tD K W fx σ H fun v1 H1 => tD K W fo σ H1 fun v2 H2 => tD K W fi σ H2 fun v3 H3 => ∃ a b c, [v1, v2, v3] = [a, b, c] ∧ rSet b c a H3 fun H4 => D.nx σ H4 := this
  refine tD_mono (fun v1 H1 h1 => tD_mono (fun v2 H2 h2 => tD_mono (fun v3 H3 h3 => ?_) h2) h1) this
  obtain ⟨a, b, c, e, q⟩ := h3
  cases e
  exact q
section
variable {X : Cx} {W : WX} {e o i : Expr} {fx fo fi : M EV} {pos tpos : Pos}
theorem ds_setItem (hu : X.A.units + 1 < cLine) (he : DE X W e fx) (ho : DE X W o fo) (hi : DE X W i fi)
    (ha : ∀ v, assign (.Subscript o i tpos) X.env v = (do
      let ov ← holding [v] (eval o X.env)
      let iv ← holding [v, ov] (eval i X.env)
      standAt tpos
      holding [v, ov, iv] (setItem ov iv v)
      release [v, ov, iv] []) := by intro _; rfl)
    (hs : swapsWithSole [.Subscript o i tpos] e pos.line X.env = pure false := by rfl) (hw : swappedStores [.Subscript o i tpos] e X.env = pure none := by rfl)
    (h1 : (assignEach [.Subscript o i tpos] X.env).map (·.2) = [assign (.Subscript o i tpos) X.env] := by rfl) : DS X W (.Assign [.Subscript o i tpos] e pos) (M.setItem fx fo fi) :=
  PS.imp (ps_asg he (pg_sub ho hi (set_any hu) ha) hs hw h1) fun D σ H h => setItem_run h
end
end LT

/-! LA14: defs and calls. -/
namespace LT
open PySem PySem.Spec L2

/-- what a def does: its result, and its in-out parameters behind it -/
abbrev FD := List T → Option (Except Ex T × List T)
def spD (K : PySem.W.Frag) (n : Nat) (io : List Nat) (FF : FD) : Sp := fun vs H Q E => ∃ (G : Hp) (R as : List A), vs = as.map TR.val ∧ as.length = n ∧ OkT K G H (as ++ R) ∧ ∃ r outs, FF (as.map er) = some (r, outs) ∧
  ∀ (G' H' : Hp) (bs : List A), Same G G' → bs.map er = outs → bs.map TR.val = io.map (fun i => vs.getD i .non) → match r with
    | .ok t => ∀ a : A, er a = t → OkT K G' H' (a :: (bs ++ R)) → Q a.val H'
    | .error e => ∀ (x : AX) (d : Option Addr), x.Is e d → OkT K G' H' (x.trees ++ (bs ++ R)) → E (.ref x.C) d H'

/-! ### the callee -/
def finals : List Nat → Fr → Option (List T)
  | [], _ => some []
  | i :: io, ρ => match ρ.sl[i]? with
    | some (.own t) => match finals io ρ with
      | some ts => some (t :: ts)
      | none => none
    | _ => none
def mkF (m : Nat) (io : List Nat) (body : M SO) : FD := fun ts => match body ⟨ts.map .own ++ List.replicate m .emp, [], io⟩ with
  | none => none
  | some (r, ρ) => match finals io ρ with
    | none => none
    | some outs => match r with
      | .error e => some (.error e, outs)
      | .ok (.ret t) => some (.ok t, outs)
      | .ok .nx => some (.ok (.leaf (some .none)), outs)
      | _ => none
theorem owns_out {sl : List AS} {i : Nat} {b : A} (h : sl[i]? = some (.own b)) : (b :: owns (sl.set i .emp)).Perm (owns sl) := by
  obtain ⟨P, Q, o1, o2⟩ := owns_set h
  rw [o1, o2]
  simp only [AS.trees, List.nil_append, List.cons_append]
  exact List.perm_middle.symm
theorem finals_ok : ∀ {io : List Nat} {sl : List AS} {outs : List T} {tm : List (Option (Nat × List D × V))} {io' : List (Nat × V)}, io.Nodup → finals io (AF.er ⟨sl, tm, io'⟩) = some outs →
    ∃ bs : List A, bs.map er = outs ∧ bs.length = io.length ∧ (∀ (n : Nat) (i : Nat) (b : A), io[n]? = some i → bs[n]? = some b → sl[i]? = some (.own b)) ∧ ∃ U, (bs ++ U).Perm (owns sl)
  | [], sl, outs, tm, io', _, e => by cases e; exact ⟨[], rfl, rfl, by simp, owns sl, by simp⟩
  | i :: io, sl, outs, tm, io', nd, e => by
    rw [List.nodup_cons] at nd
    simp only [finals, sl_er] at e
    cases q : sl[i]? with
    | none => rw [q] at e; cases e
    | some s =>
      rw [q] at e
      cases s with
      | emp => cases e
      | al j p v => cases e
      | own b =>
        simp only [Option.map_some, AS.er] at e
        cases q2 : finals io (AF.er ⟨sl, tm, io'⟩) with
        | none => rw [q2] at e; cases e
        | some ts =>
          rw [q2] at e
          cases e
          have e2 : finals io (AF.er ⟨sl.set i .emp, tm, io'⟩) = some ts := by
            rw [← q2]
            have : ∀ (l : List Nat), i ∉ l → finals l (AF.er ⟨sl.set i .emp, tm, io'⟩) = finals l (AF.er ⟨sl, tm, io'⟩) := by
              intro l
              induction l with
              | nil => intro _; rfl
              | cons x l ih =>
                intro h
                rw [List.mem_cons, not_or] at h
                simp only [finals, sl_er, ih h.2]
                rw [List.getElem?_set_ne h.1]
            exact this io nd.1
          obtain ⟨bs, h1, h2, h3, U, h4⟩ := finals_ok nd.2 e2
          refine ⟨b :: bs, by simp [h1], by simp [h2], fun n i' b' hn hb => ?_, U, ?_⟩
          · cases n with
            | zero => simp at hn hb; subst hn hb; exact q
            | succ n =>
              simp at hn hb
              have := h3 n i' b' hn hb
              have hne : i ≠ i' := fun z => nd.1 (z ▸ List.mem_of_getElem? hn)
              rwa [List.getElem?_set_ne hne] at this
          · exact (h4.cons b).trans (owns_out q)
section
variable {K : PySem.W.Frag} {G H : Hp} {σ : L2.St} {F : AF} {R S : List A}
theorem OkT.perm {ts us U : List A} (h : OkT K G H ts) (p : (us ++ U).Perm ts) : OkT K G H us := by
  obtain ⟨h1, h2, h3⟩ := allN_perm p
  simp only [allN_append, allL_append, List.mem_append, cnt_append] at h1 h2 h3
  exact h.less (fun n q => (h1 n).mp (.inl q)) (fun b => by have := h2 b; omega) (fun l q => (h3 l).mp (.inl q))
theorem Rel.perm {U : List A} (r : Rel K G H σ F R) (p : (S ++ U).Perm R) : Rel K G H σ F S :=
  ⟨OkT.perm (U := U) r.ok (by rw [List.append_assoc]; exact p.append_left _), r.len, r.own, r.al, r.tm, r.io⟩
end
theorem owns_start (as : List A) (m : Nat) : owns (as.map AS.own ++ List.replicate m .emp) = as := by
  unfold owns
  rw [List.flatMap_append]
  have h1 : (as.map AS.own).flatMap AS.trees = as := by
    induction as with
    | nil => rfl
    | cons a as ih => simp [AS.trees, ih]
  have h2 : (List.replicate m AS.emp).flatMap AS.trees = [] := by
    induction m with
    | zero => rfl
    | succ m ih => simp [List.replicate_succ, AS.trees, ih]
  rw [h1, h2, List.append_nil]
theorem map_eq_of_get {α β : Type} {l : List α} {m : List β} (f : β → α) (hl : l.length = m.length) (h : ∀ (n : Nat) (a : α) (b : β), l[n]? = some a → m[n]? = some b → a = f b) : l = m.map f := by
  apply List.ext_getElem?
  intro n
  rw [List.getElem?_map]
  cases q : m[n]? with
  | none =>
    rw [List.getElem?_eq_none_iff] at q
    rw [List.getElem?_eq_none_iff.mpr (by omega)]; rfl
  | some b =>
    have hn := (List.getElem?_eq_some_iff.mp q).1
    rw [List.getElem?_eq_getElem (by omega)]
    rw [h n l[n] b (List.getElem?_eq_getElem (by omega)) q]; rfl
/-- THE RULE for a def -/
theorem fnD {P : Program} {w : World} {K : PySem.W.Frag} {mg : Str → Option Value} {base : Heap} {x qual : Str} {st : Stmt} {f : Addr} {fd : FuncData} {N ps : List Str} {k : Nat} {io : List Nat} {body : M SO} (Fn : Fun K x qual st f fd) (Sc : FnScope N ps (defScope st))
    (hio : io.Nodup) (hil : ∀ i ∈ io, i < ps.length)
    (hb : ∀ (cdv : Value) (A : Around) (outer : List Env) (s : Shared) (H : Hp) (E : XK), Room k (A.deeper (PyProof.Rows.envOfC qual (defScope st) s.heap.objs.size f cdv)) →
      DSs (cxOf (L2.CX P w) P w K mg base N qual (defScope st) f cdv A outer s H E) (fun cls d _ H' => E cls d H') (defBody st) body) :
    FnOk P w K mg base (L2.CX P w) (k + 1) f fd ps (spD K ps.length io (mkF (N.length - ps.length) io body)) := by
  refine Fn.okX Sc (fun vs H Q E h => ?_) (fun cdv A' outer s H vs Q E hr h => ?_)
  · obtain ⟨G, R, as, rfl, hl, _⟩ := h
    simpa using hl
  · refine ⟨_, hb cdv A' outer s H E hr, ?_⟩
    obtain ⟨G, R, as, rfl, hl, ok, r, outs, e, kk⟩ := h
    have hvl : (as.map TR.val).length = ps.length := by simpa using hl
    refine ⟨G, ⟨as.map AS.own ++ List.replicate (N.length - ps.length) .emp, [], io.map fun i => (i, (as.map TR.val).getD i .non)⟩, R, ?_, ?_⟩
    · refine ⟨by rw [owns_start]; exact ok, ?_, fun i a h => ?_, fun i j p v h => ?_, fun j p v h => by simp at h, fun y hy => ?_⟩
      · simp [L2.start, hl]
      · by_cases hi : i < as.length
        · rw [List.getElem?_append_left (by simpa using hi), List.getElem?_map] at h
          unfold L2.start
          rw [List.getElem?_append_left (by simpa using hi), List.map_map, List.getElem?_map]
          cases q : as[i]? with
          | none => rw [q] at h; cases h
          | some b => rw [q] at h; cases h; rfl
        · rw [List.getElem?_append_right (by simpa using hi), List.getElem?_replicate] at h
          split at h <;> cases h
      · by_cases hi : i < as.length
        · rw [List.getElem?_append_left (by simpa using hi), List.getElem?_map] at h
          cases q : as[i]? with
          | none => rw [q] at h; cases h
          | some b => rw [q] at h; cases h
        · rw [List.getElem?_append_right (by simpa using hi), List.getElem?_replicate] at h
          split at h <;> cases h
      · obtain ⟨i, hi, rfl⟩ := List.mem_map.mp hy
        have hlt : i < as.length := by rw [hl]; exact hil i hi
        refine ⟨as[i], ?_, ?_⟩
        · show (as.map AS.own ++ _)[i]? = _
          rw [List.getElem?_append_left (by simpa using hlt), List.getElem?_map, List.getElem?_eq_getElem hlt]; rfl
        · simp [List.getD, List.getElem?_map, List.getElem?_eq_getElem hlt]
    · have e0 : AF.er ⟨as.map AS.own ++ List.replicate (N.length - ps.length) .emp, [], io.map fun i => (i, (as.map TR.val).getD i V.non)⟩ = ⟨(as.map er).map SV.own ++ List.replicate (N.length - ps.length) .emp, [], io⟩ := by
        unfold AF.er
        simp only [List.map_append, List.map_map, List.map_replicate, List.map_nil]
        congr 1
        simp [Function.comp_def]
      rw [e0]
      unfold mkF at e
      cases q1 : body ⟨(as.map er).map SV.own ++ List.replicate (N.length - ps.length) .emp, [], io⟩ with
      | none => rw [q1] at e; cases e
      | some y1 =>
        obtain ⟨r1, ρ1⟩ := y1
        rw [q1] at e
        simp only at e
        cases q2 : finals io ρ1 with
        | none => rw [q2] at e; cases e
        | some outs' =>
          rw [q2] at e
          simp only at e
          refine ⟨r1, ρ1, rfl, fun G' H' F' σ' nx e1 => ?_⟩
          subst e1
          obtain ⟨bs, b1, b2, b3, U, b4⟩ := finals_ok (sl := F'.sl) (tm := F'.tm) (io' := F'.io) hio q2
          have bv : ∀ {R' : List A}, Rel K G' H' σ' F' R' → bs.map TR.val = io.map (fun i => (as.map TR.val).getD i .non) := fun {R'} rel => by
            refine map_eq_of_get _ (by simpa using b2) fun n a i ha hi => ?_
            rw [List.getElem?_map] at ha
            cases q : bs[n]? with
            | none => rw [q] at ha; cases ha
            | some b =>
              rw [q] at ha; cases ha
              have hs := b3 n i b hi q
              have hx : (i, (as.map TR.val).getD i .non) ∈ F'.io := by
                rw [nx.io]
                exact List.mem_map.mpr ⟨i, List.mem_of_getElem? hi, rfl⟩
              obtain ⟨b', h1, h2⟩ := rel.io _ hx
              rw [hs] at h1
              cases h1
              exact h2
          have okk : ∀ {S : List A}, Rel K G' H' σ' F' (S ++ R) → OkT K G' H' (S ++ (bs ++ R)) := fun {S} rel => OkT.perm (U := U) rel.ok (by
            have : (S ++ (bs ++ R) ++ U).Perm ((bs ++ U) ++ (S ++ R)) := by
              have h1 : (bs ++ (R ++ U)).Perm (bs ++ (U ++ R)) := List.perm_append_comm.append_left bs
              have h2 : (S ++ (bs ++ R) ++ U).Perm (S ++ ((bs ++ U) ++ R)) := by
                simp only [List.append_assoc]
                exact h1.append_left S
              exact h2.trans ((List.perm_append_comm_assoc S (bs ++ U) R))
            exact this.trans (b4.append_right _))
          cases r1 with
          | error ex =>
            cases e
            intro x d rel is
            exact kk G' H' bs nx.same b1 (bv rel) x d is (okk rel)
          | ok o =>
            cases o with
            | nx =>
              cases e
              intro rel
              exact kk G' H' bs nx.same b1 (bv rel) (.leaf (some .none, .non)) rfl (okk (S := [.leaf (some .none, .non)]) (rel.leafNew .non))
            | ret t =>
              cases e
              intro a rel ea
              exact kk G' H' bs nx.same b1 (bv rel) a ea (okk (S := [a]) rel)
            | brk => cases e
            | ct => cases e

/-! ### the caller -/
def withArgs (FF : FD) (io : List Nat) : Nat → List EV → List T → Fr → Option (Except Ex T × List T × Fr)
  | _, [], acc, ρ => match FF acc with
    | none => none
    | some (r, outs) => some (r, outs, ρ)
  | k, .val t :: xs, acc, ρ => withArgs FF io (k + 1) xs (acc ++ [t]) ρ
  | k, .ptr j p :: xs, acc, ρ => match io.idxOf? k with
    | none => none
    | some n => if (xs.all fun x => match x with
        | .ptr j' p' => !(decide (j' = j) && below p p')
        | _ => true) = true then
      match look (.ptr j p) ρ with
      | some (.node u nk cs) => match ρ.put j p (.leaf none) with
        | none => none
        | some ρ1 => match withArgs FF io (k + 1) xs (acc ++ [.node u nk cs]) { ρ1 with tm := some (j, p) :: ρ1.tm } with
          | none => none
          | some (r, outs, ρ2) => match ρ2.tm with
            | some _ :: tm => match look (.ptr j p) ρ2 with
              | some (.leaf none) => match outs[n]? with
                | none => none
                | some t => match ({ ρ2 with tm := tm } : Fr).put j p t with
                  | none => none
                  | some ρ3 => some (r, outs, ρ3)
              | _ => none
            | _ => none
      | _ => none
      else none
/-- the in-out trees that are not put back yet -/
def pool (io : List Nat) (bs : List A) (k : Nat) : List A := ((io.zip bs).filter fun c => decide (c.1 < k)).map (·.2)
theorem pool_step {k : Nat} : ∀ {io : List Nat} {bs : List A} {n : Nat} {b : A}, io.idxOf? k = some n → bs[n]? = some b → ∃ U, (b :: pool io bs k ++ U).Perm (pool io bs (k + 1))
  | [], bs, n, b, h, _ => by simp at h
  | i :: io, [], n, b, h, hb => by simp at hb
  | i :: io, c :: bs, n, b, h, hb => by
    have mono : ∀ {io : List Nat} {bs : List A}, ∃ U, (pool io bs k ++ U).Perm (pool io bs (k + 1)) := by
      intro io
      induction io with
      | nil => intro bs; exact ⟨[], by simp [pool]⟩
      | cons i io ih =>
        intro bs
        cases bs with
        | nil => exact ⟨[], by simp [pool]⟩
        | cons c bs =>
          obtain ⟨U, hU⟩ := ih (bs := bs)
          unfold pool at hU ⊢
          rw [List.zip_cons_cons, List.filter_cons, List.filter_cons]
          by_cases h1 : i < k
          · refine ⟨U, ?_⟩
            simp only [h1, show i < k + 1 by omega, decide_true, if_true, List.map_cons, List.cons_append]
            exact hU.cons c
          · by_cases h2 : i < k + 1
            · refine ⟨U ++ [c], ?_⟩
              simp only [h1, h2, decide_true, decide_false, if_true, List.map_cons, if_neg Bool.false_ne_true]
              rw [← List.append_assoc]
              exact List.perm_append_comm.trans (by simpa using hU.cons c)
            · refine ⟨U, ?_⟩
              simp only [h1, h2, decide_false, if_neg Bool.false_ne_true]
              exact hU
    rw [List.idxOf?_cons] at h
    by_cases hi : i = k
    · subst hi
      simp at h
      subst h
      simp at hb
      subst hb
      obtain ⟨U, hU⟩ := mono (io := io) (bs := bs)
      refine ⟨U, ?_⟩
      unfold pool at hU ⊢
      rw [List.zip_cons_cons, List.filter_cons, List.filter_cons]
      simp only [Nat.lt_irrefl, Nat.lt_succ_self, decide_true, decide_false, if_true, List.map_cons, if_neg Bool.false_ne_true, List.cons_append]
      exact hU.cons c
    · have hk : (i == k) = false := by simpa using hi
      rw [hk] at h
      simp only [if_neg Bool.false_ne_true, Option.map_eq_some_iff, Bool.false_eq_true, if_false] at h
      obtain ⟨m, h1, rfl⟩ := h
      simp at hb
      obtain ⟨U, hU⟩ := pool_step h1 hb
      unfold pool at hU ⊢
      rw [List.zip_cons_cons, List.filter_cons, List.filter_cons]
      by_cases h1 : i < k
      · refine ⟨U, ?_⟩
        simp only [h1, show i < k + 1 by omega, decide_true, if_true, List.map_cons, List.cons_append]
        exact (List.Perm.swap _ _ _).trans (hU.cons c)
      · refine ⟨U, ?_⟩
        simp only [h1, show ¬ i < k + 1 by omega, decide_false, if_neg Bool.false_ne_true]
        exact hU
theorem pool_le {k : Nat} {io : List Nat} {bs : List A} : ∃ U, (pool io bs k ++ U).Perm bs := by
  induction io generalizing bs with
  | nil => exact ⟨bs, by simp [pool]⟩
  | cons i io ih =>
    cases bs with
    | nil => exact ⟨[], by simp [pool]⟩
    | cons c bs =>
      obtain ⟨U, hU⟩ := ih (bs := bs)
      unfold pool at hU ⊢
      rw [List.zip_cons_cons, List.filter_cons]
      split
      · exact ⟨U, by simpa using hU.cons c⟩
      · exact ⟨U ++ [c], by rw [← List.append_assoc]; exact List.perm_append_comm.trans (by simpa using hU.cons c)⟩
theorem pool_mono {k : Nat} : ∀ {io : List Nat} {bs : List A}, ∃ U, (pool io bs k ++ U).Perm (pool io bs (k + 1)) := by
  intro io
  induction io with
  | nil => intro bs; exact ⟨[], by simp [pool]⟩
  | cons i io ih =>
    intro bs
    cases bs with
    | nil => exact ⟨[], by simp [pool]⟩
    | cons c bs =>
      obtain ⟨U, hU⟩ := ih (bs := bs)
      unfold pool at hU ⊢
      rw [List.zip_cons_cons, List.filter_cons, List.filter_cons]
      by_cases h1 : i < k
      · refine ⟨U, ?_⟩
        simp only [h1, show i < k + 1 by omega, decide_true, if_true, List.map_cons, List.cons_append]
        exact hU.cons c
      · by_cases h2 : i < k + 1
        · refine ⟨U ++ [c], ?_⟩
          simp only [h1, h2, decide_true, decide_false, if_true, List.map_cons, if_neg Bool.false_ne_true]
          rw [← List.append_assoc]
          exact List.perm_append_comm.trans (by simpa using hU.cons c)
        · refine ⟨U, ?_⟩
          simp only [h1, h2, decide_false, if_neg Bool.false_ne_true]
          exact hU
end LT

/-! LA15: calls. -/
namespace LT
open PySem PySem.Spec L2

theorem put_sl {F : AF} {j : Nat} {p : List D} {a c' : A} (hj : F.sl[j]? = some (.own a)) (i : Nat) : (F.put j p a c').sl[i]? = if i = j then some (.own (a.set p c')) else (F.sl[i]?).map (AS.kill j p) := by
  have hjl : j < F.sl.length := (List.getElem?_eq_some_iff.mp hj).1
  unfold AF.put
  by_cases hi : i = j
  · subst hi; rw [if_pos rfl]; show ((F.sl.map (AS.kill i p)).set i _)[i]? = _; rw [List.getElem?_set_self (by simpa using hjl)]
  · rw [if_neg hi]; show ((F.sl.map (AS.kill j p)).set j _)[i]? = _; rw [List.getElem?_set_ne (Ne.symm hi), List.getElem?_map]
theorem ValAt.put {F : AF} {j : Nat} {p : List D} {a c c' : A} (hj : F.sl[j]? = some (.own a)) (hp : a.at p = some c) (hv : c'.val = c.val) {i : Nat} {q : List D} {v : V} (hb : ¬ (i = j ∧ below p q = true)) (h : ValAt F.sl i q v) : ValAt (F.put j p a c').sl i q v := by
  obtain ⟨b, x, x1, x2, x3⟩ := h
  by_cases hi : i = j
  · subst hi
    rw [hj] at x1; cases x1
    have hb' : below p q = false := by cases z : below p q with | false => rfl | true => exact absurd ⟨rfl, z⟩ hb
    obtain ⟨x', y1, y2⟩ := at_keep hp hv hb' x2
    exact ⟨a.set p c', x', by rw [put_sl hj, if_pos rfl], y1, y2.trans x3⟩
  · exact ⟨b, x, by rw [put_sl hj, if_neg hi, x1]; rfl, x2, x3⟩
theorem below_self : ∀ (p : List D), below p p = false
  | [] => rfl
  | q :: p => by simp [below, below_self p]
/-- a tree is taken out, a hole stays -/
theorem Rel.take {K : PySem.W.Frag} {G H : Hp} {σ : L2.St} {F : AF} {R : List A} {j : Nat} {p : List D} {a c : A} (r : Rel K G H σ F R) (hj : F.sl[j]? = some (.own a)) (hp : a.at p = some c) :
    Rel K G H σ (F.put j p a (.leaf (none, c.val))) (c :: R) ∧ Nx G G F (F.put j p a (.leaf (none, c.val))) := by
  refine r.put hj hp rfl (fun P Q N1 N2 L1 L2 e1 e2 e3 => ?_) (fun _ _ h => h)
  have h := r.ok
  rw [e1] at h
  refine ⟨h.sub, fun m q => h.nodes m ?_, fun m q x ex => ?_, fun b => ?_, fun m q => h.free m ?_⟩
  · simp only [LT.nodes, allN_append, allN_cons, e2, List.mem_append, List.append_nil] at q ⊢
    rcases q with ((q | q | q) | q) | q | q <;> simp [q]
  · simp only [LT.leaves, allL_cons, List.mem_append, List.mem_cons, List.not_mem_nil, or_false] at q
    rcases q with ((q | (q | q) | q) | q) | q | q
    · exact h.leaves m (by simp [q]) x ex
    · exact h.leaves m (by simp [e3, q]) x ex
    · subst q; cases ex
    · exact h.leaves m (by simp [e3, q]) x ex
    · exact h.leaves m (by simp [q]) x ex
    · exact h.leaves m (by simp [e3, q]) x ex
    · exact h.leaves m (by simp [q]) x ex
  · have := h.one b
    simp only [LT.nodes, allN_append, allN_cons, e2, cnt_append, List.append_nil] at this ⊢
    omega
  · simp only [LT.nodes, allN_append, allN_cons, e2, List.mem_append, List.append_nil] at q ⊢
    rcases q with ((q | q | q) | q) | q | q <;> simp [q]
/-- a tree is put where a hole was -/
theorem Rel.back {K : PySem.W.Frag} {G H : Hp} {σ : L2.St} {F : AF} {R : List A} {j : Nat} {p : List D} {a b : A} {v : V} (r : Rel K G H σ F (b :: R)) (hj : F.sl[j]? = some (.own a)) (hp : a.at p = some (.leaf (none, v))) (hv : b.val = v) :
    Rel K G H σ (F.put j p a b) R ∧ Nx G G F (F.put j p a b) := by
  refine r.put hj hp hv (fun P Q N1 N2 L1 L2 e1 e2 e3 => ?_) (fun _ _ h => h)
  have h := r.ok
  rw [e1] at h
  refine Held.less h (fun m q => ?_) (fun b' => ?_) (fun m q => ?_)
  · show m ∈ allN ((P ++ a :: Q) ++ (b :: R))
    simp only [LT.nodes, allN_append, allN_cons, e2, List.mem_append, List.append_nil] at q ⊢
    rcases q with ((q | (q | q) | q) | q) | q <;> simp [q]
  · show _ ≤ cnt b' (allN ((P ++ a :: Q) ++ (b :: R)))
    simp only [LT.nodes, allN_append, allN_cons, e2, cnt_append, List.append_nil]
    omega
  · show m ∈ allL ((P ++ a :: Q) ++ (b :: R))
    simp only [LT.leaves, allL_append, allL_cons, e3, List.mem_append, List.mem_cons, List.not_mem_nil, or_false] at q ⊢
    rcases q with ((q | (q | q) | q) | q) | q <;> simp [q]
theorem idx_get {io : List Nat} {k n : Nat} (h : io.idxOf? k = some n) : io[n]? = some k := by
  induction io generalizing n with
  | nil => simp at h
  | cons i io ih =>
    rw [List.idxOf?_cons] at h
    by_cases hi : i = k
    · subst hi; simp at h; subst h; rfl
    · have hk : (i == k) = false := by simpa using hi
      rw [hk] at h
      simp only [Bool.false_eq_true, if_false, Option.map_eq_some_iff] at h
      obtain ⟨m, h1, rfl⟩ := h
      simpa using ih h1
def Got (K : PySem.W.Frag) (W : WX) (σ : L2.St) (R : List A) (Q : VK) (r : Except Ex T) (G' H' : Hp) (F' : AF) : Prop := match r with
  | .ok t => ∀ a : A, er a = t → Rel K G' H' σ F' (a :: R) → Q a.val H'
  | .error e => ∀ (x : AX) (d : Option Addr), x.Is e d → Rel K G' H' σ F' (x.trees ++ R) → W (.ref x.C) d σ H'
theorem Got.imp {K : PySem.W.Frag} {W : WX} {σ : L2.St} {R R' U : List A} {Q : VK} {r : Except Ex T} {G1 H1 G2 H2 : Hp} {F1 F2 : AF} (h : Got K W σ R Q r G1 H1 F1) (eH : H1 = H2) (k : ∀ S, Rel K G2 H2 σ F2 (S ++ R') → Rel K G1 H1 σ F1 (S ++ R)) : Got K W σ R' Q r G2 H2 F2 := by
  subst eH
  cases r with
  | ok t => exact fun a ea rel => h a ea (k [a] rel)
  | error e => exact fun x d is rel => h x d is (k _ rel)
theorem withArgs_ok {K : PySem.W.Frag} {W : WX} {FF : FD} {io : List Nat} {H : Hp} {σ : L2.St} {Q : VK} {vs0 : List V} : ∀ (xs : List AV) (acc : List A) {G : Hp} {F : AF} {R : List A} {r : Except Ex T} {outs : List T} {ρ' : Fr},
    Rel K G H σ F (acc ++ (avs xs ++ R)) → (∀ x ∈ xs, x.Ok F.sl) → vs0 = acc.map TR.val ++ xs.map AV.v → withArgs FF io acc.length (xs.map AV.er) (acc.map er) F.er = some (r, outs, ρ') →
    (∀ (G' H' : Hp) (F' : AF) (bs : List A), Nx G G' F F' → F'.er = ρ' → bs.map er = outs → bs.map TR.val = io.map (fun i => vs0.getD i .non) → Got K W σ (pool io bs acc.length ++ R) Q r G' H' F') →
    spD K vs0.length io FF vs0 H Q (WE W σ)
  | [], acc, G, F, R, r, outs, ρ', rel, _, hv, e, kk => by
    simp only [List.map_nil, withArgs] at e
    cases q1 : FF (acc.map er) with
    | none => rw [q1] at e; cases e
    | some y =>
      obtain ⟨r1, o1⟩ := y
      rw [q1] at e
      cases e
      have hv' : vs0 = acc.map TR.val := by simpa using hv
      refine ⟨G, owns F.sl ++ R, acc, hv', by rw [hv']; simp, ?_, r, outs, q1, fun G' H' bs s b1 b2 => ?_⟩
      · have := rel.ok
        simp only [avs_nil, List.nil_append] at this
        exact this.swap
      · have nx : Nx G G' F F := ⟨s, rfl, rfl, fun _ _ h => h⟩
        have go := kk G' H' F bs nx rfl b1 b2
        have back : ∀ S : List A, OkT K G' H' (S ++ (bs ++ (owns F.sl ++ R))) → Rel K G' H' σ F (S ++ (pool io bs acc.length ++ R)) := fun S ok => by
          refine ⟨?_, rel.len, rel.own, rel.al, rel.tm, rel.io⟩
          obtain ⟨U, hU⟩ := pool_le (io := io) (bs := bs) (k := acc.length)
          refine OkT.perm (U := U) ok ?_
          have h1 : (owns F.sl ++ (S ++ (pool io bs acc.length ++ R)) ++ U).Perm (S ++ ((pool io bs acc.length ++ U) ++ (owns F.sl ++ R))) := by
            refine (List.perm_append_comm_assoc (owns F.sl) S _ |>.append_right U |>.trans ?_)
            simp only [List.append_assoc]
            refine List.Perm.append_left S ?_
            refine (List.perm_append_comm_assoc (owns F.sl) (pool io bs acc.length) _).trans ?_
            refine List.Perm.append_left _ ?_
            rw [← List.append_assoc]
            exact List.perm_append_comm
          exact h1.trans ((hU.append_right _).append_left S)
        cases r with
        | ok t => exact fun a ea ok => go a ea (back [a] ok)
        | error ex => exact fun x d is ok => go x d is (back x.trees ok)
  | .val t :: xs, acc, G, F, R, r, outs, ρ', rel, ok, hv, e, kk => by
    have e' : withArgs FF io (acc ++ [t]).length (xs.map AV.er) ((acc ++ [t]).map er) F.er = some (r, outs, ρ') := by
      rw [List.length_append, List.length_singleton, List.map_append]
      exact e
    refine withArgs_ok xs (acc ++ [t]) (by simpa [AV.trees] using rel) (fun x hx => ok x (by simp [hx])) (by rw [hv]; simp [AV.v]) e' fun G' H' F' bs nx e1 b1 b2 => ?_
    have go := kk G' H' F' bs nx e1 b1 b2
    rw [List.length_append, List.length_singleton]
    obtain ⟨U, hU⟩ := pool_mono (io := io) (bs := bs) (k := acc.length)
    refine go.imp (U := []) rfl fun S rl => rl.perm (U := U) ?_
    have : (S ++ (pool io bs acc.length ++ R) ++ U).Perm (S ++ ((pool io bs acc.length ++ U) ++ R)) := by
      simp only [List.append_assoc]
      exact (List.perm_append_comm.append_left _).append_left _
    exact this.trans ((hU.append_right R).append_left S)
  | .ptr j p v :: xs, acc, G, F, R, r, outs, ρ', rel, ok, hv, e, kk => by
    rw [List.map_cons, show AV.er (.ptr j p v) = .ptr j p from rfl] at e
    simp only [withArgs] at e
    cases q1 : io.idxOf? acc.length with
    | none => rw [q1] at e; cases e
    | some n =>
      rw [q1] at e
      simp only at e
      split at e
      · rename_i hcl
        have okp : ValAt F.sl j p v := ok (.ptr j p v) (by simp)
        cases q2 : look (.ptr j p) F.er with
        | none => rw [q2] at e; cases e
        | some t0 =>
          rw [q2] at e
          cases t0 with
          | leaf l => cases e
          | node u nk cs =>
            simp only at e
            have rel0 : Rel K G H σ F (acc ++ (avs xs ++ R)) := by simpa [AV.trees] using rel
            obtain ⟨a, c, h1, h2, h3, h4⟩ := look_ptr okp q2
            rw [show (TR.leaf none : T) = LT.er (.leaf (none, c.val)) from rfl, AF.put_er h1] at e
            simp only at e
            obtain ⟨rel1, nx1⟩ := rel0.take h1 h2
            have va1 : ValAt (F.put j p a (.leaf (none, c.val))).sl j p v := ValAt.put (c' := .leaf (none, c.val)) h1 h2 rfl (fun z => by rw [below_self] at z; exact Bool.false_ne_true z.2) okp
            -- the frame with the place kept in mind
            have rel2 : Rel K G H σ { F.put j p a (.leaf (none, c.val)) with tm := some (j, p, v) :: (F.put j p a (.leaf (none, c.val))).tm } ((acc ++ [c]) ++ (avs xs ++ R)) := by
              refine ⟨?_, rel1.len, rel1.own, rel1.al, fun j' p' v' h => ?_, rel1.io⟩
              · refine OkT.perm (U := []) rel1.ok ?_
                rw [List.append_nil]
                refine List.Perm.append_left _ ?_
                simp only [List.append_assoc, List.cons_append, List.nil_append]
                exact List.perm_middle
              · rcases List.mem_cons.mp h with h | h
                · cases h; exact va1
                · exact rel1.tm _ _ _ h
            generalize hF1 : ({ F.put j p a (.leaf (none, c.val)) with tm := some (j, p, v) :: (F.put j p a (.leaf (none, c.val))).tm } : AF) = F1 at rel2
            have eF1 : F1.er = { (F.put j p a (.leaf (none, c.val))).er with tm := some (j, p) :: (F.put j p a (.leaf (none, c.val))).er.tm } := by rw [← hF1]; rfl
            rw [← eF1] at e
            cases q3 : withArgs FF io (acc.length + 1) (xs.map AV.er) (acc.map er ++ [.node u nk cs]) F1.er with
            | none => rw [q3] at e; cases e
            | some y =>
              obtain ⟨r2, o2, ρ2⟩ := y
              rw [q3] at e
              simp only at e
              have e' : withArgs FF io (acc ++ [c]).length (xs.map AV.er) ((acc ++ [c]).map er) F1.er = some (r2, o2, ρ2) := by
                rw [List.length_append, List.length_singleton, List.map_append, List.map_singleton, h4]
                exact q3
              refine withArgs_ok xs (acc ++ [c]) rel2 (fun x hx => ?_) (by rw [hv]; simp [AV.v, h3]) e' fun G' H' F' bs nx e1 b1 b2 => ?_
              · have := ok x (by simp [hx])
                cases x with
                | val t => trivial
                | ptr j' p' v' =>
                  rw [← hF1]
                  refine ValAt.put (c' := .leaf (none, c.val)) h1 h2 rfl (fun z => ?_) this
                  rw [List.all_eq_true] at hcl
                  have := hcl (.ptr j' p') (List.mem_map.mpr ⟨_, hx, rfl⟩)
                  simp [z.1, z.2] at this
              · subst e1
                cases q4 : F'.er.tm with
                | nil => rw [q4] at e; cases e
                | cons y tm' =>
                  cases y with
                  | none => rw [q4] at e; cases e
                  | some z =>
                    rw [q4] at e
                    simp only at e
                    cases q5 : look (.ptr j p) F'.er with
                    | none => rw [q5] at e; cases e
                    | some t5 =>
                      rw [q5] at e
                      cases t5 with
                      | node u2 k2 c2 => cases e
                      | leaf l =>
                        cases l with
                        | some d => cases e
                        | none =>
                          simp only at e
                          cases q6 : o2[n]? with
                          | none => rw [q6] at e; cases e
                          | some t6 =>
                            rw [q6] at e
                            simp only at e
                            subst b1
                            rw [List.getElem?_map] at q6
                            cases q7 : bs[n]? with
                            | none => rw [q7] at q6; cases q6
                            | some b =>
                              rw [q7] at q6
                              cases q6
                              obtain ⟨ftm, htm⟩ : ∃ ftm, F'.tm = some (j, p, v) :: ftm := by
                                cases q8 : F'.tm with
                                | nil => simp [AF.er, q8] at q4
                                | cons y ftm =>
                                  cases y with
                                  | none => simp [AF.er, q8] at q4
                                  | some w =>
                                    have := nx.tm 0 w (by rw [q8]; rfl)
                                    rw [← hF1] at this
                                    simp at this
                                    exact ⟨ftm, by rw [this]⟩
                              have etm : tm' = ftm.map fun o => o.map fun x => (x.1, x.2.1) := by
                                have : F'.er.tm = F'.tm.map fun o => o.map fun x => (x.1, x.2.1) := rfl
                                rw [this, htm] at q4
                                simp at q4
                                exact q4.2.symm
                              have vb : b.val = v := by
                                have h := congrArg (fun l : List V => l[n]?) b2
                                simp only [List.getElem?_map, q7, idx_get q1, Option.map_some] at h
                                have h := Option.some.inj h
                                rw [h, hv]
                                simp [List.getD, AV.v]
                              have go : Got K W σ (pool io bs (acc.length + 1) ++ R) Q r2 G' H' F' → _ := id
                              cases q9 : ({ sl := F'.er.sl, tm := tm', io := F'.er.io } : Fr).put j p (er b) with
                              | none => rw [q9] at e; cases e
                              | some ρ3 =>
                                rw [q9] at e
                                cases e
                                generalize hF2 : ({ F' with tm := ftm } : AF) = F2
                                have eF2 : F2.er = { sl := F'.er.sl, tm := tm', io := F'.er.io } := by rw [← hF2, etm]; rfl
                                rw [← eF2] at q9
                                -- what the frame is behind it all
                                have mk : ∀ S : List A, Rel K G' H' σ F' (S ++ (pool io bs (acc.length + 1) ++ R)) → ∃ b2, F'.sl[j]? = some (.own b2) ∧ b2.at p = some (.leaf (none, v)) ∧ Rel K G' H' σ F2 (b :: (S ++ (pool io bs acc.length ++ R))) := fun S rl => by
                                  have va := rl.tm j p v (by rw [htm]; simp)
                                  obtain ⟨a5, c5, g1, g2, g3, g4⟩ := look_ptr va q5
                                  obtain ⟨w, rfl⟩ := er_leaf g4
                                  have : w = v := g3
                                  subst this
                                  refine ⟨a5, g1, g2, ?_⟩
                                  obtain ⟨U, hU⟩ := pool_step q1 q7
                                  have rl2 := rl.perm (S := b :: (S ++ (pool io bs acc.length ++ R))) (U := U) (by
                                    have h1 : (b :: (S ++ (pool io bs acc.length ++ R)) ++ U).Perm (S ++ ((b :: pool io bs acc.length ++ U) ++ R)) := by
                                      simp only [List.cons_append, List.append_assoc]
                                      refine (List.perm_middle (a := b) (l₁ := S)).symm.trans ?_
                                      refine List.Perm.append_left S (List.Perm.cons b ?_)
                                      exact (List.perm_append_comm).append_left _
                                    exact h1.trans ((hU.append_right R).append_left S))
                                  subst hF2
                                  exact ⟨rl2.ok, rl2.len, rl2.own, rl2.al, fun j' p' v' h => rl2.tm j' p' v' (by rw [htm]; exact List.mem_cons_of_mem _ h), rl2.io⟩
                                have hs2 : F2.sl = F'.sl := by rw [← hF2]
                                have nx2 : ∀ a5, Nx G G' F (F2.put j p a5 b) := fun a5 => by
                                  refine ⟨Same.trans nx1.same nx.same, ?_, ?_, fun i x hx => ?_⟩
                                  · show F2.io = F.io
                                    rw [← hF2]
                                    refine nx.io.trans ?_
                                    rw [← hF1]; rfl
                                  · show (F2.tm.map (atKill j p)).length = F.tm.length
                                    rw [← hF2]
                                    have h := nx.tl
                                    rw [htm, ← hF1] at h
                                    simp [AF.put] at h
                                    simpa using h
                                  · have hx : (F2.tm.map (atKill j p))[i]? = some (some x) := hx
                                    rw [← hF2] at hx
                                    have hk : ftm[i]? = some (some x) := by
                                      rw [List.getElem?_map] at hx
                                      cases z : ftm[i]? with
                                      | none => rw [z] at hx; cases hx
                                      | some y =>
                                        rw [z] at hx
                                        cases y with
                                        | none => cases hx
                                        | some y =>
                                          obtain ⟨j', p', v'⟩ := y
                                          simp only [Option.map_some, atKill] at hx
                                          split at hx
                                          · cases hx
                                          · cases hx; rfl
                                    have h5 := nx.tm (i + 1) x (by rw [htm]; simpa using hk)
                                    rw [← hF1] at h5
                                    exact nx1.tm i x (by simpa using h5)
                                rw [List.length_append, List.length_singleton]
                                have fin : ∀ S : List A, Rel K G' H' σ F' (S ++ (pool io bs (acc.length + 1) ++ R)) → ∃ F3, F3.er = ρ' ∧ Nx G G' F F3 ∧ Rel K G' H' σ F3 (S ++ (pool io bs acc.length ++ R)) := fun S rl => by
                                  obtain ⟨a5, g1, g2, rl3⟩ := mk S rl
                                  rw [← hs2] at g1
                                  rw [AF.put_er g1] at q9
                                  cases q9
                                  exact ⟨_, rfl, nx2 a5, (rl3.back g1 g2 vb).1⟩
                                cases r with
                                | ok t =>
                                  intro a' ea rl
                                  obtain ⟨F3, f1, f2, f3⟩ := fin [a'] rl
                                  exact kk G' H' F3 bs f2 f1 rfl b2 a' ea f3
                                | error ex =>
                                  intro x d is rl
                                  obtain ⟨F3, f1, f2, f3⟩ := fin x.trees rl
                                  exact kk G' H' F3 bs f2 f1 rfl b2 x d is f3
      · cases e
def gCall (FF : FD) (io : List Nat) (xs : List EV) : M EV := fun ρ => match withArgs FF io 0 xs [] ρ with
  | none => none
  | some (r, _, ρ') => match r with
    | .ok t => some (.ok (.val t), ρ')
    | .error e => some (.error e, ρ')
def M.call (FF : FD) (io : List Nat) (fs : List (M EV)) : M EV := M.bind (evalArgs fs) (gCall FF io)
theorem call_run {K : PySem.W.Frag} {W : WX} {FF : FD} {io : List Nat} {fs : List (M EV)} {n : Nat} (hn : fs.length = n) {σ : L2.St} {H : Hp} {Q : VK} (h : tD K W (M.call FF io fs) σ H Q) :
    tAs (fs.map (tD K W)) σ H fun vs H1 => spD K n io FF vs H1 Q (WE W σ) := by
  refine args_run fs ?_
  obtain ⟨G, F, R, rel, res, ρ', e, k⟩ := h
  unfold M.call M.bind at e
  cases q1 : evalArgs fs F.er with
  | none => rw [q1] at e; cases e
  | some y1 =>
    obtain ⟨r1, ρ1⟩ := y1
    rw [q1] at e
    cases r1 with
    | error ex =>
      cases e
      exact ⟨G, F, R, rel, _, _, q1, k⟩
    | ok xs =>
      refine ⟨G, F, R, rel, _, _, q1, fun G1 H1 F1 n1 e1 as rel1 ok1 ex1 => ?_⟩
      subst ex1
      subst e1
      simp only [gCall] at e
      cases q2 : withArgs FF io 0 (as.map AV.er) [] F1.er with
      | none => rw [q2] at e; cases e
      | some y2 =>
        obtain ⟨r2, o2, ρ2⟩ := y2
        rw [q2] at e
        simp only at e
        have len : as.length = n := by
          have : ∀ (fs : List (M EV)) (ρ : Fr) xs ρ', evalArgs fs ρ = some (.ok xs, ρ') → xs.length = fs.length := by
            intro fs
            induction fs with
            | nil => intro ρ xs ρ' h; cases h; rfl
            | cons f fs ih =>
              intro ρ xs ρ' h
              unfold evalArgs M.bind at h
              cases z : f ρ with
              | none => rw [z] at h; cases h
              | some y =>
                obtain ⟨r1, ρ1⟩ := y
                rw [z] at h
                cases r1 with
                | error ex => cases h
                | ok x =>
                  simp only [M.hold] at h
                  cases z2 : evalArgs fs (x.push ρ1) with
                  | none => rw [z2] at h; cases h
                  | some y2 =>
                    obtain ⟨r2, ρ2⟩ := y2
                    rw [z2] at h
                    simp only at h
                    cases z3 : x.pop ρ2 with
                    | none => rw [z3] at h; cases h
                    | some ρ3 =>
                      rw [z3] at h
                      cases r2 with
                      | error ex => cases h
                      | ok ys =>
                        cases h
                        simp [ih _ _ _ z2]
          have := this fs _ _ _ q1
          simpa [hn] using this
        have := withArgs_ok (K := K) (W := W) (σ := σ) (Q := Q) (vs0 := as.map AV.v) as [] (R := R) (by simpa using rel1) ok1 (by simp) q2 fun G2 H2 F2 bs n2 e2 b1 b2 => by
          cases r2 with
          | ok t =>
            cases e
            intro a ea rl
            exact k G2 H2 F2 (n1.trans n2) e2 (.val a) ((show Rel K G2 H2 σ F2 ([a] ++ (pool io bs 0 ++ R)) from rl).perm (S := [a] ++ R) (U := pool io bs 0) (by
              rw [List.append_assoc]
              exact (List.perm_append_comm).append_left [a])) trivial (by rw [AV.er, ea])
          | error ex =>
            cases e
            intro x d is rl
            exact k G2 H2 F2 (n1.trans n2) e2 x d (rl.perm (S := x.trees ++ R) (U := pool io bs 0) (by
              rw [List.append_assoc]
              exact (List.perm_append_comm).append_left _)) is
        rw [List.length_map, len] at this
        exact this
section
variable {X : Cx} {W : WX} {k : Nat} {f : Addr} {fd : FuncData} {ps : List Str} {FF : FD} {io : List Nat} {x : Str} {p pos : Pos} {e : Expr} {es : List Expr} {fs : List (M EV)}
theorem das_len {es : List Expr} : ∀ {fs : List (M EV)}, DAs X W es fs → True := fun _ => trivial
theorem de_call (F : FnOk X.prog X.w X.K X.mg X.base (L2.CX X.prog X.w) k f fd ps (spD X.K ps.length io FF)) (hr : Room k X.A) (tk : Takes X W) (hg : Gl X x) (hm : X.mg x = some (.ref f)) (hk : PySem.W.keepIn X.K (.ref f) = true) (hb : Binds X.K fd ps [])
    (ha : DAs X W (e :: es) fs) (hn : fs.length = ps.length := by rfl) (hdb : (x == ("__debug__" : Str)) = false := by decide) (he : starEach (e :: es) X.env = (false, eval e X.env) :: starEach es X.env := by rfl)
    (hpl : (backTo pos (starEach es X.env)).any (·.1) = false := by rfl) : DE X W (.Call (.Name x p) (e :: es) [] pos) (M.call FF io fs) :=
  PE.imp (pe_callS F hr hg hm hk hb (fun σ => passAt tk σ) ha hdb he hpl) fun σ H Q h => call_run hn h
end
end LT

/-! LA16: loops. -/
namespace LT
open PySem PySem.Spec L2

/-! ### slots forgotten -/
def wipeL {α : Type} (e : α) (f : α → α) (ws : List Nat) : Nat → List α → List α
  | _, [] => []
  | n, x :: xs => (if ws.contains n = true then e else f x) :: wipeL e f ws (n + 1) xs
theorem wipeL_get {α : Type} {e : α} {f : α → α} {ws : List Nat} : ∀ {n : Nat} {l : List α} {i : Nat}, (wipeL e f ws n l)[i]? = (l[i]?).map fun x => if ws.contains (n + i) = true then e else f x
  | n, [], i => by simp [wipeL]
  | n, x :: xs, 0 => by simp [wipeL]
  | n, x :: xs, i + 1 => by
    rw [wipeL, List.getElem?_cons_succ, List.getElem?_cons_succ, wipeL_get]
    rw [show n + 1 + i = n + (i + 1) by omega]
theorem wipeL_len {α : Type} {e : α} {f : α → α} {ws : List Nat} : ∀ {n : Nat} {l : List α}, (wipeL e f ws n l).length = l.length
  | _, [] => rfl
  | n, x :: xs => by simp [wipeL, wipeL_len]
theorem wipeL_map {α β : Type} {e : α} {f : α → α} {e' : β} {f' : β → β} {ws : List Nat} (g : α → β) (he : g e = e') (hf : ∀ x, g (f x) = f' (g x)) : ∀ {n : Nat} {l : List α}, (wipeL e f ws n l).map g = wipeL e' f' ws n (l.map g)
  | _, [] => rfl
  | n, x :: xs => by
    simp only [wipeL, List.map_cons, wipeL_map g he hf]
    congr 1
    split
    · exact he
    · exact hf x
def SV.wipe (ws : List Nat) : SV → SV
  | .al j p => if ws.contains j = true then .emp else .al j p
  | s => s
def AS.wipe (ws : List Nat) : AS → AS
  | .al j p v => if ws.contains j = true then .emp else .al j p v
  | s => s
def tmWipe (ws : List Nat) : Option (Nat × List D) → Option (Nat × List D)
  | some (j, p) => if ws.contains j = true then none else some (j, p)
  | none => none
def atWipe (ws : List Nat) : Option (Nat × List D × V) → Option (Nat × List D × V)
  | some (j, p, v) => if ws.contains j = true then none else some (j, p, v)
  | none => none
def wsOf (io ws : List Nat) : List Nat := ws.filter fun i => !io.contains i
def Fr.wipe (ws : List Nat) (ρ : Fr) : Fr := { ρ with sl := wipeL .emp (SV.wipe (wsOf ρ.io ws)) (wsOf ρ.io ws) 0 ρ.sl, tm := ρ.tm.map (tmWipe (wsOf ρ.io ws)) }
def AF.wipe (ws : List Nat) (F : AF) : AF := { F with sl := wipeL .emp (AS.wipe (wsOf (F.io.map (·.1)) ws)) (wsOf (F.io.map (·.1)) ws) 0 F.sl, tm := F.tm.map (atWipe (wsOf (F.io.map (·.1)) ws)) }
theorem AF.wipe_er (ws : List Nat) (F : AF) : (F.wipe ws).er = F.er.wipe ws := by
  unfold AF.wipe Fr.wipe AF.er
  simp only
  congr 1
  · refine wipeL_map AS.er rfl fun x => ?_
    cases x with
    | al j p v =>
      by_cases h : (wsOf (List.map (fun x => x.fst) F.io) ws).contains j = true
      · simp only [AS.wipe, AS.er, SV.wipe, if_pos h]
      · simp only [AS.wipe, AS.er, SV.wipe, if_neg h]
    | _ => rfl
  · simp only [List.map_map]
    apply List.map_congr_left
    intro x _
    cases x with
    | none => rfl
    | some y =>
      obtain ⟨j, p, v⟩ := y
      simp only [Function.comp, atWipe, Option.map_some, tmWipe]
      split <;> rfl
theorem owns_wipe {ws : List Nat} : ∀ {n : Nat} {l : List AS}, ∃ U, (owns (wipeL .emp (AS.wipe ws) ws n l) ++ U).Perm (owns l)
  | _, [] => ⟨[], by simp [wipeL]⟩
  | n, x :: xs => by
    obtain ⟨U, hU⟩ := owns_wipe (ws := ws) (n := n + 1) (l := xs)
    have e : owns (x :: xs) = x.trees ++ owns xs := by simp [owns]
    by_cases h : ws.contains n = true
    · refine ⟨U ++ x.trees, ?_⟩
      rw [e, wipeL, if_pos h]
      have e2 : owns (.emp :: wipeL .emp (AS.wipe ws) ws (n + 1) xs) = owns (wipeL .emp (AS.wipe ws) ws (n + 1) xs) := by simp [owns, AS.trees]
      rw [e2, ← List.append_assoc]
      exact (hU.append_right _).trans List.perm_append_comm
    · refine ⟨U, ?_⟩
      rw [e, wipeL, if_neg h]
      have e2 : owns (x.wipe ws :: wipeL .emp (AS.wipe ws) ws (n + 1) xs) = x.trees ++ owns (wipeL .emp (AS.wipe ws) ws (n + 1) xs) := by
        have : (x.wipe ws).trees = x.trees := by
          cases x with
          | al j p v => simp only [AS.wipe]; split <;> rfl
          | _ => rfl
        simp [owns, this]
      rw [e2, List.append_assoc]
      exact hU.append_left _
section
variable {K : PySem.W.Frag} {G H : Hp} {σ : L2.St} {F : AF} {R S : List A}
theorem wipe_sl {ws : List Nat} {F : AF} {i : Nat} : (F.wipe ws).sl[i]? = (F.sl[i]?).map fun x => if (wsOf (F.io.map (·.1)) ws).contains i = true then .emp else x.wipe (wsOf (F.io.map (·.1)) ws) := by
  show (wipeL _ _ _ 0 F.sl)[i]? = _
  rw [wipeL_get, Nat.zero_add]
theorem wipe_own {ws : List Nat} {F : AF} {i : Nat} {a : A} (h : (F.wipe ws).sl[i]? = some (.own a)) : F.sl[i]? = some (.own a) ∧ (wsOf (F.io.map (·.1)) ws).contains i = false := by
  rw [wipe_sl] at h
  cases q : F.sl[i]? with
  | none => rw [q] at h; cases h
  | some s =>
    rw [q, Option.map_some] at h
    split at h
    · cases h
    · rename_i hc
      cases s with
      | own b => cases h; exact ⟨rfl, by simpa using hc⟩
      | emp => cases h
      | al j p v => simp only [AS.wipe] at h; split at h <;> cases h
theorem wipe_va {ws : List Nat} {F : AF} {j : Nat} {p : List D} {v : V} (hj : ¬ (wsOf (F.io.map (·.1)) ws).contains j = true) (h : ValAt F.sl j p v) : ValAt (F.wipe ws).sl j p v := by
  obtain ⟨a, c, h1, h2, h3⟩ := h
  exact ⟨a, c, by rw [wipe_sl, h1, Option.map_some, if_neg hj]; rfl, h2, h3⟩
theorem Rel.wipe (r : Rel K G H σ F R) (ws : List Nat) : Rel K G H σ (F.wipe ws) R ∧ Nx G G F (F.wipe ws) := by
  refine ⟨⟨?_, ?_, fun i a h => r.own i a (wipe_own h).1, fun i j p v h => ?_, fun j p v h => ?_, fun x hx => ?_⟩, ⟨fun _ _ h => h, rfl, by simp [AF.wipe], fun i x hx => ?_⟩⟩
  · obtain ⟨U, hU⟩ := owns_wipe (ws := wsOf (F.io.map (·.1)) ws) (n := 0) (l := F.sl)
    refine OkT.perm (U := U) r.ok ?_
    have h1 : (owns (F.wipe ws).sl ++ R ++ U).Perm ((owns (F.wipe ws).sl ++ U) ++ R) := by
      rw [List.append_assoc, List.append_assoc]
      exact List.perm_append_comm.append_left _
    exact h1.trans (hU.append_right R)
  · show (wipeL _ _ _ 0 F.sl).length = _
    rw [wipeL_len]; exact r.len
  · rw [wipe_sl] at h
    cases q : F.sl[i]? with
    | none => rw [q] at h; cases h
    | some s =>
      rw [q, Option.map_some] at h
      split at h
      · cases h
      · cases s with
        | own b => cases h
        | emp => cases h
        | al j' p' v' =>
          simp only [AS.wipe] at h
          split at h
          · cases h
          · rename_i hj
            cases h
            obtain ⟨h1, h2⟩ := r.al _ _ _ _ q
            exact ⟨h1, wipe_va hj h2⟩
  · have h : some (j, p, v) ∈ F.tm.map (atWipe (wsOf (F.io.map (·.1)) ws)) := h
    obtain ⟨y, hy, ey⟩ := List.mem_map.mp h
    cases y with
    | none => cases ey
    | some z =>
      obtain ⟨j', p', v'⟩ := z
      simp only [atWipe] at ey
      split at ey
      · cases ey
      · rename_i hj
        cases ey
        exact wipe_va hj (r.tm _ _ _ hy)
  · obtain ⟨a, h1, h2⟩ := r.io x hx
    refine ⟨a, ?_, h2⟩
    rw [wipe_sl, h1, Option.map_some, if_neg]
    · rfl
    · intro z
      rw [List.contains_iff_mem] at z
      have := (List.mem_filter.mp z).2
      simp at this
      exact this x.2 hx
  · have hx : (F.tm.map (atWipe (wsOf (F.io.map (·.1)) ws)))[i]? = some (some x) := hx
    rw [List.getElem?_map] at hx
    cases q : F.tm[i]? with
    | none => rw [q] at hx; cases hx
    | some y =>
      rw [q] at hx
      cases y with
      | none => cases hx
      | some z =>
        obtain ⟨j', p', v'⟩ := z
        simp only [Option.map_some, atWipe] at hx
        split at hx
        · cases hx
        · cases hx; rfl
end

/-! ### targets -/
structure TgOk (K : PySem.W.Frag) (g : TG) (asg : D → Fr → Option Fr) (is : List Nat) : Prop where
  run : ∀ (G H : Hp) (σ : L2.St) (F : AF) (R : List A) (d : D) (x : V) (ρ' : Fr) (Q : L2.St → Hp → Prop), Rel K G H σ F R → RepD K G d x → asg d F.er = some ρ' →
    (∀ F' σ', Nx G G F F' → F'.er = ρ' → Rel K G H σ' F' R → σ'.length = σ.length → (∀ i, i ∉ is → σ'[i]? = σ[i]?) → Q σ' H) → g x σ H Q
def asg1 (i : Nat) (d : D) (ρ : Fr) : Option Fr := if i < ρ.sl.length then ρ.store i (.d d) else none
theorem tg_name {K : PySem.W.Frag} {i : Nat} : TgOk K (gName i) (asg1 i) [i] := ⟨fun G H σ F R d x ρ' Q rel rd e k => by
  unfold asg1 at e
  split at e
  · rename_i hl
    have hl' : i < σ.length := by
      rw [← rel.len]
      simpa [AF.er] using hl
    obtain ⟨h1, h2, h3⟩ := store_ok (av := .val (.leaf (some d, x))) (by simpa [AV.trees] using rel.leafNew rd) trivial e hl'
    exact k _ _ h3 h1 h2 (by simp) fun j hj => by rw [List.getElem?_set_ne]; intro z; exact hj (by simp [z])
  · cases e⟩
structure TgsOk (K : PySem.W.Frag) (g : TGs) (asg : List D → Fr → Option Fr) (is : List Nat) : Prop where
  run : ∀ (G H : Hp) (σ : L2.St) (F : AF) (R : List A) (ds : List D) (xs : List V) (ρ' : Fr) (Q : L2.St → Hp → Prop), Rel K G H σ F R → RepDs K G ds xs → asg ds F.er = some ρ' →
    (∀ F' σ', Nx G G F F' → F'.er = ρ' → Rel K G H σ' F' R → σ'.length = σ.length → (∀ i, i ∉ is → σ'[i]? = σ[i]?) → Q σ' H) → g xs σ H Q
def asgN (ds : List D) (ρ : Fr) : Option Fr := match ds with
  | [] => some ρ
  | _ => none
def asgC (a : D → Fr → Option Fr) (b : List D → Fr → Option Fr) (ds : List D) (ρ : Fr) : Option Fr := match ds with
  | d :: ds => match a d ρ with
    | some ρ' => b ds ρ'
    | none => none
  | [] => none
theorem tgs_nil {K : PySem.W.Frag} : TgsOk K gNil asgN [] := ⟨fun G H σ F R ds xs ρ' Q rel rd e k => by
  cases ds with
  | cons d ds => cases e
  | nil =>
    cases rd
    cases e
    exact ⟨rfl, k F σ (Nx.refl _ _) rfl rel rfl fun _ _ => rfl⟩⟩
theorem tgs_cons {K : PySem.W.Frag} {g : TG} {gs : TGs} {a : D → Fr → Option Fr} {b : List D → Fr → Option Fr} {is js : List Nat} (h1 : TgOk K g a is) (h2 : TgsOk K gs b js) : TgsOk K (gCons g gs) (asgC a b) (is ++ js) := ⟨fun G H σ F R ds xs ρ' Q rel rd e k => by
  cases ds with
  | nil => cases e
  | cons d ds =>
    cases rd with
    | cons r1 r2 =>
      simp only [asgC] at e
      cases q : a d F.er with
      | none => rw [q] at e; cases e
      | some ρ1 =>
        rw [q] at e
        refine ⟨_, _, rfl, h1.run G H σ F R d _ ρ1 _ rel r1 q fun F1 σ1 n1 e1 rel1 l1 s1 => ?_⟩
        subst e1
        refine h2.run G H σ1 F1 R ds _ ρ' Q rel1 r2 e fun F2 σ2 n2 e2 rel2 l2 s2 => ?_
        exact k F2 σ2 (n1.trans n2) e2 rel2 (l2.trans l1) fun i hi => by
          rw [List.mem_append, not_or] at hi
          rw [s2 i hi.2, s1 i hi.1]⟩
def asgT (b : List D → Fr → Option Fr) (d : D) (ρ : Fr) : Option Fr := match d with
  | .tuple ds => b ds ρ
  | _ => none
theorem tg_tup {K : PySem.W.Frag} {n : Nat} {gs : TGs} {b : List D → Fr → Option Fr} {js : List Nat} (h : TgsOk K gs b js) (hn : ∀ ds ρ ρ', b ds ρ = some ρ' → ds.length = n) : TgOk K (gTup K n gs) (asgT b) js := ⟨fun G H σ F R d x ρ' Q rel rd e k => by
  cases d <;> try (cases e; done)
  rename_i ds
  cases rd with
  | tup h1 h2 =>
    exact ⟨_, _, rfl, SqT.of (Sub.tup rel.ok.sub h1), by rw [← h2.length]; exact hn ds _ _ e, h.run G H σ F R ds _ ρ' Q rel h2 e k⟩⟩
theorem asgC_len {a : D → Fr → Option Fr} {b : List D → Fr → Option Fr} {n : Nat} (h : ∀ ds ρ ρ', b ds ρ = some ρ' → ds.length = n) : ∀ ds ρ ρ', asgC a b ds ρ = some ρ' → ds.length = n + 1 := fun ds ρ ρ' e => by
  cases ds with
  | nil => cases e
  | cons d ds =>
    simp only [asgC] at e
    cases q : a d ρ with
    | none => rw [q] at e; cases e
    | some ρ1 => rw [q] at e; simp [h ds ρ1 ρ' e]
theorem asgN_len : ∀ ds ρ ρ', asgN ds ρ = some ρ' → ds.length = 0 := fun ds ρ ρ' e => by
  cases ds with
  | nil => rfl
  | cons d ds => cases e

/-! ### what is walked over -/
/-- an item as it comes -/
inductive Came (K : PySem.W.Frag) (G H : Hp) (d : D) (x : V) : Hp → Prop where
  | old : RepD K G d x → Came K G H d x H
  | new {p : Addr} {vs : List V} {ys : List D} : H p = none → x = .ref p → d = .tuple ys → RepDs K G ys vs → Came K G H d x (upd H p (.tup vs))
structure ItOk (K : PySem.W.Frag) (J : It) (G : Hp) (ds : List D) : Prop where
  go : ∀ (i : Nat) (d : D) (G' H' : Hp), ds[i]? = some d → Same G G' → Sub G' H' → J.go i H' ∧ ∀ x H'', J.yld i H' x H'' → Came K G' H' d x H''
  stop : ∀ (G' H' : Hp), Same G G' → Sub G' H' → J.stop ds.length H'
theorem Rel.came {K : PySem.W.Frag} {G H H' : Hp} {σ : L2.St} {F : AF} {R : List A} {d : D} {x : V} (r : Rel K G H σ F R) (h : Came K G H d x H') : ∃ G', Nx G G' F F ∧ Rel K G' H' σ F R ∧ RepD K G' d x := by
  cases h with
  | old rd => exact ⟨G, Nx.refl _ _, r, rd⟩
  | @new p vs ys hp hx hd rd =>
    obtain ⟨n, r'⟩ := r.newG (o := .tup vs) hp
    refine ⟨_, n, r', ?_⟩
    rw [hx, hd]
    exact .tup (by simp [upd]) (rd.mono (.of_same n.same))
def tDI (K : PySem.W.Frag) (W : WX) (f : M (List D)) : TI := fun σ H R => ∃ G F R0, Rel K G H σ F R0 ∧ Res K W σ f G F R0 fun ds G' H' F' => Rel K G' H' σ F' R0 → ∀ J, ItOk K J G' ds → R J H'
def DI (X : Cx) (W : WX) (tg iter : Expr) (f : M (List D)) : Prop := PI X tg iter (tDI X.K W f)
theorem PI.imp {X : Cx} {tg e : Expr} {t t' : TI} (h : PI X tg e t) (k : ∀ σ H R, t' σ H R → t σ H R) : PI X tg e t' := ⟨fun pins s σ H R I q => h.run pins s σ H R I (k _ _ _ q)⟩
def strD (z : Str) : List D := z.cps.toList.map fun c => .str ⟨#[c]⟩
def itemsOf : D → Option (List D)
  | .list ds => some ds
  | .tuple ds => some ds
  | .str z => some (strD z)
  | _ => none
def M.items (f : M EV) : M (List D) := M.bind f fun x ρ => match x.key with
  | none => none
  | some d => match itemsOf d with
    | none => none
    | some ds => some (.ok ds, ρ)
theorem get_of_map {α β : Type} {l : List α} {f : α → β} {i : Nat} {y : β} (h : (l.map f)[i]? = some y) : ∃ x, l[i]? = some x ∧ f x = y := by
  rw [List.getElem?_map] at h
  cases q : l[i]? with
  | none => rw [q] at h; cases h
  | some x => rw [q] at h; exact ⟨x, rfl, by simpa using h⟩
theorem itl_ok {K : PySem.W.Frag} {G : Hp} {a : Addr} {vs : List V} {ds : List D} (h : G a = some (.lst vs)) (r : RepDs K G ds vs) : ItOk K (Itl K a) G ds := by
  refine ⟨fun i d G' H' hi s sb => ?_, fun G' H' s sb => ?_⟩
  · obtain ⟨v, h1, h2⟩ := r.get hi
    have sq : SqL K H' a vs := SqL.of (Sub.lst sb (s _ _ h))
    refine ⟨⟨vs, v, sq, h1⟩, fun x H'' ⟨e, k⟩ => ?_⟩
    subst e
    have := k vs sq
    rw [h1] at this
    cases this
    exact .old (h2.mono (.of_same s))
  · exact ⟨vs, SqL.of (Sub.lst sb (s _ _ h)), by rw [r.length]; exact Nat.le_refl _⟩
theorem itt_ok {K : PySem.W.Frag} {G : Hp} {a : Addr} {vs : List V} {ds : List D} (h : G a = some (.tup vs)) (r : RepDs K G ds vs) : ItOk K (Itt K a) G ds := by
  refine ⟨fun i d G' H' hi s sb => ?_, fun G' H' s sb => ?_⟩
  · obtain ⟨v, h1, h2⟩ := r.get hi
    have sq : SqT K H' a vs := SqT.of (Sub.tup sb (s _ _ h))
    refine ⟨⟨vs, v, sq, h1⟩, fun x H'' ⟨e, k⟩ => ?_⟩
    subst e
    have := k vs sq
    rw [h1] at this
    cases this
    exact .old (h2.mono (.of_same s))
  · exact ⟨vs, SqT.of (Sub.tup sb (s _ _ h)), by rw [r.length]; exact Nat.le_refl _⟩
theorem its_ok {K : PySem.W.Frag} {G : Hp} {z : Str} : ItOk K (Its z) G (strD z) := by
  refine ⟨fun i d G' H' hi s sb => ?_, fun G' H' s sb => ?_⟩
  · obtain ⟨c, h1, rfl⟩ := get_of_map hi
    have hl := (List.getElem?_eq_some_iff.mp h1).1
    refine ⟨show i < z.cps.size by simpa using hl, fun x H'' ⟨e, c', e1, e2⟩ => ?_⟩
    subst e
    have : z.cps[i]? = some c := by simpa using h1
    rw [this] at e1
    cases e1
    subst e2
    exact .old (.str _)
  · show z.cps.size ≤ _
    simp [strD]
theorem itr_ok {K : PySem.W.Frag} {G : Hp} {lo : Int} {n : Nat} : ItOk K (Itr lo n) G ((List.range n).map fun (i : Nat) => PyData.int (lo + (i : Int))) := by
  refine ⟨fun i d G' H' hi s sb => ?_, fun G' H' s sb => ?_⟩
  · obtain ⟨j, h1, rfl⟩ := get_of_map hi
    have hl := (List.getElem?_eq_some_iff.mp h1).1
    have hj : j = i := by
      have := (List.getElem?_eq_some_iff.mp h1).2
      simp at this; exact this.symm
    subst hj
    refine ⟨show j < n by simpa using hl, fun x H'' ⟨e, e2⟩ => ?_⟩
    subst e e2
    exact .old (.int _)
  · show n ≤ _
    simp
/-- list, tuple or text -/
def iSeq (K : PySem.W.Frag) (te : TE) : TI := fun σ H R => te σ H fun x H1 => (∃ a, x = .ref a ∧ (∃ xs, SqL K H1 a xs) ∧ R (Itl K a) H1) ∨ (∃ a, x = .ref a ∧ (∃ xs, SqT K H1 a xs) ∧ R (Itt K a) H1) ∨ ∃ z, x = .str z ∧ R (Its z) H1
theorem pi_seq {X : Cx} {tg l : Expr} {tl : TE} (hl : PE X l tl) : PI X tg l (iSeq X.K tl) := by
  refine ⟨fun pins s σ H R I h => ?_⟩
  refine thn (hl.run pins s σ H _ I h) fun v s1 ⟨x, H1, I1, r1, q1⟩ => ?_
  rcases q1 with ⟨a, e, ⟨xs, hq⟩, q⟩ | ⟨a, e, ⟨xs, hq⟩, q⟩ | ⟨z, e, q⟩
  · subst e
    cases r1
    obtain ⟨its, rv, p, hz⟩ := I1.list hq
    refine wpAny_pyIter_list p.isList ?_
    refine ⟨s1.heap.objs.size, [s1.heap.objs.size], _, _, H1, rfl, I1.kept (t' := s1.toks) fun b o e => Heap.get?_push_of_some _ e, turn_list a _, ⟨_, Heap.get?_push_size _ rfl, rfl, rfl⟩, fun b hb => ?_, q⟩
    have e : b = s1.heap.objs.size := by simpa using hb
    subst e
    exact I1.fpOk (Nat.le_refl _) (I1.hok.fresh (Nat.le_refl _))
  · subst e
    cases r1
    obtain ⟨its, rv, p, hz⟩ := I1.tuple hq
    refine wpAny_pyIter_tuple (show s1.heap.IsTuple a its.toArray from p) ?_
    refine ⟨s1.heap.objs.size, [s1.heap.objs.size], _, _, H1, rfl, I1.kept (t' := s1.toks) fun b o e => Heap.get?_push_of_some _ e, turn_tuple a _, ⟨_, Heap.get?_push_size _ rfl, rfl, rfl⟩, fun b hb => ?_, q⟩
    have e : b = s1.heap.objs.size := by simpa using hb
    subst e
    exact I1.fpOk (Nat.le_refl _) (I1.hok.fresh (Nat.le_refl _))
  · subst e
    obtain ⟨t, rfl⟩ := r1
    cases ha : z.cps.all (· < 128)
    · exact wpAny_pyIter_wide ha (pi_one (tk := s1.toks) I1 _ (turn_str _ z t "str_iterator" (.inr rfl)) ⟨_, Heap.get?_push_size _ rfl, rfl, rfl⟩ q)
    · exact wpAny_pyIter_ascii ha (pi_one (tk := s1.toks) I1 _ (turn_str _ z t "str_ascii_iterator" (.inl rfl)) ⟨_, Heap.get?_push_size _ rfl, rfl, rfl⟩ q)
section
variable {X : Cx} {W : WX} {tg e : Expr} {f : M EV} {pos p : Pos}
theorem di_seq (he : DE X W e f) : DI X W tg e (M.items f) := PI.imp (pi_seq he) fun σ H Q h => by
  obtain ⟨G, F, R, rel, r, ρ', e, k⟩ := h
  unfold M.items M.bind at e
  cases q1 : f F.er with
  | none => rw [q1] at e; cases e
  | some y1 =>
    obtain ⟨r1, ρ1⟩ := y1
    rw [q1] at e
    cases r1 with
    | error ex => cases e; exact ⟨G, F, R, rel, _, _, q1, k⟩
    | ok x =>
      refine ⟨G, F, R, rel, _, _, q1, fun G1 H1 F1 n1 e1 av rel1 ok1 ex1 => ?_⟩
      subst ex1
      subst e1
      simp only at e
      cases q2 : av.er.key with
      | none => rw [q2] at e; cases e
      | some d =>
        rw [q2] at e
        simp only at e
        cases q3 : itemsOf d with
        | none => rw [q3] at e; cases e
        | some ds =>
          rw [q3] at e
          cases e
          obtain ⟨v, rfl⟩ := key_av q2
          have rd : RepD X.K G1 d v := rel1.ok.leaves (some d, v) (by simp [AV.trees, leaves]) d rfl
          have kk := k G1 H1 F1 n1 rfl rel1.drop
          show (∃ a, v = .ref a ∧ _) ∨ _
          cases rd with
          | lst h1 h2 => cases q3; exact .inl ⟨_, rfl, ⟨_, SqL.of (Sub.lst rel1.ok.sub h1)⟩, kk _ (itl_ok h1 h2)⟩
          | tup h1 h2 => cases q3; exact .inr (.inl ⟨_, rfl, ⟨_, SqT.of (Sub.tup rel1.ok.sub h1)⟩, kk _ (itt_ok h1 h2)⟩)
          | str z => cases q3; exact .inr (.inr ⟨z, rfl, kk _ its_ok⟩)
          | _ => cases q3
/-- range(n), range(a, b) -/
def rangeD (lo hi : Int) : List D := (List.range (hi - lo).toNat).map fun (i : Nat) => PyData.int (lo + (i : Int))
def M.range1 (f : M EV) : M (List D) := M.bind (evalArgs [f]) fun xs ρ => match xs with
  | [x] => match x.key with
    | some (.int j) => if -(2 ^ 62) ≤ j ∧ j < 2 ^ 62 then some (.ok (rangeD 0 j), ρ) else none
    | _ => none
  | _ => none
def M.range2 (f g : M EV) : M (List D) := M.bind (evalArgs [f, g]) fun xs ρ => match xs with
  | [x, y] => match x.key with
    | some (.int i) => match y.key with
      | some (.int j) => if -(2 ^ 62) ≤ i ∧ i < 2 ^ 62 ∧ -(2 ^ 62) ≤ j ∧ j < 2 ^ 62 then some (.ok (rangeD i j), ρ) else none
      | _ => none
    | _ => none
  | _ => none
theorem di_range1 {a : Expr} {fa : M EV} (hg : Gl X "range") (hm : X.mg "range" = none) (ha : DE X W a fa) (hs : starEach [a] X.env = [(false, eval a X.env)] := by rfl) : DI X W tg (.Call (.Name "range" p) [a] [] pos) (M.range1 fa) :=
  PI.imp (pi_range1 hg hm (das_cons ha das_nil hs) hs) fun σ H Q h => args_run [fa] (by
    obtain ⟨G, F, R, rel, r, ρ', e, k⟩ := h
    unfold M.range1 M.bind at e
    cases q1 : evalArgs [fa] F.er with
    | none => rw [q1] at e; cases e
    | some y1 =>
      obtain ⟨r1, ρ1⟩ := y1
      rw [q1] at e
      cases r1 with
      | error ex => cases e; exact ⟨G, F, R, rel, _, _, q1, k⟩
      | ok xs =>
        refine ⟨G, F, R, rel, _, _, q1, fun G1 H1 F1 n1 e1 as rel1 ok1 ex1 => ?_⟩
        subst e1
        simp only at e
        match xs, e with
        | [x], e =>
          obtain ⟨a, rfl, rfl⟩ := map_one ex1
          simp only at e
          split at e
          · rename_i j hk
            split at e
            · rename_i hb
              cases e
              obtain ⟨v, rfl⟩ := key_av hk
              have rd : RepD X.K G1 (.int j) v := rel1.ok.leaves (some (.int j), v) (by simp [AV.trees, leaves]) _ rfl
              cases rd
              refine ⟨j, rfl, hb.1, hb.2, k G1 H1 F1 n1 rfl rel1.drop _ ?_⟩
              have := itr_ok (K := X.K) (G := G1) (lo := 0) (n := j.toNat)
              unfold rangeD
              rw [Int.sub_zero]
              exact this
            · cases e
          · cases e)
theorem di_range2 {a b : Expr} {fa fb : M EV} (hg : Gl X "range") (hm : X.mg "range" = none) (ha : DE X W a fa) (hb : DE X W b fb) (hs : starEach [a, b] X.env = [(false, eval a X.env), (false, eval b X.env)] := by rfl) (hs2 : starEach [b] X.env = [(false, eval b X.env)] := by rfl) :
    DI X W tg (.Call (.Name "range" p) [a, b] [] pos) (M.range2 fa fb) :=
  PI.imp (pi_range2 hg hm (das_cons ha (das_cons hb das_nil hs2) (by rw [hs, hs2])) hs hs2) fun σ H Q h => args_run [fa, fb] (by
    obtain ⟨G, F, R, rel, r, ρ', e, k⟩ := h
    unfold M.range2 M.bind at e
    cases q1 : evalArgs [fa, fb] F.er with
    | none => rw [q1] at e; cases e
    | some y1 =>
      obtain ⟨r1, ρ1⟩ := y1
      rw [q1] at e
      cases r1 with
      | error ex => cases e; exact ⟨G, F, R, rel, _, _, q1, k⟩
      | ok xs =>
        refine ⟨G, F, R, rel, _, _, q1, fun G1 H1 F1 n1 e1 as rel1 ok1 ex1 => ?_⟩
        subst e1
        simp only at e
        match xs, e with
        | [x, y], e =>
          obtain ⟨a, b, rfl, rfl, rfl⟩ := map_two ex1
          simp only at e
          split at e
          · rename_i i hk
            split at e
            · rename_i j hk2
              split at e
              · rename_i hb
                cases e
                obtain ⟨v, rfl⟩ := key_av hk
                obtain ⟨v2, rfl⟩ := key_av hk2
                have rd : RepD X.K G1 (.int i) v := rel1.ok.leaves (some (.int i), v) (by simp [AV.trees, leaves]) _ rfl
                have rd2 : RepD X.K G1 (.int j) v2 := rel1.ok.leaves (some (.int j), v2) (by simp [AV.trees, leaves]) _ rfl
                cases rd
                cases rd2
                exact ⟨i, j, rfl, hb, k G1 H1 F1 n1 rfl (rel1.drop) _ itr_ok⟩
              · cases e
            · cases e
          · cases e)
end

/-! ### for -/
def forD (asg : D → Fr → Option Fr) (ws : List Nat) (body : M SO) : List D → M SO
  | [], ρ => some (.ok .nx, ρ.wipe ws)
  | d :: ds, ρ => match asg d (ρ.wipe ws) with
    | none => none
    | some ρ1 => match body ρ1 with
      | none => none
      | some (r, ρ2) => match r with
        | .error e => some (.error e, ρ2)
        | .ok .nx => forD asg ws body ds ρ2
        | .ok .ct => forD asg ws body ds ρ2
        | .ok .brk => some (.ok .nx, ρ2.wipe ws)
        | .ok (.ret t) => some (.ok (.ret t), ρ2)
def M.forD (f : M (List D)) (asg : D → Fr → Option Fr) (ws : List Nat) (body : M SO) : M SO := M.bind f fun ds => LT.forD asg ws body ds
def Fin (K : PySem.W.Frag) (W : WX) (D : Ends) (R : List A) (r : Except Ex SO) (G' H' : Hp) (F' : AF) (σ' : L2.St) : Prop := match r with
  | .ok .nx => Rel K G' H' σ' F' R → D.nx σ' H'
  | .ok .brk => Rel K G' H' σ' F' R → D.bk σ' H'
  | .ok .ct => Rel K G' H' σ' F' R → D.ct σ' H'
  | .ok (.ret t) => ∀ a : A, Rel K G' H' σ' F' (a :: R) → er a = t → D.rt a.val H'
  | .error e => RaiseOk K W σ' R e G' H' F'
theorem tDS_of {K : PySem.W.Frag} {W : WX} {f : M SO} {D : Ends} {σ : L2.St} {H G : Hp} {F : AF} {R : List A} {r : Except Ex SO} {ρ' : Fr} (rel : Rel K G H σ F R) (e : f F.er = some (r, ρ')) (k : ∀ G' H' F' σ', Nx G G' F F' → F'.er = ρ' → Fin K W D R r G' H' F' σ') : tDS K W f D σ H :=
  ⟨G, F, R, rel, r, ρ', e, fun G' H' F' σ' n e' => by
    have := k G' H' F' σ' n e'
    cases r with
    | error ex => exact this
    | ok o => cases o <;> exact this⟩
theorem tDS_to {K : PySem.W.Frag} {W : WX} {f : M SO} {D : Ends} {σ : L2.St} {H : Hp} (h : tDS K W f D σ H) : ∃ G F R r ρ', Rel K G H σ F R ∧ f F.er = some (r, ρ') ∧ ∀ G' H' F' σ', Nx G G' F F' → F'.er = ρ' → Fin K W D R r G' H' F' σ' := by
  obtain ⟨G, F, R, rel, r, ρ', e, k⟩ := h
  refine ⟨G, F, R, r, ρ', rel, e, fun G' H' F' σ' n e' => ?_⟩
  have := k G' H' F' σ' n e'
  cases r with
  | error ex => exact this
  | ok o => cases o <;> exact this
theorem for_run {K : PySem.W.Frag} {W : WX} {f : M (List D)} {g : TG} {asg : D → Fr → Option Fr} {is ws : List Nat} {body : M SO} (hg : TgOk K g asg is) {D : Ends} {σ : L2.St} {H : Hp} (h : tDS K W (M.forD f asg ws body) D σ H) : tFor (tDI K W f) g (tDS K W body) D σ H := by
  obtain ⟨G, F, R, r, ρ', rel, e, k⟩ := tDS_to h
  unfold M.forD M.bind at e
  cases q1 : f F.er with
  | none => rw [q1] at e; cases e
  | some y1 =>
    obtain ⟨r1, ρ1⟩ := y1
    rw [q1] at e
    cases r1 with
    | error ex => cases e; exact ⟨G, F, R, rel, _, _, q1, fun G1 H1 F1 n1 e1 => k G1 H1 F1 σ n1 e1⟩
    | ok ds =>
      refine ⟨G, F, R, rel, _, _, q1, fun G1 H1 F1 n1 e1 rel1 J it => ?_⟩
      subst e1
      refine ⟨fun i m σ2 H2 => i + m = ds.length ∧ ∃ G2 F2, Nx G1 G2 F1 F2 ∧ Rel K G2 H2 σ2 F2 R ∧ LT.forD asg ws body (ds.drop i) F2.er = some (r, ρ'), ⟨ds.length, by simp, G1, F1, Nx.refl _ _, rel1, by simpa using e⟩, ?_⟩
      rintro i m σ2 H2 ⟨hm, G2, F2, n2, rel2, e2⟩
      cases hd : ds[i]? with
      | none =>
        have hi : ds.length ≤ i := by simpa using hd
        have : i = ds.length := by omega
        subst this
        refine .inl ⟨it.stop G2 H2 n2.same rel2.ok.sub, ?_⟩
        rw [List.drop_length] at e2
        cases e2
        obtain ⟨r3, n3⟩ := rel2.wipe ws
        exact k G2 H2 (F2.wipe ws) σ2 ((n1.trans n2).trans n3) (AF.wipe_er ws F2) r3
      | some d =>
        obtain ⟨hgo, hy⟩ := it.go i d G2 H2 hd n2.same rel2.ok.sub
        have hlt := (List.getElem?_eq_some_iff.mp hd).1
        refine .inr ⟨hgo, fun σ' H' => ∃ G3 F3, Nx G1 G3 F1 F3 ∧ Rel K G3 H' σ' F3 R ∧ LT.forD asg ws body (ds.drop (i + 1)) F3.er = some (r, ρ'), fun σ' H' ⟨G3, F3, n3, rel3, e3⟩ => ⟨m - 1, by omega, by omega, G3, F3, n3, rel3, e3⟩, fun x H' yl => ?_⟩
        have hdrop : ds.drop i = d :: ds.drop (i + 1) := by
          rw [List.drop_eq_getElem_cons hlt]
          congr 1
          exact (List.getElem?_eq_some_iff.mp hd).2
        rw [hdrop] at e2
        simp only [LT.forD] at e2
        obtain ⟨G3, n3, rel3, rd⟩ := rel2.came (hy x H' yl)
        obtain ⟨rel4, n4⟩ := rel3.wipe ws
        rw [← AF.wipe_er] at e2
        cases q2 : asg d (F2.wipe ws).er with
        | none => rw [q2] at e2; cases e2
        | some ρ2 =>
          rw [q2] at e2
          simp only at e2
          refine hg.run G3 H' σ2 (F2.wipe ws) R d x ρ2 _ rel4 rd q2 fun F5 σ5 n5 e5 rel5 _ _ => ?_
          subst e5
          cases q3 : body F5.er with
          | none => rw [q3] at e2; cases e2
          | some y3 =>
            obtain ⟨r3, ρ3⟩ := y3
            rw [q3] at e2
            simp only at e2
            refine tDS_of rel5 q3 fun G6 H6 F6 σ6 n6 e6 => ?_
            subst e6
            have nn : Nx G1 G6 F1 F6 := n2.trans (n3.trans (n4.trans (n5.trans n6)))
            cases r3 with
            | error ex => cases e2; exact k G6 H6 F6 σ6 (n1.trans nn) rfl
            | ok o =>
              cases o with
              | nx => exact fun rel6 => ⟨G6, F6, nn, rel6, e2⟩
              | ct => exact fun rel6 => ⟨G6, F6, nn, rel6, e2⟩
              | brk =>
                cases e2
                intro rel6
                obtain ⟨r7, n7⟩ := rel6.wipe ws
                exact k G6 H6 (F6.wipe ws) σ6 ((n1.trans nn).trans n7) (AF.wipe_er ws F6) r7
              | ret t => cases e2; exact k G6 H6 F6 σ6 (n1.trans nn) rfl
section
variable {X : Cx} {W : WX} {tg iter : Expr} {f : M (List D)} {g : TG} {asg : D → Fr → Option Fr} {is ws : List Nat} {body : List Stmt} {fb : M SO} {pos : Pos}
theorem ds_for (ws : List Nat) (hp : PassesOwn (model X.prog X.w) X.A X.env X.xe) (hc : X.calm = true) (hi : DI X W tg iter f) (hg : PG X tg g) (ho : TgOk X.K g asg is) (hb : DSs X W body fb) (hs : ∀ x, foldedSetIterable iter X.env x = pure x := by intro _; rfl) :
    DS X W (.For tg iter body [] pos) (M.forD f asg ws fb) := PS.imp (ps_for hp hc hi hg hb hs) fun D σ H h => for_run ho h
end
end LT

/-! LA17: comprehensions, dict displays. -/
namespace LT
open PySem PySem.Spec L2

section
variable {K : PySem.W.Frag} {G H : Hp} {σ : L2.St} {F : AF} {R S U : List A}
/-- a tree that is in no slot is changed -/
theorem Rel.mutR {k : NK} {n : Addr × Addr} {cs cs' : List (D × A)} {o o' : HO} {E : List (Addr × Option HO)} (r : Rel K G H σ F (.node n k cs :: (S ++ R)))
    (ho : nodeObjs k n (vals cs) = (n.1, some o) :: E) (ho' : nodeObjs k n (vals cs') = (n.1, some o') :: E) (hperm : (cs'.map (·.2) ++ U).Perm (cs.map (·.2) ++ S)) :
    Rel K G (upd H n.1 o') σ F (.node n k cs' :: (U ++ R)) := by
  refine ⟨?_, r.len, r.own, r.al, r.tm, r.io⟩
  have en : LT.nodes (.node n k cs) = (n.1, some o) :: (E ++ allN (cs.map (·.2))) := by
    show nodeObjs k n (vals cs) ++ nodesL cs = _
    rw [ho, nodesL_zip]; rfl
  have en' : LT.nodes (.node n k cs') = (n.1, some o') :: (E ++ allN (cs'.map (·.2))) := by
    show nodeObjs k n (vals cs') ++ nodesL cs' = _
    rw [ho', nodesL_zip]; rfl
  have el : LT.leaves (.node n k cs) = allL (cs.map (·.2)) := leavesL_zip
  have el' : LT.leaves (.node n k cs') = allL (cs'.map (·.2)) := leavesL_zip
  obtain ⟨pn, pc, pl⟩ := allN_perm hperm
  simp only [allN_append, allL_append, List.mem_append, cnt_append] at pn pc pl
  have h := r.ok
  have h1 : Held K G H ((n.1, some o) :: (E ++ (allN (owns F.sl) ++ allN (cs.map (·.2)) ++ allN S ++ allN R))) (allL (owns F.sl) ++ allL (cs.map (·.2)) ++ allL S ++ allL R) := by
    refine Held.less h (fun m q => ?_) (fun b => ?_) (fun m q => ?_)
    · show m ∈ allN (owns F.sl ++ (.node n k cs :: (S ++ R)))
      simp only [allN_append, allN_cons, en, List.mem_append, List.mem_cons] at q ⊢
      rcases q with q | q | (((q | q) | q) | q) <;> simp [q]
    · show _ ≤ cnt b (allN (owns F.sl ++ (.node n k cs :: (S ++ R))))
      simp only [allN_append, allN_cons, en, cnt_append, cnt_cons]; omega
    · show m ∈ allL (owns F.sl ++ (.node n k cs :: (S ++ R)))
      simp only [allL_append, allL_cons, el, List.mem_append] at q ⊢
      rcases q with ((q | q) | q) | q <;> simp [q]
  have h2 := h1.write (o' := o')
  refine Held.less h2 (fun m q => ?_) (fun b => ?_) (fun m q => ?_)
  · simp only [allN_append, allN_cons, en', List.mem_append, List.mem_cons] at q ⊢
    have := pn m
    rcases q with q | (q | (q | q)) | q | q
    · simp [q]
    · simp [q]
    · simp [q]
    · rcases this.mp (.inl q) with z | z <;> simp [z]
    · rcases this.mp (.inr q) with z | z <;> simp [z]
    · simp [q]
  · have := pc b
    simp only [allN_append, allN_cons, en', cnt_append, cnt_cons]; omega
  · simp only [allL_append, allL_cons, el', List.mem_append] at q ⊢
    have := pl m
    rcases q with q | q | q | q
    · simp [q]
    · rcases this.mp (.inl q) with z | z <;> simp [z]
    · rcases this.mp (.inr q) with z | z <;> simp [z]
    · simp [q]
/-- other values in slots that are not kept -/
theorem Rel.slots {σ' : L2.St} (r : Rel K G H σ F R) (hl : σ'.length = σ.length) (h : ∀ (i : Nat) (s : AS), F.sl[i]? = some s → s ≠ .emp → σ'[i]? = σ[i]?) : Rel K G H σ' F R :=
  ⟨r.ok, by rw [hl]; exact r.len, fun i a q => by rw [h i _ q (fun z => by cases z)]; exact r.own i a q, fun i j p v q => by rw [h i _ q (fun z => by cases z)]; exact r.al i j p v q, r.tm, r.io⟩
end
theorem wipe_get {σ : L2.St} {i : Nat} : ∀ {vs : List Nat}, i ∉ vs → (L2.wipe σ vs)[i]? = σ[i]?
  | [], _ => rfl
  | v :: vs, h => by
    rw [List.mem_cons, not_or] at h
    unfold L2.wipe
    rw [List.getElem?_set_ne (Ne.symm h.1), wipe_get h.2]
theorem wipe_ext {σ σ' : L2.St} (hl : σ.length = σ'.length) : ∀ {vs : List Nat}, (∀ i, i ∉ vs → σ[i]? = σ'[i]?) → L2.wipe σ vs = L2.wipe σ' vs := by
  intro vs h
  apply List.ext_getElem?
  intro i
  by_cases hi : i ∈ vs
  · have hn : ∀ (τ : L2.St) (vs : List Nat), i ∈ vs → i < τ.length → (L2.wipe τ vs)[i]? = some none := by
      intro τ vs
      induction vs with
      | nil => intro h; cases h
      | cons v vs ih =>
        intro h hl
        unfold L2.wipe
        by_cases hv : v = i
        · subst hv
          rw [List.getElem?_set_self (by rw [wipe_length]; exact hl)]
        · rw [List.getElem?_set_ne hv]
          exact ih ((List.mem_cons.mp h).resolve_left (Ne.symm hv)) hl
    by_cases hlt : i < σ.length
    · rw [hn σ vs hi hlt, hn σ' vs hi (by omega)]
    · rw [List.getElem?_eq_none (by rw [wipe_length]; omega), List.getElem?_eq_none (by rw [wipe_length]; omega)]
  · rw [wipe_get hi, wipe_get hi, h i hi]
/-- the slots vs hold nothing -/
def Clean (vs : List Nat) (sl : List AS) : Prop := ∀ i ∈ vs, ∀ s, sl[i]? = some s → s = .emp
theorem wsOf_free {io vs : List Nat} (h : (io.any fun i => vs.contains i) = false) : wsOf io vs = vs := by
  unfold wsOf
  rw [List.filter_eq_self]
  intro a ha
  rw [List.any_eq_false] at h
  simp only [Bool.not_eq_true', ← Bool.not_eq_true, List.contains_iff_mem]
  intro hm
  exact h a hm (by rw [List.contains_iff_mem]; exact ha)
theorem clean_wipe {vs : List Nat} {F : AF} (h : (F.er.io.any fun i => vs.contains i) = false) : Clean vs (F.wipe vs).sl := by
  intro i hi s hs
  rw [wipe_sl] at hs
  cases q : F.sl[i]? with
  | none => rw [q] at hs; cases hs
  | some s' =>
    rw [q, Option.map_some] at hs
    have : wsOf (F.io.map (·.1)) vs = vs := wsOf_free h
    rw [this, if_pos (by rw [List.contains_iff_mem]; exact hi)] at hs
    exact (Option.some.inj hs).symm
theorem Rel.toWipe {K : PySem.W.Frag} {G H : Hp} {σ : L2.St} {F : AF} {R : List A} {vs : List Nat} (r : Rel K G H σ F R) (c : Clean vs F.sl) : Rel K G H (L2.wipe σ vs) F R :=
  r.slots (wipe_length _ _) fun i s q hs => wipe_get fun hi => hs (c i hi s q)
theorem Rel.ofWipe {K : PySem.W.Frag} {G H : Hp} {σ σ' : L2.St} {F : AF} {R : List A} {vs : List Nat} (r : Rel K G H σ' F R) (c : Clean vs F.sl) (e : L2.wipe σ' vs = L2.wipe σ vs) : Rel K G H σ F R :=
  r.slots (by have := congrArg List.length e; rw [wipe_length, wipe_length] at this; exact this.symm) fun i s q hs => by
    have hi : i ∉ vs := fun hi => hs (c i hi s q)
    rw [← wipe_get (σ := σ) hi, ← wipe_get (σ := σ') hi, e]

/-! ### list comprehensions -/
abbrev W0 : WX := fun _ _ _ _ => False
def lcD (asg : D → Fr → Option Fr) (vs : List Nat) (fc : M Bool) (fe : M EV) : List D → List T → M EV
  | [], acc, ρ => some (.ok (.val (.node () .lst (acc.map fun t => (.none, t)))), ρ)
  | d :: ds, acc, ρ => match asg d ρ with
    | none => none
    | some ρ1 => match fc ρ1 with
      | some (.ok true, ρ2) => match fe ρ2 with
        | some (.ok (.val t), ρ3) => if acc.length < sizeLine then lcD asg vs fc fe ds (acc ++ [t]) (ρ3.wipe vs) else none
        | _ => none
      | some (.ok false, ρ2) => lcD asg vs fc fe ds acc (ρ2.wipe vs)
      | _ => none
def M.lc (f : M (List D)) (asg : D → Fr → Option Fr) (vs : List Nat) (fc : M Bool) (fe : M EV) : M EV := M.bind f fun ds ρ =>
  if (ρ.io.any fun i => vs.contains i) = true then none else lcD asg vs fc fe ds [] (ρ.wipe vs)
theorem lc_run {K : PySem.W.Frag} {W : WX} {f : M (List D)} {g : TG} {asg : D → Fr → Option Fr} {is vs : List Nat} {fc : M Bool} {fe : M EV} (hg : TgOk K g asg is) (his : ∀ i ∈ is, i ∈ vs) {σ : L2.St} {H : Hp} {Q : VK} (h : tD K W (M.lc f asg vs fc fe) σ H Q) :
    tLc (tDI K W f) g (tDT K W0 fc) (tD K W0 fe) vs σ H Q := by
  obtain ⟨G, F, R, rel, r, ρ', e, k⟩ := h
  unfold M.lc M.bind at e
  cases q1 : f F.er with
  | none => rw [q1] at e; cases e
  | some y1 =>
    obtain ⟨r1, ρ1⟩ := y1
    rw [q1] at e
    cases r1 with
    | error ex => cases e; exact ⟨G, F, R, rel, _, _, q1, k⟩
    | ok ds =>
      refine ⟨G, F, R, rel, _, _, q1, fun G1 H1 F1 n1 e1 rel1 J it => ?_⟩
      subst e1
      simp only at e
      split at e
      · cases e
      rename_i hio
      have hio : (F1.er.io.any fun i => vs.contains i) = false := by simpa using hio
      intro p hp
      obtain ⟨relw, nw⟩ := rel1.wipe vs
      have rel2 : Rel K G1 (upd H1 p (.lst [])) σ (F1.wipe vs) (.node (p, 0) .lst [] :: R) := Rel.newNode (cs := []) (by simpa using relw) hp rfl
      refine ⟨fun i m H2 => i + m = ds.length ∧ ∃ G2 F2, ∃ acc : List A, Nx G1 G2 F1 F2 ∧ Clean vs F2.sl ∧ Rel K G2 H2 σ F2 (.node (p, 0) .lst (acc.map fun t => (.none, t)) :: R) ∧ lcD asg vs fc fe (ds.drop i) (acc.map er) F2.er = some (r, ρ'),
        ⟨ds.length, by simp, G1, F1.wipe vs, [], nw, clean_wipe hio, rel2, by rw [AF.wipe_er]; exact e⟩, ?_⟩
      rintro i m H2 ⟨hm, G2, F2, acc, n2, cl2, rel2, e2⟩
      cases hd : ds[i]? with
      | none =>
        have hi : ds.length ≤ i := by simpa using hd
        have : i = ds.length := by omega
        subst this
        refine .inl ⟨it.stop G2 H2 n2.same rel2.ok.sub, ?_⟩
        rw [List.drop_length] at e2
        cases e2
        exact k G2 H2 F2 (n1.trans n2) rfl (.val (.node (p, 0) .lst (acc.map fun t => (.none, t)))) (by simpa [AV.trees] using rel2) trivial (by simp [AV.er, er, ers_map, Function.comp_def])
      | some d =>
        obtain ⟨hgo, hy⟩ := it.go i d G2 H2 hd n2.same rel2.ok.sub
        have hlt := (List.getElem?_eq_some_iff.mp hd).1
        refine .inr ⟨hgo, fun H' => ∃ G3 F3, ∃ acc : List A, Nx G1 G3 F1 F3 ∧ Clean vs F3.sl ∧ Rel K G3 H' σ F3 (.node (p, 0) .lst (acc.map fun t => (.none, t)) :: R) ∧ lcD asg vs fc fe (ds.drop (i + 1)) (acc.map er) F3.er = some (r, ρ'),
          fun H' hh => ⟨m - 1, by omega, by omega, hh⟩, fun x H' yl => ?_⟩
        have hdrop : ds.drop i = d :: ds.drop (i + 1) := by
          rw [List.drop_eq_getElem_cons hlt]
          congr 1
          exact (List.getElem?_eq_some_iff.mp hd).2
        rw [hdrop] at e2
        simp only [lcD] at e2
        obtain ⟨G3, n3, rel3, rd⟩ := rel2.came (hy x H' yl)
        cases q2 : asg d F2.er with
        | none => rw [q2] at e2; cases e2
        | some ρ2 =>
          rw [q2] at e2
          simp only at e2
          refine hg.run G3 H' (L2.wipe σ vs) F2 _ d x ρ2 _ (rel3.toWipe cl2) rd q2 fun F5 σ5 n5 e5 rel5 l5 s5 => ?_
          subst e5
          have hw : L2.wipe σ5 vs = L2.wipe σ vs := by
            have h1 : L2.wipe σ5 vs = L2.wipe (L2.wipe σ vs) vs := wipe_ext l5 fun i hi => s5 i fun z => hi (his i z)
            have h2 : L2.wipe (L2.wipe σ vs) vs = L2.wipe σ vs := wipe_ext (wipe_length _ _) fun i hi => wipe_get hi
            exact h1.trans h2
          refine ⟨hw, ?_⟩
          have ioF : ∀ {G' : Hp} {F' : AF}, Nx G1 G' F1 F' → (F'.er.io.any fun i => vs.contains i) = false := fun {G' F'} nn => by
            have : F'.er.io = F1.er.io := by show F'.io.map _ = F1.io.map _; rw [nn.io]
            rw [this]; exact hio
          cases q3 : fc F5.er with
          | none => rw [q3] at e2; cases e2
          | some y3 =>
            obtain ⟨r3, ρ3⟩ := y3
            rw [q3] at e2
            cases r3 with
            | error ex => cases e2
            | ok b =>
              refine ⟨G3, F5, _, rel5, _, _, q3, fun G6 H6 F6 n6 e6 rel6 => ?_⟩
              subst e6
              have nn6 : Nx G1 G6 F1 F6 := n2.trans (n3.trans (n5.trans n6))
              cases b with
              | false =>
                rw [if_neg Bool.false_ne_true]
                simp only at e2
                obtain ⟨rel7, n7⟩ := rel6.wipe vs
                exact ⟨G6, F6.wipe vs, acc, nn6.trans n7, clean_wipe (ioF nn6), rel7.ofWipe (clean_wipe (ioF nn6)) hw, by rw [AF.wipe_er]; exact e2⟩
              | true =>
                rw [if_pos rfl]
                simp only at e2
                cases q4 : fe F6.er with
                | none => rw [q4] at e2; cases e2
                | some y4 =>
                  obtain ⟨r4, ρ4⟩ := y4
                  rw [q4] at e2
                  cases r4 with
                  | error ex => cases e2
                  | ok ev =>
                    cases ev with
                    | ptr j q => cases e2
                    | val t =>
                      simp only at e2
                      split at e2
                      · rename_i hsz
                        refine ⟨G6, F6, _, rel6, _, _, q4, fun G8 H8 F8 n8 e8 av rel8 ok8 ex8 => ?_⟩
                        subst e8
                        cases av with
                        | ptr j q v => cases ex8
                        | val a =>
                          cases ex8
                          have rel8 : Rel K G8 H8 σ5 F8 (a :: (.node (p, 0) .lst (acc.map fun t => (.none, t)) :: R)) := by simpa [AV.trees] using rel8
                          have sn : Seen K G8 H8 (.node (p, 0) .lst (acc.map fun t => (.none, t))) := rel8.ok.seen (by simp)
                          refine ⟨_, sn.lst, by simpa [vals] using hsz, ?_⟩
                          have rel9 : Rel K G8 H8 σ5 F8 (.node (p, 0) .lst (acc.map fun t => (.none, t)) :: ([a] ++ R)) := rel8.perm (U := []) (by rw [List.append_nil]; exact List.Perm.swap _ _ _)
                          have rel10 := rel9.mutR (U := []) (cs' := (acc ++ [a]).map fun t => (.none, t)) rfl rfl (by simp [Function.comp_def])
                          have ev : (vals ((acc ++ [a]).map fun t => ((.none : D), t))).map (·.2) = (vals (acc.map fun t => ((.none : D), t))).map (·.2) ++ [a.val] := by simp [vals]
                          rw [ev] at rel10
                          obtain ⟨rel11, n11⟩ := rel10.wipe vs
                          have nn8 : Nx G1 G8 F1 F8 := nn6.trans n8
                          exact ⟨G8, F8.wipe vs, acc ++ [a], nn8.trans n11, clean_wipe (ioF nn8), (by rw [List.map_append] at *; exact rel11.ofWipe (clean_wipe (ioF nn8)) hw), by rw [AF.wipe_er, List.map_append, List.map_singleton]; exact e2⟩
                      · cases e2
section
variable {X : Cx} {W : WX} {elt tg iter : Expr} {ifs : List Expr} {scope : Scope} {own : List (Str × Nat)} {pos spos py : Pos} {f : M (List D)} {g : TG} {asg : D → Fr → Option Fr} {is : List Nat} {fc : M Bool} {fe : M EV} {y : Str}
theorem PTs.imp {X : Cx} {es : List Expr} {t t' : TT} (h : PTs X es t) (k : ∀ σ H Q, t' σ H Q → t σ H Q) : PTs X es t' := ⟨fun pins s σ H Q I q => h.run pins s σ H Q I (k _ _ _ q)⟩
def DTs (X : Cx) (W : WX) (es : List Expr) (f : M Bool) : Prop := PTs X es (tDT X.K W f)
theorem dts_nil : DTs X W [] (M.ret true) := PTs.imp pts_nil fun σ H Q h => tDT_ret h
theorem dts_one {c : Expr} (h : DT X W c fc) : DTs X W [c] fc := pts_one h
theorem de_lc (hc : X.calm = true) (hN : X.N.Nodup) (hi : DI X W tg iter f) (ok : BlkOk X.N X.env.scope scope own) (ho : TgOk X.K g asg is) (his : ∀ i ∈ is, i ∈ own.map (·.2))
    (hg : ∀ (s : Shared) (H : Hp) (C : Addr) (cl : List (Str × Addr)) (fp : List Addr), PG (X.blk s H scope (compEnvC scope cl C X.env) fp) tg g)
    (ht : ∀ (s : Shared) (H : Hp) (C : Addr) (cl : List (Str × Addr)) (fp : List Addr), DTs (X.blk s H scope (compEnvC scope cl C X.env) fp) W0 ifs fc)
    (he : ∀ (s : Shared) (H : Hp) (C : Addr) (cl : List (Str × Addr)) (fp : List Addr), DE (X.blk s H scope (compEnvC scope cl C X.env) fp) W0 elt fe) (hs : ∀ x, foldedSetIterable iter X.env x = pure x := by intro _; rfl) :
    DE X W (.ListComp elt [⟨tg, iter, ifs, 0⟩] scope pos) (M.lc f asg (own.map (·.2)) fc fe) :=
  PE.imp (pe_lc (tt := tDT X.K W0 fc) (te := tD X.K W0 fe) hc hN hi ok hg ht he hs) fun σ H Q h => lc_run ho his h
theorem ds_setLc {i : Nat} (hc : X.calm = true) (hN : X.N.Nodup) (hy : X.N[i]? = some y) (hyl : X.env.scope.names.lookup y = some .local) (hsw : swapsWith (.ListComp elt [⟨tg, iter, ifs, 0⟩] scope pos) (some (.Name y py)) spos.line X.env = pure true)
    (hi : DI X W tg iter f) (ok : BlkOk X.N X.env.scope scope own) (ho : TgOk X.K g asg is) (his : ∀ i ∈ is, i ∈ own.map (·.2))
    (hg : ∀ (s : Shared) (H : Hp) (C : Addr) (cl : List (Str × Addr)) (fp : List Addr), PG (X.blk s H scope (compEnvC scope cl C X.env) fp) tg g)
    (ht : ∀ (s : Shared) (H : Hp) (C : Addr) (cl : List (Str × Addr)) (fp : List Addr), DTs (X.blk s H scope (compEnvC scope cl C X.env) fp) W0 ifs fc)
    (he : ∀ (s : Shared) (H : Hp) (C : Addr) (cl : List (Str × Addr)) (fp : List Addr), DE (X.blk s H scope (compEnvC scope cl C X.env) fp) W0 elt fe) (hs : ∀ x, foldedSetIterable iter X.env x = pure x := by intro _; rfl) :
    DS X W (.Assign [.Name y py] (.ListComp elt [⟨tg, iter, ifs, 0⟩] scope pos) spos) (M.fin (M.lc f asg (own.map (·.2)) fc fe) (gSet1 i)) :=
  PS.imp (ps_setLc (tt := tDT X.K W0 fc) (te := tD X.K W0 fe) hc hN hy hyl hsw hi ok hg ht he hs) fun D σ H h => lc_run (Q := fun x H1 => gName i x σ H1 D.nx) ho his (set1_run h)
end

/-! ### dict displays, their keys written texts -/
def trsOf (K : PySem.W.Frag) (W : WX) : List D → List (M EV) → List (TE × TE)
  | k :: ks, f :: fs => (tC (kV k.key), tD K W f) :: trsOf K W ks fs
  | _, _ => []
theorem pairs_run {K : PySem.W.Frag} {W : WX} {σ : L2.St} : ∀ {ks : List D} {fs : List (M EV)} {H : Hp} {Q : List (V × V) → Hp → Prop}, ks.length = fs.length → tAs (fs.map (tD K W)) σ H (fun vs H1 => Q ((ks.zip vs).map fun c => (kV c.1.key, c.2)) H1) → tPairs (trsOf K W ks fs) σ H Q
  | [], [], H, Q, _, h => h
  | k :: ks, f :: fs, H, Q, hl, h => by
    show tD K W f σ H fun y H2 => tPairs (trsOf K W ks fs) σ H2 fun ps H3 => Q ((kV k.key, y) :: ps) H3
    refine tD_mono (fun y H2 h2 => ?_) (show tD K W f σ H fun y H2 => tAs (fs.map (tD K W)) σ H2 fun vs H3 => Q (((k :: ks).zip (y :: vs)).map fun c => (kV c.1.key, c.2)) H3 from h)
    exact pairs_run (Q := fun ps H3 => Q ((kV k.key, y) :: ps) H3) (by simpa using hl) h2
def mkDict (ks : List D) (xs : List EV) : M EV := fun ρ => match treesOf xs with
  | none => none
  | some ts => some (.ok (.val (.node () .dct (ks.zip ts))), ρ)
def M.disp (ks : List D) (fs : List (M EV)) : M EV := M.bind (evalArgs fs) (mkDict ks)
theorem evalArgs_len : ∀ (fs : List (M EV)) (ρ : Fr) (xs : List EV) (ρ' : Fr), evalArgs fs ρ = some (.ok xs, ρ') → xs.length = fs.length := by
  intro fs
  induction fs with
  | nil => intro ρ xs ρ' h; cases h; rfl
  | cons f fs ih =>
    intro ρ xs ρ' h
    unfold evalArgs M.bind at h
    cases z : f ρ with
    | none => rw [z] at h; cases h
    | some y =>
      obtain ⟨r1, ρ1⟩ := y
      rw [z] at h
      cases r1 with
      | error ex => cases h
      | ok x =>
        simp only [M.hold] at h
        cases z2 : evalArgs fs (x.push ρ1) with
        | none => rw [z2] at h; cases h
        | some y2 =>
          obtain ⟨r2, ρ2⟩ := y2
          rw [z2] at h
          simp only at h
          cases z3 : x.pop ρ2 with
          | none => rw [z3] at h; cases h
          | some ρ3 =>
            rw [z3] at h
            cases r2 with
            | error ex => cases h
            | ok ys =>
              cases h
              simp [ih _ _ _ z2]
theorem merge_new : ∀ {l acc : List (Key × V)}, ((acc ++ l).map (·.1)).Nodup → mergeK acc l = acc ++ l
  | [], acc, _ => by simp [mergeK]
  | p :: l, acc, h => by
    have e : putK acc p.1 p.2 = acc ++ [p] := by
      unfold putK
      rw [if_neg]
      intro z
      rw [List.any_eq_true] at z
      obtain ⟨x, hx, ex⟩ := z
      rw [List.map_append, List.map_cons] at h
      have := (List.nodup_append.mp h).2.2 x.1 (List.mem_map.mpr ⟨x, hx, rfl⟩) p.1 (by simp)
      exact this (by simpa using ex)
    show mergeK (putK acc p.1 p.2) l = _
    rw [e, merge_new (by simpa using h)]
    simp
theorem disp_run {K : PySem.W.Frag} {W : WX} {ks : List D} {fs : List (M EV)} (hl : ks.length = fs.length) (hk : keysOk ks = true) (h15 : ks.length ≤ 15) {σ : L2.St} {H : Hp} {Q : VK} (h : tD K W (M.disp ks fs) σ H Q) : tDisp (trsOf K W ks fs) σ H Q := by
  obtain ⟨G, F, R, rel, r, ρ', e, k⟩ := h
  intro p hp
  have rel0 : Rel K G (upd H p (.dK [])) σ F (.node (p, 0) .dct [] :: R) := Rel.newNode (cs := []) (by simpa using rel) hp rfl
  refine pairs_run hl (args_run fs ?_)
  unfold M.disp M.bind at e
  cases q1 : evalArgs fs F.er with
  | none => rw [q1] at e; cases e
  | some y1 =>
    obtain ⟨r1, ρ1⟩ := y1
    rw [q1] at e
    cases r1 with
    | error ex =>
      cases e
      refine ⟨G, F, _, rel0, _, _, q1, fun G1 H1 F1 n1 e1 x d rl is => ?_⟩
      exact k G1 H1 F1 n1 e1 x d (rl.perm (U := [.node (p, 0) .dct []]) (by
        rw [List.append_assoc]
        exact (List.perm_append_comm (l₁ := R) (l₂ := [_])).append_left _)) is
    | ok xs =>
      refine ⟨G, F, _, rel0, _, _, q1, fun G1 H1 F1 n1 e1 as rel1 ok1 ex1 => ?_⟩
      subst e1
      simp only [mkDict] at e
      cases q2 : treesOf xs with
      | none => rw [q2] at e; cases e
      | some ts =>
        rw [q2] at e
        cases e
        subst ex1
        obtain ⟨t1, t2⟩ := of_trees q2
        have sn : Seen K G1 H1 (.node (p, 0) .dct []) := rel1.ok.seen (by simp)
        have len : (avs as).length = ks.length := by
          have h1 := evalArgs_len _ _ _ _ q1
          have h2 := congrArg List.length t2
          simp only [List.length_map] at h1 h2
          omega
        have ek : (ks.zip (avs as)).map (·.1) = ks := by
          rw [show (fun x : D × A => x.1) = Prod.fst from rfl, List.map_fst_zip (by omega)]
        have ev : vals (ks.zip (avs as)) = ks.zip (as.map AV.v) := by
          rw [← t2]
          unfold vals
          rw [List.zip_map_right]
          apply List.map_congr_left
          intro x _
          rfl
        refine ⟨sn.dct.2, kvOf (ks.zip (as.map AV.v)), ?_, ?_, ?_⟩
        · unfold kvOf
          rw [List.map_map]
          rfl
        · unfold kvOf
          rw [List.length_map, List.length_zip]
          omega
        · have hkk : keysOk ((vals (ks.zip (avs as))).map (·.1)) = true := by rw [vals_fst, ek]; exact hk
          have hm : mergeK [] (kvOf (ks.zip (as.map AV.v))) = kvOf (vals (ks.zip (avs as))) := by
            rw [ev, merge_new]
            · rfl
            · rw [List.nil_append, kvOf_keys, ← ev, vals_fst, ek]
              exact keysOk_nd hk
          rw [hm]
          have rel2 : Rel K G1 H1 σ F1 (.node (p, 0) .dct [] :: (avs as ++ R)) := rel1.perm (U := []) (by rw [List.append_nil]; exact List.perm_middle.symm)
          have e3 : (ks.zip (avs as)).map (·.2) = avs as := by
            rw [show (fun x : D × A => x.2) = Prod.snd from rfl, List.map_snd_zip (by omega)]
          have rel3 := rel2.mutR (U := []) (cs' := ks.zip (avs as)) rfl (nodeObjs_dct hkk) (by rw [e3]; simp)
          refine k G1 _ F1 n1 rfl (.val (.node (p, 0) .dct (ks.zip (avs as)))) (by simpa [AV.trees] using rel3) trivial ?_
          rw [AV.er, er, ers_map, ← t1, List.zip_map_right]
          congr 2
section
variable {X : Cx} {W : WX} {pos p : Pos} {ks : List D} {fs : List (M EV)}
theorem dps_nil : PPs X pos [] [] (trsOf X.K W [] []) := pps_nil
theorem dps_str {x : Str} {j : Nat} {v : Expr} {f : M EV} {keys : List (Option Expr)} {values : List Expr} (hv : DE X W v f) (hr : PPs X pos keys values (trsOf X.K W ks fs)) :
    PPs X pos (some (.Constant (.str x) j p) :: keys) (v :: values) (trsOf X.K W (.str x :: ks) (f :: fs)) := pps_cons pe_str hv hr
theorem de_disp {keys : List (Option Expr)} {values : List Expr} (h : PPs X pos keys values (trsOf X.K W ks fs)) (hk : keysOk ks = true := by decide +kernel) (hlen : ks.length = fs.length := by rfl) (h15' : ks.length ≤ 15 := by decide)
    (hall : keys.all (·.isSome) = true := by rfl) (hl : keys.length = values.length := by rfl) (h0 : keys ≠ [] := by intro z; cases z) (h15 : keys.length ≤ 15 := by decide) : DE X W (.Dict keys values pos) (M.disp ks fs) :=
  PE.imp (pe_disp h hall hl h0 h15) fun σ H Q q => disp_run hlen hk h15' q
end
end LT

/-! LA18: what is moved, what is frozen ahead of a statement; calls by name; chained comparisons. -/
namespace LT
open PySem PySem.Spec L2

/-! ### move -/
theorem wipe_one {sl : List AS} {j : Nat} : wipeL .emp (AS.wipe [j]) [j] 0 sl = wipeL .emp (AS.wipe [j]) [j] 0 (sl.set j .emp) := by
  apply List.ext_getElem?
  intro i
  rw [wipeL_get, wipeL_get, Nat.zero_add]
  by_cases h : i = j
  · subst h
    by_cases hl : i < sl.length
    · rw [List.getElem?_set_self hl, List.getElem?_eq_getElem hl]
      simp
    · rw [List.getElem?_eq_none (by simpa using hl), List.getElem?_eq_none (by simpa using hl)]
  · rw [List.getElem?_set_ne (Ne.symm h)]
theorem Rel.moved {K : PySem.W.Frag} {G H : Hp} {σ : L2.St} {F : AF} {R : List A} {j : Nat} {a : A} (r : Rel K G H σ F R) (hj : F.sl[j]? = some (.own a)) (hio : F.er.io.contains j = false) : Rel K G H σ (F.wipe [j]) (a :: R) ∧ Nx G G F (F.wipe [j]) := by
  obtain ⟨r1, n1⟩ := r.wipe [j]
  refine ⟨⟨?_, r1.len, r1.own, r1.al, r1.tm, r1.io⟩, n1⟩
  have hw : wsOf (F.io.map (·.1)) [j] = [j] := wsOf_free (by
    rw [List.any_eq_false]
    intro x hx
    rw [List.contains_iff_mem, List.mem_singleton]
    intro e
    subst e
    have : F.er.io.contains x = true := by rw [List.contains_iff_mem]; exact hx
    rw [this] at hio; cases hio)
  have e : (F.wipe [j]).sl = wipeL .emp (AS.wipe [j]) [j] 0 (F.sl.set j .emp) := by
    show wipeL .emp (AS.wipe (wsOf (F.io.map (·.1)) [j])) (wsOf (F.io.map (·.1)) [j]) 0 F.sl = _
    rw [hw, wipe_one]
  obtain ⟨U, hU⟩ := owns_wipe (ws := [j]) (n := 0) (l := F.sl.set j .emp)
  have ho := owns_out hj
  refine OkT.perm (U := U) r.ok ?_
  rw [e]
  have h1 : (owns (wipeL .emp (AS.wipe [j]) [j] 0 (F.sl.set j .emp)) ++ a :: R ++ U).Perm ((a :: (owns (wipeL .emp (AS.wipe [j]) [j] 0 (F.sl.set j .emp)) ++ U)) ++ R) := by
    refine (List.perm_middle.append_right U).trans ?_
    simp only [List.cons_append, List.append_assoc]
    exact (List.perm_append_comm.append_left _).cons a
  exact h1.trans (((hU.cons a).trans ho).append_right R)
def gMove (x : EV) (ρ : Fr) : Option (EV × Fr) := match x with
  | .val t => some (.val t, ρ)
  | .ptr j p => match p with
    | [] => if ρ.io.contains j = true then none else match ρ.sl[j]? with
      | some (.own t) => some (.val t, ρ.wipe [j])
      | _ => none
    | q :: p => gFrz (.ptr j (q :: p)) ρ
theorem move_ok {K : PySem.W.Frag} : GhostOk K gMove := by
  intro G H σ F R av ev' ρ' rel ok e
  cases av with
  | val a =>
    cases e
    exact ⟨G, F, .val a, Nx.refl _ _, rfl, rfl, rfl, trivial, rel⟩
  | ptr j p v =>
    cases p with
    | cons q p => exact frz_ok G H σ F R _ _ _ rel ok e
    | nil =>
      rw [show AV.er (.ptr j [] v) = .ptr j [] from rfl] at e
      simp only [gMove] at e
      split at e
      · cases e
      · rename_i hio
        obtain ⟨a, c, h1, h2, h3⟩ := id ok
        rw [sl_er, h1] at e
        cases e
        rw [TR.at_nil] at h2
        cases h2
        have relR : Rel K G H σ F R := by simpa [AV.trees] using rel
        obtain ⟨r1, n1⟩ := relR.moved h1 (by simpa using hio)
        exact ⟨G, F.wipe [j], .val a, n1, AF.wipe_er _ _, rfl, h3, trivial, by simpa [AV.trees] using r1⟩
theorem de_move {X : Cx} {W : WX} {e : Expr} {f : M EV} (h : DE X W e f) : DE X W e (M.ghost gMove f) := de_ghost move_ok h

/-! ### ahead of a statement -/
def GhostF (K : PySem.W.Frag) (g : Fr → Option Fr) : Prop := ∀ (G H : Hp) (σ : L2.St) (F : AF) (R : List A) (ρ' : Fr), Rel K G H σ F R → g F.er = some ρ' → ∃ G' F', Nx G G' F F' ∧ F'.er = ρ' ∧ Rel K G' H σ F' R
def M.pre (g : Fr → Option Fr) (f : M SO) : M SO := fun ρ => match g ρ with
  | none => none
  | some ρ' => f ρ'
section
variable {X : Cx} {W : WX} {g : Fr → Option Fr} {f : M SO}
theorem pre_run {K : PySem.W.Frag} (hg : GhostF K g) {D : Ends} {σ : L2.St} {H : Hp} (h : tDS K W (M.pre g f) D σ H) : tDS K W f D σ H := by
  obtain ⟨G, F, R, r, ρ', rel, e, k⟩ := tDS_to h
  unfold M.pre at e
  cases q : g F.er with
  | none => rw [q] at e; cases e
  | some ρ1 =>
    rw [q] at e
    obtain ⟨G1, F1, n1, e1, rel1⟩ := hg G H σ F R ρ1 rel q
    subst e1
    exact tDS_of rel1 e fun G2 H2 F2 σ2 n2 e2 => k G2 H2 F2 σ2 (n1.trans n2) e2
theorem ds_pre {st : Stmt} (hg : GhostF X.K g) (h : DS X W st f) : DS X W st (M.pre g f) := PS.imp h fun D σ H q => pre_run hg q
theorem dss_pre {sts : List Stmt} (hg : GhostF X.K g) (h : DSs X W sts f) : DSs X W sts (M.pre g f) := PSs.imp h fun D σ H q => pre_run hg q
end
/-- the slots ws are forgotten -/
def gWipe (ws : List Nat) (ρ : Fr) : Option Fr := some (ρ.wipe ws)
theorem wipe_ok {K : PySem.W.Frag} {ws : List Nat} : GhostF K (gWipe ws) := fun G H σ F R ρ' rel e => by
  cases e
  obtain ⟨r1, n1⟩ := rel.wipe ws
  exact ⟨G, F.wipe ws, n1, AF.wipe_er _ _, r1⟩

/-! ### calls by name -/
structure Cal (P : Program) (w : World) (K : PySem.W.Frag) (mg : Str → Option Value) (base : Heap) (k : Nat) (x : Str) (ps : List Str) (io : List Nat) (FF : FD) : Prop where
  ex : ∃ f fd, FnOk P w K mg base (L2.CX P w) k f fd ps (spD K ps.length io FF) ∧ mg x = some (.ref f) ∧ PySem.W.keepIn K (.ref f) = true ∧ Binds K fd ps []
theorem Cal.mono {P : Program} {w : World} {K : PySem.W.Frag} {mg : Str → Option Value} {base : Heap} {j k : Nat} {x : Str} {ps : List Str} {io : List Nat} {FF : FD} (c : Cal P w K mg base j x ps io FF) (h : j ≤ k) : Cal P w K mg base k x ps io FF := by
  obtain ⟨f, fd, h1, h2⟩ := c.ex
  exact ⟨f, fd, h1.mono h, h2⟩
theorem Cal.none {P : Program} {w : World} {K : PySem.W.Frag} {mg : Str → Option Value} {base : Heap} {k : Nat} {x : Str} {ps : List Str} {io : List Nat} {f : Addr} {fd : FuncData} (hm : mg x = some (.ref f)) (hk : PySem.W.keepIn K (.ref f) = true) (hb : Binds K fd ps []) :
    Cal P w K mg base k x ps io (fun _ => Option.none) :=
  ⟨f, fd, ⟨fun vs H Q E h => (by obtain ⟨_, _, _, _, _, _, _, _, e, _⟩ := h; cases e), fun A outer s H args us vs Q E _ _ _ _ h => (by obtain ⟨_, _, _, _, _, _, _, _, e, _⟩ := h; cases e)⟩, hm, hk, hb⟩
section
variable {X : Cx} {W : WX} {k : Nat} {ps : List Str} {FF : FD} {io : List Nat} {x : Str} {p pos : Pos} {e : Expr} {es : List Expr} {fs : List (M EV)}
theorem de_cal (c : Cal X.prog X.w X.K X.mg X.base k x ps io FF) (hr : Room k X.A) (tk : Takes X W) (hg : Gl X x) (ha : DAs X W (e :: es) fs) (hn : fs.length = ps.length := by rfl) (hdb : (x == ("__debug__" : Str)) = false := by decide)
    (he : starEach (e :: es) X.env = (false, eval e X.env) :: starEach es X.env := by rfl) (hpl : (backTo pos (starEach es X.env)).any (·.1) = false := by rfl) : DE X W (.Call (.Name x p) (e :: es) [] pos) (M.call FF io fs) := by
  obtain ⟨f, fd, h1, h2, h3, h4⟩ := c.ex
  exact de_call h1 hr tk hg h2 h3 h4 ha hn hdb he hpl
end

end LT

/-! LA19: the tape, the law. -/
namespace LT
open PySem PySem.Spec L2

/-- a script -/
structure Script (ns : List Int) : Prop where
  len : ns.length ≤ 63
  bits : ∀ z ∈ ns, Builtin.Int.intBits z ≤ 1048576
def iabs (z : Int) : Int := if z < 0 then -z else z
def seedOf (ns : List Int) : Int := ns.foldl (fun s z => (s * 31 + iabs z) % 2147483647) 7
def kCells : D := .str "cells"
def kAt : D := .str "at"
def kLeft : D := .str "left"
def kSeed : D := .str "seed"
def kSalt : D := .str "salt"
@[reducible] def lf (d : D) : T := .leaf (some d)
def tapeT (cells : List Int) (pos left seed salt : Int) : T := .node () .dct [(kCells, lf (.list (cells.map .int))), (kAt, lf (.int pos)), (kLeft, lf (.int left)), (kSeed, lf (.int seed)), (kSalt, lf (.int salt))]
def tape0 (ns : List Int) : T := tapeT (ns.map iabs) 0 0 (seedOf ns) 0
def spTape (K : PySem.W.Frag) : Sp := fun vs H Q _ => ∃ (a : Addr) (ns : List Int), vs = [.ref a] ∧ SqL K H a (ns.map V.int) ∧ Script ns ∧ ∀ (G' H' : Hp) (t : A), OkT K G' H' [t] → er t = tape0 ns → Q t.val H'
def spLaw (K : PySem.W.Frag) : Sp := fun vs H Q _ => ∃ (a : Addr) (ns : List Int), vs = [.ref a] ∧ SqL K H a (ns.map V.int) ∧ Script ns ∧ ∀ H', Q (.bl true) H'

/-- what of the script must stay -/
def scrG (H : Hp) (a : Addr) : Hp := fun b => if b = a then H a else none
theorem scr_sq {K : PySem.W.Frag} {H G' H' : Hp} {a : Addr} {xs : List V} (h : SqL K H a xs) (s : Same (scrG H a) G') (sb : Sub G' H') : SqL K H' a xs := by
  rcases h with (h | ⟨o, h⟩) | h
  · have h1 : G' a = some (.lst xs) := s _ _ (by unfold scrG; rw [if_pos rfl]; exact h)
    exact .inl (.inl (sb _ _ h1))
  · have h1 : G' a = some (.frz o (.lst xs)) := s _ _ (by unfold scrG; rw [if_pos rfl]; exact h)
    exact .inl (.inr ⟨o, sb _ _ h1⟩)
  · exact .inr h
theorem scr_sub {H : Hp} {a : Addr} : Sub (scrG H a) H := fun b o h => by
  unfold scrG at h
  split at h
  · rename_i e; subst e; exact h
  · cases h
def cellN (p : Addr) (zs : List Int) : A := .node (p, 0) .lst (zs.map fun z => (.none, .leaf (some (.int z), .int z)))
theorem cellN_nodes (p : Addr) (zs : List Int) : nodes (cellN p zs) = [(p, some (.lst (zs.map V.int)))] := by
  show nodeObjs .lst (p, 0) _ ++ nodesL _ = _
  rw [nodesL_zip]
  have : allN ((zs.map fun z => ((.none : D), (TR.leaf (some (.int z), V.int z) : A))).map (·.2)) = [] := by
    induction zs with
    | nil => rfl
    | cons z zs ih => simp only [List.map_cons, allN_cons, LT.nodes, List.nil_append]; exact ih
  rw [this]
  simp [nodeObjs, vals, TR.val, Function.comp_def]
theorem cellN_leaves {K : PySem.W.Frag} {G : Hp} (p : Addr) (zs : List Int) : ∀ l ∈ leaves (cellN p zs), ∀ x, l.1 = some x → RepD K G x l.2 := by
  show ∀ l ∈ leavesL _, _
  rw [leavesL_zip]
  intro l hl x ex
  obtain ⟨c, hc, hl⟩ := List.mem_flatMap.mp hl
  simp only [List.map_map, List.mem_map, Function.comp] at hc
  obtain ⟨z, _, rfl⟩ := hc
  simp only [LT.leaves, List.mem_singleton] at hl
  subst hl
  cases ex
  exact .int z
theorem one_frame {sl : List AS} {m : Nat} : True := trivial
/-- the frame of the comprehension's turn: the cell alone -/
def cellF (n ic : Nat) (z : Int) : AF := ⟨(List.replicate n AS.emp).set ic (.own (.leaf (some (.int z), .int z))), [], []⟩
theorem set_own {n ic i : Nat} {a b : A} (h : ((List.replicate n AS.emp).set ic (.own a))[i]? = some (.own b)) : i = ic ∧ a = b ∧ ic < n := by
  by_cases hi : ic = i
  · subst hi
    by_cases hl : ic < n
    · rw [List.getElem?_set_self (by simpa using hl)] at h
      cases h; exact ⟨rfl, rfl, hl⟩
    · rw [List.getElem?_eq_none (by simpa using hl)] at h; cases h
  · rw [List.getElem?_set_ne hi, List.getElem?_replicate] at h
    split at h <;> cases h
theorem set_al {n ic i j : Nat} {a : A} {p : List D} {v : V} (h : ((List.replicate n AS.emp).set ic (.own a))[i]? = some (.al j p v)) : False := by
  by_cases hi : ic = i
  · subst hi
    by_cases hl : ic < n
    · rw [List.getElem?_set_self (by simpa using hl)] at h
      cases h
    · rw [List.getElem?_eq_none (by simpa using hl)] at h; cases h
  · rw [List.getElem?_set_ne hi, List.getElem?_replicate] at h
    split at h <;> cases h
theorem owns_one {n ic : Nat} {a : A} (h : ic < n) : owns ((List.replicate n AS.emp).set ic (.own a)) = [a] := by
  have e : (List.replicate n AS.emp)[ic]? = some .emp := by simp [h]
  obtain ⟨P, Q, o1, o2⟩ := owns_set e
  have o0 : owns (List.replicate n AS.emp) = [] := by
    have := owns_start [] n
    simpa using this
  rw [o0] at o1
  simp only [AS.trees, List.nil_append] at o1
  have hP : P = [] := by cases P with | nil => rfl | cons x P => cases o1
  have hQ : Q = [] := by subst hP; exact o1.symm
  rw [o2, hP, hQ]; rfl
theorem tape_lc {K : PySem.W.Frag} {ic : Nat} {fe : M EV} {σ : L2.St} {H : Hp} {Q : VK} {a : Addr} {ns : List Int} (hic : ic < σ.length) (h0 : σ[0]? = some (some (.ref a))) (sq : SqL K H a (ns.map V.int)) (hl : ns.length ≤ 63)
    (hfe : ∀ (n : Nat) (z : Int), ic < n → fe (cellF n ic z).er = some (.ok (.d (.int (iabs z))), (cellF n ic z).er))
    (k : ∀ (p : Addr) (G' H' : Hp), Same (scrG H a) G' → OkT K G' H' [cellN p (ns.map iabs)] → Q (.ref p) H') : tLc (iList K (tVar 0)) (gName ic) tYes (tD K W0 fe) [ic] σ H Q := by
  refine ⟨_, h0, a, rfl, ⟨_, sq⟩, fun p hp => ?_⟩
  refine lc_list (xs := ns.map V.int) (fun i H' => ∃ G', Same (scrG H a) G' ∧ OkT K G' H' [cellN p ((ns.take i).map iabs)]) ⟨scrG H a, Same.refl _, ?_⟩ (fun i H' _ ⟨G', s, ok⟩ => scr_sq sq s ok.sub) (fun i x H' hx ⟨G', s, ok⟩ => ?_) (fun H' ⟨G', s, ok⟩ => ?_)
  · refine ⟨fun b o h => ?_, fun n q => ?_, fun l q => ?_, fun b => ?_, fun n q => ?_⟩
    · have h := scr_sub _ _ h
      rw [upd_ne (fun z => by rw [z, hp] at h; cases h)]
      exact h
    · rw [show allN [cellN p ((ns.take 0).map iabs)] = nodes (cellN p ((ns.take 0).map iabs)) ++ [] from rfl, cellN_nodes] at q
      simp at q
      subst q
      exact ⟨_, rfl, by simp [upd]⟩
    · exact cellN_leaves p _ l (by simpa [allL] using q)
    · rw [show allN [cellN p ((ns.take 0).map iabs)] = nodes (cellN p ((ns.take 0).map iabs)) ++ [] from rfl, cellN_nodes]
      simp [cnt_cons, cnt]
      split <;> omega
    · rw [show allN [cellN p ((ns.take 0).map iabs)] = nodes (cellN p ((ns.take 0).map iabs)) ++ [] from rfl, cellN_nodes] at q
      simp at q
      subst q
      unfold scrG
      split
      · rename_i e; rw [← e]; exact hp
      · rfl
  · obtain ⟨z, hz, rfl⟩ := get_of_map hx
    have hlt := (List.getElem?_eq_some_iff.mp hz).1
    have e1 : (L2.wipe σ [ic]).set ic (some (.int z)) = σ.set ic (some (.int z)) := by
      show (σ.set ic none).set ic _ = _
      rw [List.set_set]
    show L2.wipe ((L2.wipe σ [ic]).set ic (some (.int z))) [ic] = L2.wipe σ [ic] ∧ _
    rw [e1]
    refine ⟨by show (σ.set ic _).set ic none = σ.set ic none; rw [List.set_set], ?_⟩
    unfold L2.tYes
    refine L2.iteT ?_
    have rel : Rel K G' H' (σ.set ic (some (.int z))) (cellF σ.length ic z) [cellN p ((ns.take i).map iabs)] := by
      refine ⟨?_, by simp [cellF], fun i' b hb => ?_, fun i' j q v hb => ?_, fun j q v hb => by simp [cellF] at hb, fun x hx => by simp [cellF] at hx⟩
      · show OkT K G' H' (owns ((List.replicate σ.length AS.emp).set ic _) ++ _)
        rw [owns_one hic]
        refine ⟨ok.sub, fun n q => ok.nodes n (by simpa [LT.nodes] using q), fun l q x ex => ?_, fun b => by simpa [LT.nodes] using ok.one b, fun n q => ok.free n (by simpa [LT.nodes] using q)⟩
        have q : l ∈ leaves (.leaf (some (.int z), V.int z)) ++ allL [cellN p ((ns.take i).map iabs)] := q
        simp only [LT.leaves, List.mem_append, List.mem_singleton] at q
        rcases q with q | q
        · subst q; cases ex; exact .int z
        · exact ok.leaves l q x ex
      · obtain ⟨rfl, rfl, hl⟩ := set_own hb
        rw [List.getElem?_set_self hl]; rfl
      · exact (set_al hb).elim
    refine ⟨G', _, _, rel, _, _, hfe _ _ hic, fun G2 H2 F2 n2 e2 av rel2 ok2 ex2 => ?_⟩
    obtain ⟨v, rfl⟩ := avd ex2
    have rv : RepD K G2 (.int (iabs z)) v := rel2.ok.leaves (some (.int (iabs z)), v) (by simp [AV.trees, leaves]) _ rfl
    cases rv
    have rel3 : Rel K G2 H2 (σ.set ic (some (.int z))) F2 (cellN p ((ns.take i).map iabs) :: ([.leaf (some (.int (iabs z)), .int (iabs z))] ++ [])) := rel2.perm (U := []) (by
      simp only [AV.trees, List.append_nil, List.cons_append, List.nil_append]
      exact List.Perm.swap _ _ _)
    have sn : Seen K G2 H2 (cellN p ((ns.take i).map iabs)) := rel2.ok.seen (by simp)
    have et : ns.take (i + 1) = ns.take i ++ [z] := by
      rw [List.take_succ, hz]; rfl
    have ev : ∀ l : List Int, (vals (l.map fun z => ((.none : D), (TR.leaf (some (.int z), V.int z) : A)))).map (·.2) = l.map V.int := fun l => by simp [vals, TR.val, Function.comp_def]
    refine ⟨_, sn.lst, ?_, G2, Same.trans s n2.same, ?_⟩
    · rw [ev]
      simp
      have : sizeLine = sizeLine := rfl
      have h1 : min i ns.length ≤ 63 := by omega
      exact Nat.lt_of_le_of_lt h1 (by rw [sizeLine_eq]; decide)
    · have rel4 := rel3.mutR (U := []) (k := .lst) (n := (p, 0)) (cs' := ((ns.take (i + 1)).map iabs).map fun z => ((.none : D), (TR.leaf (some (.int z), V.int z) : A))) (o' := .lst (((ns.take (i + 1)).map iabs).map V.int)) (E := []) rfl (by
          show [((p : Addr), some (HO.lst _))] = _
          rw [ev]) (by rw [et]; simp [Function.comp_def])
      rw [ev]
      have e5 : ((ns.take i).map iabs).map V.int ++ [V.int (iabs z)] = ((ns.take (i + 1)).map iabs).map V.int := by rw [et]; simp
      rw [show (AV.val (.leaf (some (.int (iabs z)), V.int (iabs z)))).v = V.int (iabs z) from rfl, e5]
      exact OkT.right (ts := owns F2.sl) rel4.ok
  · rw [List.length_map] at ok
    rw [List.take_length] at ok
    exact k p G' H' s ok
theorem tape_fn {P : Program} {w : World} {K : PySem.W.Frag} {mg : Str → Option Value} {base : Heap} {x qual : Str} {st : Stmt} {f : Addr} {fd : FuncData} {N : List Str} {k : Nat} {y : Str} (Fn : Fun K x qual st f fd) (Sc : FnScope N [y] (defScope st))
    {c0 : Stmt} {rest : List Stmt} (hbody : defBody st = c0 :: rest) {fM : M SO} {fe : M EV} {ic : Nat} {m : Nat} (hN : N.length = m + 2) (hic : ic < N.length) (hic2 : 2 ≤ ic)
    (hfe : ∀ (n : Nat) (z : Int), ic < n → fe (cellF n ic z).er = some (.ok (.d (.int (iabs z))), (cellF n ic z).er))
    (h : ∀ (cdv : Value) (A : Around) (outer : List Env) (s : Shared) (H : Hp) (E : XK), Room k (A.deeper (PyProof.Rows.envOfC qual (defScope st) s.heap.objs.size f cdv)) →
      PS (cxOf (L2.CX P w) P w K mg base N qual (defScope st) f cdv A outer s H E) c0 (tAsg (tLc (iList K (tVar 0)) (gName ic) tYes (tD K W0 fe) [ic]) (gName 1)) ∧
      DSs (cxOf (L2.CX P w) P w K mg base N qual (defScope st) f cdv A outer s H E) (fun cls d _ H' => E cls d H') rest fM)
    (den : ∀ ns, Script ns → ∃ ρ', fM ⟨[.own (.leaf none), .own (.node () .lst ((ns.map iabs).map fun z => (.none, lf (.int z))))] ++ List.replicate m .emp, [], []⟩ = some (.ok (.ret (tape0 ns)), ρ')) :
    FnOk P w K mg base (L2.CX P w) (k + 1) f fd [y] (spTape K) := by
  refine Fn.okX Sc (fun vs H Q E h => ?_) (fun cdv A' outer s H vs Q E hr h' => ?_)
  · obtain ⟨a, ns, rfl, _⟩ := h
    rfl
  · obtain ⟨a, ns, rfl, sq, hs, kk⟩ := h'
    obtain ⟨h1, h2⟩ := h cdv A' outer s H E hr
    rw [hbody]
    refine ⟨_, pss_cons h1 h2, ?_⟩
    have hst : L2.start N [V.ref a] = some (.ref a) :: List.replicate (m + 1) none := by
      unfold L2.start
      rw [hN]
      rfl
    rw [hst]
    refine (id : tLc (iList K (tVar 0)) (gName ic) tYes (tD K W0 fe) [ic] (some (.ref a) :: List.replicate (m + 1) none) H (fun x H1 => gName 1 x (some (.ref a) :: List.replicate (m + 1) none) H1 (tDS K (fun cls d _ H' => E cls d H') fM { nx := fun _ H' => Q .non H', rt := Q })) → _) ?_
    refine tape_lc (σ := some (.ref a) :: List.replicate (m + 1) none) (by simp only [List.length_cons, List.length_replicate]; omega) rfl sq hs.len hfe fun p G' H' s' ok => ?_
    obtain ⟨ρ', e⟩ := den ns hs
    show tDS K _ fM _ _ _
    have e0 : (AF.mk ([AS.own (.leaf (none, .ref a)), AS.own (cellN p (ns.map iabs))] ++ List.replicate m .emp) [] []).er = ⟨[.own (.leaf none), .own (.node () .lst ((ns.map iabs).map fun z => (.none, lf (.int z))))] ++ List.replicate m .emp, [], []⟩ := by
      unfold AF.er
      simp only [List.map_append, List.map_cons, List.map_nil, List.map_replicate, AS.er, er, cellN, ers_map, List.map_map]
      rfl
    refine tDS_of (G := G') (F := ⟨[AS.own (.leaf (none, .ref a)), AS.own (cellN p (ns.map iabs))] ++ List.replicate m .emp, [], []⟩) (R := []) ?_ (by rw [e0]; exact e) fun G2 H2 F2 σ2 n2 e2 => ?_
    · refine ⟨?_, by simp, fun i b hb => ?_, fun i j q v hb => ?_, fun j q v hb => by simp at hb, fun x hx => by simp at hx⟩
      · have : owns ([AS.own (.leaf (none, .ref a)), AS.own (cellN p (ns.map iabs))] ++ List.replicate m .emp) = [.leaf (none, .ref a), cellN p (ns.map iabs)] := by
          have := owns_start [.leaf (none, .ref a), cellN p (ns.map iabs)] m
          simpa using this
        rw [this]
        refine ⟨ok.sub, fun n q => ok.nodes n (by simpa [LT.nodes] using q), fun l q x ex => ?_, fun b => by simpa [LT.nodes] using ok.one b, fun n q => ok.free n (by simpa [LT.nodes] using q)⟩
        simp only [List.append_nil, allL_cons, LT.leaves, List.mem_append, List.mem_singleton] at q
        rcases q with q | q
        · subst q; cases ex
        · exact ok.leaves l (by simpa using q) x ex
      · match i with
        | 0 => cases hb; rfl
        | 1 => cases hb; rfl
        | i + 2 =>
          simp only [List.cons_append, List.nil_append, List.getElem?_cons_succ, List.getElem?_replicate] at hb
          split at hb <;> cases hb
      · match i with
        | 0 => cases hb
        | 1 => cases hb
        | i + 2 =>
          simp only [List.cons_append, List.nil_append, List.getElem?_cons_succ, List.getElem?_replicate] at hb
          split at hb <;> cases hb
    · intro t rel2 et
      exact kk G2 H2 t (OkT.right (ts := owns F2.sl) rel2.ok) et
theorem law_fn {P : Program} {w : World} {K : PySem.W.Frag} {mg : Str → Option Value} {base : Heap} {x qual : Str} {st : Stmt} {f : Addr} {fd : FuncData} {N : List Str} {k : Nat} {y : Str} (Fn : Fun K x qual st f fd) (Sc : FnScope N [y] (defScope st))
    {c0 : Stmt} {rest : List Stmt} (hbody : defBody st = c0 :: rest) {fM : M SO} {m : Nat} (hN : N.length = m + 2)
    (h : ∀ (cdv : Value) (A : Around) (outer : List Env) (s : Shared) (H : Hp) (E : XK), Room k (A.deeper (PyProof.Rows.envOfC qual (defScope st) s.heap.objs.size f cdv)) →
      PS (cxOf (L2.CX P w) P w K mg base N qual (defScope st) f cdv A outer s H E) c0 (tAsg (tCallS (spTape K) (WE (fun cls d _ H' => E cls d H')) (tCons (tVar 0) tNil)) (gName 1)) ∧
      DSs (cxOf (L2.CX P w) P w K mg base N qual (defScope st) f cdv A outer s H E) (fun cls d _ H' => E cls d H') rest fM)
    (den : ∀ ns, Script ns → ∃ ρ', fM ⟨[.own (.leaf none), .own (tape0 ns)] ++ List.replicate m .emp, [], []⟩ = some (.ok (.ret (lf (.bool true))), ρ')) :
    FnOk P w K mg base (L2.CX P w) (k + 1) f fd [y] (spLaw K) := by
  refine Fn.okX Sc (fun vs H Q E h => ?_) (fun cdv A' outer s H vs Q E hr h' => ?_)
  · obtain ⟨a, ns, rfl, _⟩ := h
    rfl
  · obtain ⟨a, ns, rfl, sq, hs, kk⟩ := h'
    obtain ⟨h1, h2⟩ := h cdv A' outer s H E hr
    rw [hbody]
    refine ⟨_, pss_cons h1 h2, ?_⟩
    have hst : L2.start N [V.ref a] = some (.ref a) :: List.replicate (m + 1) none := by
      unfold L2.start
      rw [hN]
      rfl
    rw [hst]
    refine ⟨_, rfl, a, ns, rfl, sq, hs, fun G' H' t ok et => ?_⟩
    obtain ⟨ρ', e⟩ := den ns hs
    show tDS K _ fM _ _ _
    have e0 : (AF.mk ([AS.own (.leaf (none, .ref a)), AS.own t] ++ List.replicate m .emp) [] []).er = ⟨[.own (.leaf none), .own (tape0 ns)] ++ List.replicate m .emp, [], []⟩ := by
      unfold AF.er
      simp only [List.map_append, List.map_cons, List.map_nil, List.map_replicate, AS.er, er, et]
    refine tDS_of (G := G') (F := ⟨[AS.own (.leaf (none, .ref a)), AS.own t] ++ List.replicate m .emp, [], []⟩) (R := []) ?_ (by rw [e0]; exact e) fun G2 H2 F2 σ2 n2 e2 => ?_
    · refine ⟨?_, by simp, fun i b hb => ?_, fun i j q v hb => ?_, fun j q v hb => by simp at hb, fun x hx => by simp at hx⟩
      · have : owns ([AS.own (.leaf (none, .ref a)), AS.own t] ++ List.replicate m .emp) = [.leaf (none, .ref a), t] := by
          have := owns_start [.leaf (none, .ref a), t] m
          simpa using this
        rw [this]
        refine ⟨ok.sub, fun n q => ok.nodes n (by simpa [LT.nodes] using q), fun l q x ex => ?_, fun b => by simpa [LT.nodes] using ok.one b, fun n q => ok.free n (by simpa [LT.nodes] using q)⟩
        simp only [List.append_nil, allL_cons, LT.leaves, List.mem_append, List.mem_singleton] at q
        rcases q with q | q
        · subst q; cases ex
        · exact ok.leaves l (by simpa using q) x ex
      · match i with
        | 0 => cases hb; rfl
        | 1 => cases hb; rfl
        | i + 2 =>
          simp only [List.cons_append, List.nil_append, List.getElem?_cons_succ, List.getElem?_replicate] at hb
          split at hb <;> cases hb
      · match i with
        | 0 => cases hb
        | 1 => cases hb
        | i + 2 =>
          simp only [List.cons_append, List.nil_append, List.getElem?_cons_succ, List.getElem?_replicate] at hb
          split at hb <;> cases hb
    · intro t2 rel2 et2
      obtain ⟨v, rfl⟩ := er_leaf et2
      have rv : RepD K G2 (.bool true) v := rel2.ok.leaves (some (.bool true), v) (by simp [leaves]) _ rfl
      cases rv
      exact kk H2
end LT

/-! LA20: short words for a claim's text. -/
namespace LT
open PySem PySem.Spec L2

/-- a def of the text, as the top has left it -/
structure Fx (K : PySem.W.Frag) (mg : Str → Option Value) (x qual : Str) (st : Stmt) (ps : List Str) : Prop where
  ex : ∃ f fd, Fun K x qual st f fd ∧ mg x = some (.ref f) ∧ PySem.W.keepIn K (.ref f) = true ∧ Binds K fd ps []
theorem fx_mk {K : PySem.W.Frag} {h : Heap} {mg : Str → Option Value} {x qual : Str} {st : Stmt} {ps : List Str} {f : Addr} {oc : Value} {od an : Option Addr} {osl : Array (Option Value)} {kV doc pm cdv ct : Value} (X : K.In h) (G : h.Ns mainGlobals mg)
    (a : PySem.W.nsIn K mainGlobals x = some (some (.ref f))) (l : K.lookup f = some ⟨oc, od, .func (PySem.W.fnOf x qual (defArgs st) (defBody st) (defScope st) .none kV doc pm an cdv ct), osl⟩) (c : PySem.W.codeIn K cdv qual = true) (k : PySem.W.keepIn K (.ref f) = true)
    (hb : ∀ (kV doc pm : Value) (an : Option Addr) (cdv ct : Value) (us : List Value), us.length = ps.length → bindArgs (PySem.W.fnOf x qual (defArgs st) (defBody st) (defScope st) .none kV doc pm an cdv ct) ⟨us, []⟩ = pure (ps.zip us)) : Fx K mg x qual st ps :=
  ⟨_, _, fun_mk l c k, PySem.W.mg_of X G a, k, (fun_mk l c k).binds hb⟩
section
variable {P : Program} {w : World} {K : PySem.W.Frag} {mg : Str → Option Value} {base : Heap}
theorem cal_fn {x qual : Str} {st : Stmt} {N ps : List Str} {k : Nat} {io : List Nat} {body : M SO} (F : Fx K mg x qual st ps) (Sc : FnScope N ps (defScope st)) (hio : io.Nodup) (hil : ∀ i ∈ io, i < ps.length)
    (hb : ∀ (f : Addr) (cdv : Value) (A : Around) (outer : List Env) (s : Shared) (H : Hp) (E : XK), Room k (A.deeper (PyProof.Rows.envOfC qual (defScope st) s.heap.objs.size f cdv)) →
      DSs (cxOf (L2.CX P w) P w K mg base N qual (defScope st) f cdv A outer s H E) (fun cls d _ H' => E cls d H') (defBody st) body) :
    Cal P w K mg base (k + 1) x ps io (mkF (N.length - ps.length) io body) := by
  obtain ⟨f, fd, h1, h2, h3, h4⟩ := F.ex
  exact ⟨f, fd, fnD h1 Sc hio hil (hb f), h2, h3, h4⟩
theorem cal_zero {x qual : Str} {st : Stmt} {ps : List Str} {k : Nat} {io : List Nat} (F : Fx K mg x qual st ps) : Cal P w K mg base k x ps io (fun _ => Option.none) := by
  obtain ⟨f, fd, h1, h2, h3, h4⟩ := F.ex
  exact Cal.none h2 h3 h4
theorem tkCx {N : List Str} {qual : Str} {scope : Scope} {f : Addr} {cd : Value} {A : Around} {outer : List Env} {s : Shared} {H : Hp} {E : XK} : Takes (cxOf (L2.CX P w) P w K mg base N qual scope f cd A outer s H E) (fun cls d _ H' => E cls d H') :=
  takes_of rfl rfl rfl rfl
theorem poCx {N : List Str} {qual : Str} {scope : Scope} {f : Addr} {cd : Value} {A : Around} {outer : List Env} {s : Shared} {H : Hp} {E : XK} : PassesOwn (model P w) (cxOf (L2.CX P w) P w K mg base N qual scope f cd A outer s H E).A (cxOf (L2.CX P w) P w K mg base N qual scope f cd A outer s H E).env (cxOf (L2.CX P w) P w K mg base N qual scope f cd A outer s H E).xe :=
  PassesOwn.leaving
end
theorem de_gI {X : Cx} {W : WX} {x : Str} {i : Int} {pos : Pos} (hg : Gl X x) (hm : ∃ t, X.mg x = some (.int i t)) (hd : (x == ("__debug__" : Str)) = false := by decide) : DE X W (.Name x pos) (M.cst (.int i)) := by
  obtain ⟨t, h⟩ := hm
  exact de_globI hg h hd
theorem de_gS {X : Cx} {W : WX} {x : Str} {i : Str} {pos : Pos} (hg : Gl X x) (hm : ∃ t, X.mg x = some (.str i t)) (hd : (x == ("__debug__" : Str)) = false := by decide) : DE X W (.Name x pos) (M.cst (.str i)) := by
  obtain ⟨t, h⟩ := hm
  exact de_globS hg h hd
/-- the call of the tape's def, as the law's first row has it -/
structure Tape (P : Program) (w : World) (K : PySem.W.Frag) (mg : Str → Option Value) (base : Heap) (k : Nat) (x : Str) (ps : List Str) : Prop where
  ex : ∃ f fd, FnOk P w K mg base (L2.CX P w) k f fd ps (spTape K) ∧ mg x = some (.ref f) ∧ PySem.W.keepIn K (.ref f) = true ∧ Binds K fd ps []
theorem pe_tape {X : Cx} {W : WX} {k : Nat} {x : Str} {ps : List Str} {p pos : Pos} {e : Expr} {t : TA} (c : Tape X.prog X.w X.K X.mg X.base k x ps) (hr : Room k X.A) (tk : Takes X W) (hg : Gl X x) (ha : PA X [e] t) (hdb : (x == ("__debug__" : Str)) = false := by decide)
    (he : starEach [e] X.env = (false, eval e X.env) :: starEach [] X.env := by rfl) (hpl : (backTo pos (starEach [] X.env)).any (·.1) = false := by rfl) : PE X (.Call (.Name x p) [e] [] pos) (tCallS (spTape X.K) (WE W) t) := by
  obtain ⟨f, fd, h1, h2, h3, h4⟩ := c.ex
  exact pe_callS h1 hr hg h2 h3 h4 (fun σ => passAt tk σ) ha hdb he hpl
end LT

/-! LA21: further operations. -/
namespace LT
open PySem PySem.Spec L2

def opPow : List D → Option D
  | [.int i, .int j] => if 0 ≤ j ∧ j ≤ 1000000 ∧ i.natAbs < 2 ^ 64 then some (.int (i ^ j.toNat)) else none
  | _ => none
theorem ops_pow {K : PySem.W.Frag} {W : WX} : OpS K W (lift2 (rI CPow fun i j => .int (i ^ j.toNat))) (dop opPow) := by
  refine ops_read fun H vs ds d v Q r e s q => ?_
  unfold opPow at e
  split at e
  · split at e
    · rename_i hj
      cases e; cases s
      cases r with | cons a b => cases a; cases b with | cons a b => cases a; cases b; exact ⟨_, _, rfl, rfl, hj, q⟩
    · cases e
  · cases e
def opShr : List D → Option D
  | [.int i, .int j] => if 0 ≤ j then some (.int (i / 2 ^ j.toNat)) else none
  | _ => none
theorem ops_shr {K : PySem.W.Frag} {W : WX} : OpS K W (lift2 (rI (fun _ j => 0 ≤ j) fun i j => .int (i / 2 ^ j.toNat))) (dop opShr) := by
  refine ops_read fun H vs ds d v Q r e s q => ?_
  unfold opShr at e
  split at e
  · split at e
    · rename_i hj
      cases e; cases s
      cases r with | cons a b => cases a; cases b with | cons a b => cases a; cases b; exact ⟨_, _, rfl, rfl, hj, q⟩
    · cases e
  · cases e
def opBand : List D → Option D
  | [.int i, .int j] => some (.int (Builtin.bitAnd i j))
  | _ => none
theorem ops_band {K : PySem.W.Frag} {W : WX} : OpS K W (lift2 (rI0 fun i j => .int (Builtin.bitAnd i j))) (dop opBand) := by
  refine ops_read fun H vs ds d v Q r e s q => ?_
  unfold opBand at e
  split at e
  · cases e; cases s
    cases r with | cons a b => cases a; cases b with | cons a b => cases a; cases b; exact ⟨_, _, rfl, rfl, q⟩
  · cases e
/-- x is True, x is False -/
def opIsB (neg : Bool) : List D → Option D
  | [.bool a, .bool b] => some (.bool (neg ^^ decide (a = b)))
  | _ => none
theorem ops_isB {K : PySem.W.Frag} {W : WX} : OpS K W (lift2 fun x y H Q => ∃ a b, x = .bl a ∧ y = .bl b ∧ Q (.bl (decide (a = b))) H) (dop (opIsB false)) := by
  refine ops_read fun H vs ds d v Q r e s q => ?_
  unfold opIsB at e
  split at e
  · cases e; cases s
    cases r with | cons a b => cases a; cases b with | cons a b => cases a; cases b; exact ⟨_, _, rfl, rfl, by simpa using q⟩
  · cases e
theorem ops_isNB {K : PySem.W.Frag} {W : WX} : OpS K W (lift2 fun x y H Q => ∃ a b, x = .bl a ∧ y = .bl b ∧ Q (.bl (!decide (a = b))) H) (dop (opIsB true)) := by
  refine ops_read fun H vs ds d v Q r e s q => ?_
  unfold opIsB at e
  split at e
  · cases e; cases s
    cases r with | cons a b => cases a; cases b with | cons a b => cases a; cases b; exact ⟨_, _, rfl, rfl, by simpa using q⟩
  · cases e
def opOrdC : List D → Option D
  | [.str s] => if s.length = 1 then some (.int (s.cps.getD 0 0 : Nat)) else none
  | _ => none
theorem ops_ordC {K : PySem.W.Frag} {W : WX} : OpS K W (fun xs H Q => ∃ x, xs = [.str x] ∧ x.length = 1 ∧ Q (.int (x.cps.getD 0 0 : Nat)) H) (dop opOrdC) := by
  refine ops_read fun H vs ds d v Q r e s q => ?_
  unfold opOrdC at e
  split at e
  · split at e
    · cases e; cases s
      cases r with | cons a b => cases a; cases b; exact ⟨_, rfl, by assumption, q⟩
    · cases e
  · cases e
/-- s.index(t), there -/
def opSIndex : List D → Option D
  | [.str a, .str b] => match Builtin.Str.occurrences a b 0 a.length 1 with
    | i :: _ => some (.int (i : Nat))
    | [] => none
  | _ => none
theorem ops_sindex {K : PySem.W.Frag} {W : WX} : OpS K W (liftM fun x xs H Q => ∃ a b i rest, x = .str a ∧ xs = [.str b] ∧ Builtin.Str.occurrences a b 0 a.length 1 = i :: rest ∧ Q (.int (i : Nat)) H) (dop opSIndex) := by
  refine opsM_read fun H x vs ds d v Q r e s q => ?_
  unfold opSIndex at e
  split at e
  · split at e
    · rename_i i rest h
      cases e; cases s
      cases r with | cons a b => cases a; cases b with | cons a b => cases a; cases b; exact ⟨_, _, i, rest, rfl, rfl, h, q⟩
    · cases e
  · cases e

/-! ### a op b op c, of plain values -/
/-- the operation on values that stay behind -/
structure CmpS (r : R2) (op : List D → Option D) (K : PySem.W.Frag) : Prop where
  run : ∀ (H : Hp) (x y : V) (d e : D) (b : Bool) (Q : VK), RepD K H d x → RepD K H e y → op [d, e] = some (.bool b) → Q (.bl b) H → r x y H Q
theorem cmpS_ord {K : PySem.W.Frag} {f : Int → Int → Bool} {g : List Nat → List Nat → Bool} : CmpS (rOrd f g) (opOrd f g) K := ⟨fun H x y d e b Q rd re h q => by
  unfold opOrd at h
  split at h
  · rename_i i j hh
    cases hh
    cases h
    cases rd; cases re
    exact .inl ⟨_, _, rfl, rfl, q⟩
  · rename_i i j hh
    cases hh
    cases h
    cases rd; cases re
    exact .inr ⟨_, _, rfl, rfl, q⟩
  · cases h⟩
def M.chain (fa fb fc : M EV) (op op' : List D → Option D) : M EV := M.bind (evalArgs [fa, fb]) fun xs ρ => match xs with
  | [x, y] => match x.key with
    | none => none
    | some d => match y.key with
      | none => none
      | some e => match op [d, e] with
        | some (.bool true) => (match fc ρ with
          | none => none
          | some (.error ex, ρ') => some (.error ex, ρ')
          | some (.ok z, ρ') => match z.key with
            | none => none
            | some f => match op' [e, f] with
              | some (.bool b) => some (.ok (.d (.bool b)), ρ')
              | _ => none)
        | some (.bool false) => some (.ok (.d (.bool false)), ρ)
        | _ => none
  | _ => none
theorem chain_run {K : PySem.W.Frag} {W : WX} {fa fb fc : M EV} {r r' : R2} {op op' : List D → Option D} (ho : CmpS r op K) (ho' : CmpS r' op' K) {σ : L2.St} {H : Hp} {Q : VK} (h : tD K W (M.chain fa fb fc op op') σ H Q) :
    tChain r r' (tD K W fa) (tD K W fb) (tD K W fc) σ H Q := by
  have : tAs [tD K W fa, tD K W fb] σ H fun vs H2 => ∃ x y, vs = [x, y] ∧ r x y H2 fun z H3 => ∃ k, z = .bl k ∧ (if k = true then tD K W fc σ H3 fun w' H4 => r' y w' H4 Q else Q (.bl false) H3) := by
    refine args_run [fa, fb] ?_
    obtain ⟨G, F, R, rel, res, ρ', e, k⟩ := h
    unfold M.chain M.bind at e
    cases q1 : evalArgs [fa, fb] F.er with
    | none => rw [q1] at e; cases e
    | some y1 =>
      obtain ⟨r1, ρ1⟩ := y1
      rw [q1] at e
      cases r1 with
      | error ex => cases e; exact ⟨G, F, R, rel, _, _, q1, k⟩
      | ok xs =>
        refine ⟨G, F, R, rel, _, _, q1, fun G1 H1 F1 n1 e1 as rel1 ok1 ex1 => ?_⟩
        subst e1
        simp only at e
        match xs, e with
        | [x, y], e =>
          obtain ⟨a, b, rfl, rfl, rfl⟩ := map_two ex1
          simp only at e
          cases k1 : (AV.er a).key with
          | none => rw [k1] at e; cases e
          | some d =>
            rw [k1] at e
            simp only at e
            cases k2 : (AV.er b).key with
            | none => rw [k2] at e; cases e
            | some d2 =>
              rw [k2] at e
              simp only at e
              obtain ⟨v, rfl⟩ := key_av k1
              obtain ⟨v2, rfl⟩ := key_av k2
              have rd : RepD K G1 d v := rel1.ok.leaves (some d, v) (by simp [AV.trees, leaves]) _ rfl
              have rd2 : RepD K G1 d2 v2 := rel1.ok.leaves (some d2, v2) (by simp [AV.trees, leaves]) _ rfl
              have s1 := RdLe.of_sub rel1.ok.sub
              refine ⟨v, v2, rfl, ?_⟩
              split at e
              · rename_i ho1
                refine ho.run H1 v v2 d d2 true _ (rd.mono s1) (rd2.mono s1) ho1 ⟨true, rfl, ?_⟩
                rw [if_pos rfl]
                cases q3 : fc F1.er with
                | none => rw [q3] at e; cases e
                | some y3 =>
                  obtain ⟨r3, ρ3⟩ := y3
                  rw [q3] at e
                  cases r3 with
                  | error ex => cases e; exact ⟨G1, F1, R, rel1.drop, _, _, q3, fun G2 H2 F2 n2 e2 => k G2 H2 F2 (n1.trans n2) e2⟩
                  | ok z =>
                    refine ⟨G1, F1, R, rel1.drop, _, _, q3, fun G2 H2 F2 n2 e2 av rel2 ok2 ex2 => ?_⟩
                    subst ex2
                    subst e2
                    simp only at e
                    cases k3 : (AV.er av).key with
                    | none => rw [k3] at e; cases e
                    | some d3 =>
                      rw [k3] at e
                      simp only at e
                      obtain ⟨v3, rfl⟩ := key_av k3
                      have rd3 : RepD K G2 d3 v3 := rel2.ok.leaves (some d3, v3) (by simp [AV.trees, leaves]) _ rfl
                      have s2 := RdLe.of_sub rel2.ok.sub
                      split at e
                      · rename_i b ho2
                        cases e
                        refine ho'.run H2 v2 v3 d2 d3 b Q ((rd2.mono (.of_same n2.same)).mono s2) (rd3.mono s2) ho2 ?_
                        exact k G2 H2 F2 (n1.trans n2) rfl (.val (.leaf (some (.bool b), .bl b))) (by simpa [AV.trees] using rel2.drop.leafNew (.bl b)) trivial rfl
                      · cases e
              · rename_i ho1
                cases e
                refine ho.run H1 v v2 d d2 false _ (rd.mono s1) (rd2.mono s1) ho1 ⟨false, rfl, ?_⟩
                rw [if_neg Bool.false_ne_true]
                exact k G1 H1 F1 n1 rfl (.val (.leaf (some (.bool false), .bl false))) (by simpa [AV.trees] using rel1.drop.leafNew (.bl false)) trivial rfl
              · cases e
  have this : tD K W fa σ H fun x H1 => tD K W fb σ H1 fun y H2 => ∃ x' y', [x, y] = [x', y'] ∧ r x' y' H2 fun z H3 => ∃ k, z = .bl k ∧ (if k = true then tD K W fc σ H3 fun w' H4 => r' y' w' H4 Q else Q (.bl false) H3) := this
  refine tD_mono (fun v1 H1 h1 => tD_mono (fun v2 H2 h2 => ?_) h1) this
  obtain ⟨x', y', e, q⟩ := h2
  cases e
  exact q
section
variable {X : Cx} {W : WX} {a b c : Expr} {fa fb fc : M EV} {op op' : CmpOp} {r r' : R2} {g g' : List D → Option D} {pos : Pos}
theorem de_chain (ho : OpR X (compareOp op) r) (hs : CmpS r g X.K) (ho' : OpR X (compareOp op') r') (hs' : CmpS r' g' X.K) (ha : DE X W a fa) (hb : DE X W b fb) (hc : DE X W c fc) (hm : lastMarks [op, op'] [b, c] = false := by with_unfolding_all rfl) :
    DE X W (.Compare a [op, op'] [b, c] pos) (M.chain fa fb fc g g') := PE.imp (pe_chain ho ho' ha hb hc hm) fun σ H Q h => chain_run hs hs' h
theorem dt_chain (ho : OpR X (compareOp op) r) (hs : CmpS r g X.K) (ho' : OpR X (compareOp op') r') (hs' : CmpS r' g' X.K) (ha : DE X W a fa) (hb : DE X W b fb) (hc : DE X W c fc) (hm : lastMarks [op, op'] [b, c] = false := by with_unfolding_all rfl) :
    DT X W (.Compare a [op, op'] [b, c] pos) (M.asBool (M.chain fa fb fc g g')) := PT.imp (pt_chain ho ho' ha hb hc hm) fun σ H Q h => chain_run hs hs' (asBool_run h)
end
end LT

/-! LA22: lists changed; pairs taken apart; tuple, list, all, any. -/
namespace LT
open PySem PySem.Spec L2

/-! ### a node is changed -/
theorem mut_node {K : PySem.W.Frag} {G H : Hp} {σ : L2.St} {F : AF} {R S : List A} {j : Nat} {p : List D} {v : V} {u : Unit} {k : NK} {cs : List (D × T)} (rel : Rel K G H σ F (S ++ R)) (ok : ValAt F.sl j p v) (hl : look (.ptr j p) F.er = some (.node u k cs)) :
    ∃ (n : Addr × Addr) (cs0 : List (D × A)), v = .ref n.1 ∧ ers cs0 = cs ∧ Seen K G H (.node n k cs0) ∧ ∀ (cs' : List (D × A)) (U : List A) (o o' : HO) (E : List (Addr × Option HO)), nodeObjs k n (vals cs0) = (n.1, some o) :: E → nodeObjs k n (vals cs') = (n.1, some o') :: E → (cs'.map (·.2) ++ U).Perm (cs0.map (·.2) ++ S) →
      ∃ F', Nx G G F F' ∧ F.er.put j p (.node () k (ers cs')) = some F'.er ∧ Rel K G (upd H n.1 o') σ F' (U ++ R) := by
  obtain ⟨a, n, cs0, h1, h2, h3, h4, sn⟩ := look_at rel ok hl
  refine ⟨n, cs0, h3, h4, sn, fun cs' U o o' E ho ho' hp => ?_⟩
  obtain ⟨r1, n1⟩ := rel.mut h1 h2 ho ho' hp
  refine ⟨_, n1, ?_, r1⟩
  rw [show (TR.node () k (ers cs') : T) = LT.er (.node n k cs') from rfl, AF.put_er h1]
/-- xs.append(x) -/
def gAppend (o x : EV) : M EV := fun ρ => match x with
  | .val t => match o with
    | .ptr j p => match look (.ptr j p) ρ with
      | some (.node _ .lst cs) => if cs.length < sizeLine then (match ρ.put j p (.node () .lst (cs ++ [(.none, t)])) with
        | none => none
        | some ρ' => some (.ok (.d .none), ρ')) else none
      | _ => none
    | _ => none
  | _ => none
theorem ers_append (a b : List (D × A)) : ers (a ++ b) = ers a ++ ers b := by rw [ers_map, ers_map, ers_map, List.map_append]
theorem vals_append (a b : List (D × A)) : vals (a ++ b) = vals a ++ vals b := by simp [vals]
theorem ops_append {K : PySem.W.Frag} {W : WX} : OpS K W (liftM rAppend) (g2 gAppend) := by
  intro G H σ F R as Q rel ok res
  obtain ⟨rr, ρ', e, k⟩ := res
  match as, rel, ok, e with
  | [a, b], rel, ok, e =>
    simp only [List.map_cons, List.map_nil, g2] at e
    cases b with
    | ptr j p v => cases e
    | val t =>
      cases a with
      | val a => cases e
      | ptr j p v =>
        rw [show AV.er (.val t) = .val (er t) from rfl, show AV.er (.ptr j p v) = .ptr j p from rfl] at e
        simp only [gAppend] at e
        cases hl : look (.ptr j p) F.er with
        | none => rw [hl] at e; cases e
        | some tt =>
          rw [hl] at e
          cases tt with
          | leaf o => cases e
          | node u nk cs =>
            cases nk <;> try (cases e; done)
            simp only at e
            split at e
            · rename_i hsz
              have rel' : Rel K G H σ F ([t] ++ R) := by simpa [AV.trees] using rel
              obtain ⟨n, cs0, h1, h2, sn, kk⟩ := mut_node rel' (ok (.ptr j p v) (by simp)) hl
              obtain ⟨F', n1, e1, rel2⟩ := kk (cs0 ++ [(.none, t)]) [] _ _ [] rfl rfl (by simp)
              rw [ers_append, h2] at e1
              rw [show ers [((.none : D), t)] = [(.none, er t)] from rfl] at e1
              rw [e1] at e
              cases e
              have ev : (vals (cs0 ++ [((.none : D), t)])).map (·.2) = (vals cs0).map (·.2) ++ [t.val] := by simp [vals]
              rw [ev] at rel2
              have hlen : ((vals cs0).map (·.2)).length < sizeLine := by
                rw [← h2, len_ers] at hsz
                simpa [vals] using hsz
              show rAppend v [t.val] H Q
              refine ⟨n.1, _, t.val, h1, rfl, sn.lst, hlen, ?_⟩
              exact k G _ F' n1 rfl (.val (.leaf (some .none, .non))) (by simpa [AV.trees] using Rel.leafNew rel2 .non) trivial rfl
            · cases e
  | [], rel, ok, e => cases e
  | [_], rel, ok, e => cases e
  | _ :: _ :: _ :: _, rel, ok, e => cases e
/-- xs.extend(ys) -/
def gExtend (o x : EV) : M EV := fun ρ => match seqL x ρ with
  | none => none
  | some ys => match o with
    | .ptr j p => match look (.ptr j p) ρ with
      | some (.node _ .lst cs) => if cs.length + ys.length ≤ sizeLine then (match ρ.put j p (.node () .lst (cs ++ ys.map fun y => (.none, .leaf (some y)))) with
        | none => none
        | some ρ' => some (.ok (.d .none), ρ')) else none
      | _ => none
    | _ => none
theorem ops_extend {K : PySem.W.Frag} {W : WX} : OpS K W (liftM rExtend) (g2 gExtend) := by
  intro G H σ F R as Q rel ok res
  obtain ⟨rr, ρ', e, k⟩ := res
  match as, rel, ok, e with
  | [a, b], rel, ok, e =>
    simp only [List.map_cons, List.map_nil, g2, gExtend] at e
    cases hs : seqL b.er F.er with
    | none => rw [hs] at e; cases e
    | some ys =>
      rw [hs] at e
      obtain ⟨l, vs, s1, s2, s3⟩ := rel.seqL (ok b (by simp)) (fun z hz => by simp [hz]) hs
      cases a with
      | val a => cases e
      | ptr j p v =>
        rw [show AV.er (.ptr j p v) = .ptr j p from rfl] at e
        simp only at e
        cases hl : look (.ptr j p) F.er with
        | none => rw [hl] at e; cases e
        | some tt =>
          rw [hl] at e
          cases tt with
          | leaf o => cases e
          | node u nk cs =>
            cases nk <;> try (cases e; done)
            simp only at e
            split at e
            · rename_i hsz
              have relR : Rel K G H σ F R := rel.drop
              obtain ⟨bs, b1, b2, rel'⟩ := relR.leavesNew s3
              obtain ⟨n, cs0, h1, h2, sn, kk⟩ := mut_node rel' (ok (.ptr j p v) (by simp)) hl
              obtain ⟨F', n1, e1, rel2⟩ := kk (cs0 ++ bs.map fun b => (.none, b)) [] _ _ [] rfl rfl (by simp [Function.comp_def])
              have eb : ers (bs.map fun b => ((.none : D), b)) = ys.map fun y => (.none, .leaf (some y)) := by
                rw [ers_map, List.map_map]
                have := congrArg (fun l : List T => l.map fun t => ((.none : D), t)) b1
                simpa [Function.comp_def] using this
              rw [ers_append, h2, eb] at e1
              rw [e1] at e
              cases e
              have ev : (vals (cs0 ++ bs.map fun b => ((.none : D), b))).map (·.2) = (vals cs0).map (·.2) ++ vs := by
                rw [vals_append, List.map_append, ← b2]
                simp [vals, Function.comp_def]
              rw [ev] at rel2
              have hlen : ((vals cs0).map (·.2)).length + vs.length ≤ sizeLine := by
                rw [← h2, len_ers] at hsz
                rw [← s3.length]
                simpa [vals] using hsz
              show rExtend v [b.v] H Q
              refine ⟨n.1, l, _, vs, h1, by rw [s1], sn.lst, s2, hlen, ?_⟩
              exact k G _ F' n1 rfl (.val (.leaf (some .none, .non))) (by simpa [AV.trees] using Rel.leafNew rel2 .non) trivial rfl
            · cases e
  | [], rel, ok, e => cases e
  | [_], rel, ok, e => cases e
  | _ :: _ :: _ :: _, rel, ok, e => cases e
section
variable {X : Cx} {W : WX} {o e : Expr} {fo f : M EV} {apos cpos : Pos}
theorem de_append (ho : DE X W o fo) (ha : DE X W e f) (hst : starEach [e] X.env = (false, eval e X.env) :: starEach [] X.env := by rfl) (hbase : attributeBase o "append" X.env (eval o X.env) = eval o X.env := by rfl)
    (hfew : ((backTo cpos (starEach [e] X.env)).all (fun x => !x.1) && (backToKw cpos (keywordEach [] X.env)).all (fun x => x.1.isSome)
      && decide (([e] : List Expr).length + ([] : List Keyword).length + (if ([] : List Keyword).isEmpty then 0 else 1) < 30)) = true := by rfl)
    (hline : (apos.endLine == cpos.line) = true := by rfl) (hplain : (backTo cpos (starEach [] X.env)).any (·.1) = false := by rfl) : DE X W (.Call (.Attribute o "append" apos) [e] [] cpos) (mop [M.chk isLstE fo, f] (g2 gAppend)) :=
  de_lm PySem.F.slot_list_append PySem.F.type_list_append mt_append ops_append ho (das_cons ha das_nil hst) hbase hfew hline hst hplain
theorem de_extend (ho : DE X W o fo) (ha : DE X W e f) (hst : starEach [e] X.env = (false, eval e X.env) :: starEach [] X.env := by rfl) (hbase : attributeBase o "extend" X.env (eval o X.env) = eval o X.env := by rfl)
    (hfew : ((backTo cpos (starEach [e] X.env)).all (fun x => !x.1) && (backToKw cpos (keywordEach [] X.env)).all (fun x => x.1.isSome)
      && decide (([e] : List Expr).length + ([] : List Keyword).length + (if ([] : List Keyword).isEmpty then 0 else 1) < 30)) = true := by rfl)
    (hline : (apos.endLine == cpos.line) = true := by rfl) (hplain : (backTo cpos (starEach [] X.env)).any (·.1) = false := by rfl) : DE X W (.Call (.Attribute o "extend" apos) [e] [] cpos) (mop [M.chk isLstE fo, f] (g2 gExtend)) :=
  de_lm PySem.F.slot_list_extend PySem.F.type_list_extend mt_extend ops_extend ho (das_cons ha das_nil hst) hbase hfew hline hst hplain
end

/-! ### xs.index(x), plain values -/
def dflat : D → Bool
  | .none => true
  | .bool _ => true
  | .int _ => true
  | .str _ => true
  | _ => false
theorem flat_rep {K : PySem.W.Frag} {G : Hp} {d : D} {v : V} (h : RepD K G d v) (f : dflat d = true) : flatV v = true ∧ sval d = some v := by
  cases h <;> first | exact ⟨rfl, rfl⟩ | cases f
theorem flat_eqv {a b : D} {x y : V} (ha : sval a = some x) (hb : sval b = some y) : eqV x y = PyData.eqv a b := by
  cases a <;> cases ha <;> cases b <;> cases hb <;> simp [eqV, PyData.eqv] <;> rfl
theorem flats_rep {K : PySem.W.Frag} {G : Hp} : ∀ {ds : List D} {vs : List V}, RepDs K G ds vs → ds.all dflat = true → vs.all flatV = true
  | _, _, .nil, _ => rfl
  | _, _, .cons a b, h => by
    rw [List.all_cons, Bool.and_eq_true] at h ⊢
    exact ⟨(flat_rep a h.1).1, flats_rep b h.2⟩
def opLIndex : List D → Option D
  | [.list ds, d] => if ds.all dflat = true ∧ dflat d = true then (ds.findIdx? fun z => PyData.eqv z d).map fun (j : Nat) => PyData.int (j : Int) else none
  | _ => none
theorem ops_lindex {K : PySem.W.Frag} {W : WX} : OpS K W (liftM (rIndex K)) (dop opLIndex) := by
  refine opsM_read fun H x vs ds d v Q r e s q => ?_
  unfold opLIndex at e
  split at e
  · rename_i zs d0
    split at e
    · rename_i hf
      cases hfi : zs.findIdx? fun z => PyData.eqv z d0 with
      | none => rw [hfi] at e; cases e
      | some j =>
        rw [hfi] at e
        cases e; cases s
        cases r with
        | cons a b =>
          cases b with
          | cons b c =>
            cases c
            cases a with
            | lst g1 g2 =>
              obtain ⟨fy, sy⟩ := flat_rep b hf.2
              rw [List.findIdx?_eq_some_iff_getElem] at hfi
              obtain ⟨hj, e1, e2⟩ := hfi
              obtain ⟨w, w1, w2⟩ := g2.get (List.getElem?_eq_getElem hj)
              refine ⟨_, _, _, j, w, rfl, rfl, SqL.of g1, fy, flats_rep g2 hf.1, w1, ?_, fun m z' hm hz' => ?_, q⟩
              · rw [flat_eqv (flat_rep w2 (List.all_eq_true.mp hf.1 _ (List.getElem_mem hj))).2 sy]; exact e1
              · obtain ⟨z, z1, z2⟩ := g2.getV hz'
                rw [flat_eqv (flat_rep z2 (List.all_eq_true.mp hf.1 z (List.mem_of_getElem? z1))).2 sy]
                have hml : m < zs.length := by omega
                have := e2 m hm
                have hzz : zs[m] = z := by
                  have := List.getElem?_eq_getElem hml
                  rw [z1] at this
                  exact (Option.some.inj this).symm
                rw [hzz] at this
                simpa using this
    · cases e
  · cases e

/-! ### a, b = e -/
def asgS (asg : D → Fr → Option Fr) (x : EV) (ρ : Fr) : Option (SO × Fr) := match x.key with
  | none => none
  | some d => match asg d ρ with
    | none => none
    | some ρ' => some (.nx, ρ')
section
variable {X : Cx} {W : WX} {tg e : Expr} {f : M EV} {g : TG} {asg : D → Fr → Option Fr} {is : List Nat} {pos : Pos}
theorem ds_asg (he : DE X W e f) (hg : PG X tg g) (ho : TgOk X.K g asg is) (hs : swapsWithSole [tg] e pos.line X.env = pure false := by rfl) (hw : swappedStores [tg] e X.env = pure none := by rfl) (h1 : (assignEach [tg] X.env).map (·.2) = [assign tg X.env] := by rfl) :
    DS X W (.Assign [tg] e pos) (M.fin f (asgS asg)) := PS.imp (ps_asg he hg hs hw h1) fun D σ H h => fin_run h fun G H F R av o ρ' rel ok e k => by
  unfold asgS at e
  cases q : av.er.key with
  | none => rw [q] at e; cases e
  | some d =>
    rw [q] at e
    simp only at e
    cases q2 : asg d F.er with
    | none => rw [q2] at e; cases e
    | some ρ2 =>
      rw [q2] at e
      cases e
      obtain ⟨v, rfl⟩ := key_av q
      have rd : RepD X.K G d v := rel.ok.leaves (some d, v) (by simp [AV.trees, leaves]) _ rfl
      exact ho.run G H σ F R d v _ _ rel.drop rd q2 fun F' σ' n e' rel' _ _ => k G H F' σ' n e' rel'
end

/-! ### tuple(xs), list(xs), all(xs), any(xs) -/
def tupOp (as : List EV) (ρ : Fr) : Option (List D) := match as with
  | [x] => match seqL x ρ with
    | some xs => some xs
    | none => match x.key with
      | some (.tuple xs) => some xs
      | _ => none
  | _ => none
theorem ops_tuple {K : PySem.W.Frag} {W : WX} : OpS K W (fun xs H Q => ∃ p ys, xs = [.ref p] ∧ ((SqL K H p ys ∧ ∀ l, H l = none → Q (.ref l) (upd H l (.tup ys))) ∨ (SqT K H p ys ∧ Q (.ref p) H))) (mkT tupOp) := by
  refine ops_newT fun G H σ F R as Q xs rel ok e => ?_
  match as, rel, ok, e with
  | [a], rel, ok, e =>
    simp only [List.map_cons, List.map_nil, tupOp] at e
    cases hs : seqL a.er F.er with
    | some ys =>
      rw [hs] at e
      cases e
      obtain ⟨l, vs, s1, s2, s3⟩ := rel.seqL (ok a (by simp)) (fun z hz => by simp [hz]) hs
      exact ⟨vs, s3, fun hq _ => ⟨l, vs, by simp [s1], .inl ⟨SqL.of s2, hq⟩⟩⟩
    | none =>
      rw [hs] at e
      simp only at e
      split at e
      · rename_i ys hk
        cases e
        obtain ⟨v, rfl⟩ := key_av hk
        have rd : RepD K G (.tuple xs) v := rel.ok.leaves (some (.tuple xs), v) (by simp [AV.trees, leaves]) _ rfl
        cases rd with
        | tup h1 h2 =>
          rename_i a vs
          have hH := Sub.tup rel.ok.sub h1
          exact ⟨vs, h2, fun _ hq => ⟨a, vs, rfl, .inr ⟨SqT.of hH, hq a hH (.tup h1 h2)⟩⟩⟩
      · cases e
  | [], rel, ok, e => cases e
  | _ :: _ :: _, rel, ok, e => cases e
def lstOp (as : List EV) (ρ : Fr) : Option (List D) := match as with
  | [x] => match seqL x ρ with
    | some xs => some xs
    | none => match x.key with
      | some (.tuple xs) => some xs
      | _ => none
  | _ => none
theorem ops_list {K : PySem.W.Frag} {W : WX} : OpS K W (fun xs H Q => ∃ p ys, xs = [.ref p] ∧ (SqL K H p ys ∨ SqT K H p ys) ∧ ∀ l, H l = none → Q (.ref l) (upd H l (.lst ys))) (mkL lstOp) := by
  refine ops_newL fun G H σ F R as Q xs rel ok e => ?_
  match as, rel, ok, e with
  | [a], rel, ok, e =>
    simp only [List.map_cons, List.map_nil, lstOp] at e
    cases hs : seqL a.er F.er with
    | some ys =>
      rw [hs] at e
      cases e
      obtain ⟨l, vs, s1, s2, s3⟩ := rel.seqL (ok a (by simp)) (fun z hz => by simp [hz]) hs
      exact ⟨vs, s3, fun hq => ⟨l, vs, by simp [s1], .inl (SqL.of s2), hq⟩⟩
    | none =>
      rw [hs] at e
      simp only at e
      split at e
      · rename_i ys hk
        cases e
        obtain ⟨v, rfl⟩ := key_av hk
        have rd : RepD K G (.tuple xs) v := rel.ok.leaves (some (.tuple xs), v) (by simp [AV.trees, leaves]) _ rfl
        cases rd with
        | tup h1 h2 => exact ⟨_, h2, fun hq => ⟨_, _, rfl, .inr (SqT.of (Sub.tup rel.ok.sub h1)), hq⟩⟩
      · cases e
  | [], rel, ok, e => cases e
  | _ :: _ :: _, rel, ok, e => cases e
def boolsOf : List D → Option (List Bool)
  | [] => some []
  | .bool b :: r => match boolsOf r with
    | none => none
    | some bs => some (b :: bs)
  | _ => none
theorem boolsOf_rep {K : PySem.W.Frag} {H : Hp} : ∀ {ds : List D} {vs : List V} {bs : List Bool}, RepDs K H ds vs → boolsOf ds = some bs → vs = bs.map V.bl
  | _, _, _, .nil, e => by cases e; rfl
  | _, _, _, .cons (x := x) (xs := xs) a b, e => by
    cases x <;> try (cases e; done)
    rename_i s
    unfold boolsOf at e
    cases q : boolsOf xs with
    | none => rw [q] at e; cases e
    | some ss => rw [q] at e; cases e; cases a; rw [boolsOf_rep b q]; rfl
def opAll : List D → Option D
  | [.list xs] => match boolsOf xs with
    | some bs => some (.bool (bs.all id))
    | none => none
  | _ => none
def opAny : List D → Option D
  | [.list xs] => match boolsOf xs with
    | some bs => some (.bool (bs.any id))
    | none => none
  | _ => none
theorem ops_all {K : PySem.W.Frag} {W : WX} : OpS K W (rAll K) (dop opAll) := by
  refine ops_read fun H vs ds d v Q r e s q => ?_
  unfold opAll at e
  split at e
  · split at e
    · rename_i bs hb
      cases e; cases s
      cases r with
      | cons a b =>
        cases b
        cases a with
        | lst h1 h2 =>
          have := boolsOf_rep h2 hb
          subst this
          exact ⟨_, bs, rfl, SqL.of h1, q⟩
    · cases e
  · cases e
theorem ops_any {K : PySem.W.Frag} {W : WX} : OpS K W (rAny K) (dop opAny) := by
  refine ops_read fun H vs ds d v Q r e s q => ?_
  unfold opAny at e
  split at e
  · split at e
    · rename_i bs hb
      cases e; cases s
      cases r with
      | cons a b =>
        cases b
        cases a with
        | lst h1 h2 =>
          have := boolsOf_rep h2 hb
          subst this
          exact ⟨_, bs, rfl, SqL.of h1, q⟩
    · cases e
  · cases e
end LT

/-! LA23: sorted of keys, any number of them; dict(d). -/
namespace LT
open PySem PySem.Spec L2

def leKey : Key → Key → Bool
  | .inl i, .inl j => decide (i ≤ j)
  | .inl _, .inr _ => true
  | .inr _, .inl _ => false
  | .inr a, .inr b => decide (a.cps.toList ≤ b.cps.toList)
theorem leKey_total (a b : Key) : (leKey a b || leKey b a) = true := by
  rcases a with i | x <;> rcases b with j | y <;> simp [leKey]
  · omega
  · exact List.le_total _ _
theorem leKey_trans (a b c : Key) (h1 : leKey a b = true) (h2 : leKey b c = true) : leKey a c = true := by
  rcases a with i | x <;> rcases b with j | y <;> rcases c with k | z <;> simp [leKey] at h1 h2 ⊢
  · omega
  · exact List.le_trans h1 h2
theorem leKey_anti (a b : Key) (h1 : leKey a b = true) (h2 : leKey b a = true) : a = b := by
  rcases a with i | x <;> rcases b with j | y <;> simp [leKey] at h1 h2 ⊢
  · omega
  · have := List.le_antisymm h1 h2
    cases x; cases y
    simp at this
    rw [this]
def leD (x y : D) : Bool := leKey x.key y.key
def sortD (xs : List D) : List D := xs.mergeSort leD
theorem sortD_perm (xs : List D) : (sortD xs).Perm xs := List.mergeSort_perm xs leD
theorem sortD_pair (xs : List D) : (sortD xs).Pairwise (fun a b => leD a b = true) := List.pairwise_mergeSort (fun a b c => leKey_trans a.key b.key c.key) (fun a b => leKey_total a.key b.key) xs
theorem sortD_uniq {xs ys : List D} (hk : ∀ x ∈ xs, x.isKey = true) (p : ys.Perm xs) (h : ys.Pairwise (fun a b => leD a b = true)) : ys = sortD xs := by
  refine List.Perm.eq_of_pairwise (le := fun a b => leD a b = true) (fun a b ha hb h1 h2 => ?_) h (sortD_pair xs) (p.trans (sortD_perm xs).symm)
  exact key_inj (hk a (p.mem_iff.mp ha)) (hk b ((sortD_perm xs).mem_iff.mp hb)) (leKey_anti _ _ h1 h2)

/-! ### values -/
def keyV : Value → Key
  | .int i _ => .inl i
  | .str x _ => .inr x
  | _ => .inl 0
def ltV (v u : Value) : Bool := !leKey (keyV u) (keyV v)
theorem swo_ltV : SrtO.Swo ltV := by
  refine ⟨fun x y h => ?_, fun x y z h1 h2 => ?_⟩
  · have := leKey_total (keyV x) (keyV y)
    unfold ltV at h ⊢
    simp at h
    simp [h] at this
    simp [this]
  · unfold ltV at h1 h2 ⊢
    simp at h1 h2 ⊢
    exact leKey_trans _ _ _ h1 h2
theorem relV_key {k : Key} {v : Value} (h : RelV (kV k) v) : keyV v = k := by
  rcases k with i | x <;> obtain ⟨t, rfl⟩ := h <;> rfl
theorem vals_key : ∀ {ks : List Key} {vs : List Value}, Vals (ks.map kV) vs → vs.map keyV = ks
  | [], _, .nil => rfl
  | k :: ks, _, .cons r t => by rw [List.map_cons, relV_key r, vals_key t]
theorem vals_mem : ∀ {ks : List Key} {vs : List Value}, Vals (ks.map kV) vs → ∀ v ∈ vs, RelV (kV (keyV v)) v
  | [], _, .nil, v, h => by simp at h
  | k :: ks, _, .cons r t, v, h => by
    rcases List.mem_cons.mp h with e | h
    · subst e; rw [relV_key r]; exact r
    · exact vals_mem t v h
theorem vals_back : ∀ {vs : List Value}, (∀ v ∈ vs, RelV (kV (keyV v)) v) → Vals ((vs.map keyV).map kV) vs
  | [], _ => .nil
  | v :: vs, h => .cons (h v (by simp)) (vals_back fun u hu => h u (by simp [hu]))
theorem keys_out {ks : List Key} {vs out : List Value} (hv : Vals (ks.map kV) vs) (hs : SrtO.Srtd ltV out) (hb : SrtO.Stb ltV out vs) : Vals ((out.map keyV).map kV) out ∧ (out.map keyV).Perm ks ∧ (out.map keyV).Pairwise (fun a b => leKey a b = true) := by
  refine ⟨vals_back fun v h => vals_mem hv v (hb.perm.mem_iff.mp h), ?_, ?_⟩
  · have := hb.perm.map keyV
    rw [vals_key hv] at this
    exact this
  · refine List.pairwise_map.mpr (hs.imp fun {x y} h => ?_)
    unfold ltV at h
    simpa using h
def homK (ks : List Key) : Prop := (∃ ns : List Int, ks = ns.map Sum.inl) ∨ ∃ ss : List Str, ks = ss.map Sum.inr
theorem ints_of {ns : List Int} {vs : List Value} (h : Vals ((ns.map (Sum.inl : Int → Key)).map kV) vs) : PyProof.Rows.IntsAre vs ns := by
  rw [List.map_map] at h
  exact Vals.ints h
theorem strs_of {ss : List Str} {vs : List Value} (h : Vals ((ss.map (Sum.inr : Str → Key)).map kV) vs) : PyProof.Rows.StrsAre vs ss := by
  rw [List.map_map] at h
  exact Vals.strs h
section
variable {prog : Program} {w : World} {A : Around} {s : Shared}
open PyProof.Rows Srt SrtO in
theorem keys_cmp {ks : List Key} {vs : List Value} (hv : Vals (ks.map kV) vs) (hom : homK ks) : Cmp prog w A s oneType' (fun p => p.1 ∈ vs) (lt2 ltV) := by
  intro p q hm hm'
  show wpAny (model prog w) A (keyLt' oneType' p.1 q.1) (fun r s' => s' = s ∧ r = ltV p.1 q.1) (fun _ _ => False) s
  rcases hom with ⟨ns, rfl⟩ | ⟨ss, rfl⟩
  · obtain ⟨a, t, e⟩ := ints_mem (ints_of hv) _ hm
    obtain ⟨b, u, e'⟩ := ints_mem (ints_of hv) _ hm'
    rw [e, e', keyLt'_oneType]
    refine oneLt_int ⟨rfl, ?_⟩
    show decide (a < b) = !decide (b ≤ a)
    by_cases h : a < b
    · simp [h]
    · simp [h]; omega
  · obtain ⟨a, t, e⟩ := (strs_of hv).all _ hm
    obtain ⟨b, u, e'⟩ := (strs_of hv).all _ hm'
    rw [e, e', keyLt'_oneType]
    refine oneLt_str ⟨rfl, ?_⟩
    show decide (a.cps.toList < b.cps.toList) = !decide (b.cps.toList ≤ a.cps.toList)
    by_cases h : a.cps.toList < b.cps.toList
    · have : ¬ b.cps.toList ≤ a.cps.toList := fun z => (List.not_lt.mpr z) h
      simp only [h, this, decide_true, decide_false, Bool.not_false]
    · have : b.cps.toList ≤ a.cps.toList := List.not_lt.mp h
      simp only [h, this, decide_true, decide_false, Bool.not_true]
open PyProof.Rows Srt SrtO in
theorem keys_sortable {a : Addr} {ks : List Key} {vs : List Value} (hv : Vals (ks.map kV) vs) (hom : homK ks) (h2 : 2 ≤ vs.length) : SortableO prog w A s a vs ltV := by
  intro h' _
  refine ⟨oneType', fun Q E hq => ?_, keys_cmp hv hom⟩
  match vs, hv, h2 with
  | v1 :: v2 :: rest, hv, _ =>
    rcases hom with ⟨ns, rfl⟩ | ⟨ss, rfl⟩
    · rw [keyKind_ints (ints_of hv)]
      exact wpAny_pure hq
    · rw [keyKind_strs (strs_of hv)]
      exact wpAny_pure hq
  | [], _, h => exact absurd h (by decide)
  | [v], _, h => exact absurd h (by simp)
end
/-- sorted(x) of a list or a dict of keys of one kind -/
def rSortK (K : PySem.W.Frag) : List V → Hp → VK → Prop := fun vs H Q => ∃ (a : Addr) (ks : List Key), vs = [V.ref a] ∧ (SqL K H a (ks.map kV) ∨ ∃ kvs, Rd H a (.dK kvs) ∧ kvs.map (·.1) = ks) ∧ homK ks ∧
  ∀ (ks' : List Key) (p : Addr), ks'.Perm ks → ks'.Pairwise (fun a b => leKey a b = true) → H p = none → Q (.ref p) (upd H p (.lst (ks'.map kV)))
section
variable {X : Cx}
open PyProof.Rows in
theorem cr_sortK (hcalm : X.calm = true) : CallR X (.builtin "sorted") (rSortK X.K) := by
  intro pins s σ H xs us Q I r q
  obtain ⟨a, ks, rfl, hx, hom, q⟩ := q
  rcases hx with hs | ⟨kvs, hd, hks⟩
  · obtain ⟨its, rv, hl, hz⟩ := I.list hs
    rw [Vals.ref1 r]
    refine SrtO.sorted_ord swo_ltV hl.isList (by rw [← rv.length]; exact hz) (fun h2 h₁ a' _ _ => keys_sortable rv hom h2) fun out h1 h2 => ?_
    obtain ⟨k1, k2, k3⟩ := keys_out rv h1 h2
    obtain ⟨ep, he'⟩ := PyProof.Rows.sortedAll_at s.heap its out.toArray
    have hlen : ((out.map keyV).map kV).length ≤ sizeLine := by
      rw [List.length_map, k2.length_eq]
      rw [List.length_map] at hz
      exact hz
    exact ⟨.ref _, upd H (s.heap.objs.size + 1) (.lst ((out.map keyV).map kV)), I.laid (t' := s.toks) (fun _ _ => PyProof.Rows.sortedAll_old) (Nat.le_succ _) ⟨hlen, out, ep, k1, he'⟩, rfl, q _ _ k2 k3 (I.hok.fresh (Nat.le_succ _))⟩
  · obtain ⟨u, eu, rx⟩ := vals1 r
    subst eu
    cases rx
    obtain ⟨z, lo, vs, rel, dd⟩ := dk_rd I.hok hd
    obtain ⟨ep, hat⟩ := dd.dictAt
    have hkeys : vs.map (·.1) = ks := rel.keys.symm.trans hks
    have hl : vs.length = ks.length := by
      have e := congrArg List.length hkeys
      rw [List.length_map] at e
      exact e
    have h16 : vs.length ≤ sizeLine := by rw [← rel.length]; exact z
    refine Calls.call_function_entry PyProof.Rows.kind_sorted PyProof.Rows.plain_sorted PyProof.Rows.entry_sorted (PyProof.Rows.args_sorted1 _) ?_
    unfold Builtin.«sorted»
    refine wpAny_bind (m := checkCount "sorted" 1 1 _) (wpAny_pure ?_)
    refine wpAny_bind (PySem.W.kdu_collect (A := X.A.in1) (PySem.W.kdl_dict (knd := mixKind X.prog X.w) (kvs := vs) (ep := ep) lo) (I.ok.hd hcalm) hat h16 fun h' tk acc hk hacc => ?_)
    have hv : Vals (ks.map kV) acc.toList := by
      rw [← hkeys, List.map_map]
      exact keys_at (by rw [Array.length_toList]; exact hacc.1) fun j v e => hacc.2 j v (by rw [← Array.getElem?_toList]; exact e)
    have hal : acc.toList.length = ks.length := by rw [Array.length_toList, hacc.1, hl]
    have hz : acc.toList.length ≤ sizeLine := by rw [hal, ← hl]; exact h16
    have I1 : Inv X pins σ H { s with heap := h', toks := tk } := I.kept hk
    refine wpAny_bind (wpAny_newList ?_ hz)
    have hoL : (h'.push (seqObj "list" acc.toList.toArray 0)).get? h'.objs.size = some (seqObj "list" acc.toList.toArray 0) := Heap.get?_push_size _ rfl
    show wpAny _ _ _ _ _ { s with heap := h'.push (seqObj "list" acc.toList.toArray 0), toks := tk }
    refine wpAny_bind (wpAny_holding (wpAny_call_entry PyProof.Rows.slot_list_sort ⟨_, hoL, rfl⟩ PyProof.Rows.entry_list_sort
      (SrtO.list_sort_ord swo_ltV (s := { s with heap := h'.push (seqObj "list" acc.toList.toArray 0), toks := tk }) hoL hz (fun h2 => keys_sortable hv hom h2) fun out h1 h2 => ⟨_, rfl, ?_⟩)
      (PyProof.Rows.args_list_sort _)))
    obtain ⟨k1, k2, k3⟩ := keys_out hv h1 h2
    obtain ⟨e', he'⟩ := PyProof.Rows.sortedHeap_at (vs := acc.toList) (out := out.toArray) hoL
    have hlen : ((out.map keyV).map kV).length ≤ sizeLine := by
      rw [List.length_map, k2.length_eq, ← hal]
      exact hz
    refine wpAny_pure ⟨_, rfl, .ref h'.objs.size, upd H h'.objs.size (.lst ((out.map keyV).map kV)), I1.laid (t' := tk) (fun b u e => ?_) (Nat.le_refl _)
      (show ObjOk X.prog X.w _ _ _ (.lst ((out.map keyV).map kV)) from ⟨hlen, out, e', k1, he'⟩), rfl, q _ _ k2 k3 (I1.hok.fresh (Nat.le_refl _))⟩
    have hb : b < h'.objs.size := Heap.lt_size e
    rw [PyProof.Rows.sortedHeap_old (Nat.ne_of_lt hb) (by rw [size_push']; exact Nat.lt_succ_of_lt hb)]
    exact Heap.get?_push_of_some _ e
end

/-! ### the keys of what is handed over -/
def isI : D → Bool
  | .int _ => true
  | _ => false
def isS : D → Bool
  | .str _ => true
  | _ => false
def homD (xs : List D) : Bool := xs.all isI || xs.all isS
theorem homD_key {xs : List D} (h : homD xs = true) : ∀ x ∈ xs, x.isKey = true := by
  unfold homD at h
  rw [Bool.or_eq_true, List.all_eq_true, List.all_eq_true] at h
  intro x hx
  rcases h with h | h
  · have := h x hx; cases x <;> simp [isI] at this <;> rfl
  · have := h x hx; cases x <;> simp [isS] at this <;> rfl
theorem homD_hom {xs : List D} (h : homD xs = true) : homK (xs.map (·.key)) := by
  unfold homD at h
  rw [Bool.or_eq_true, List.all_eq_true, List.all_eq_true] at h
  rcases h with h | h
  · refine .inl ⟨xs.map fun x => match x with | .int i => i | _ => 0, ?_⟩
    rw [List.map_map]
    refine List.map_congr_left fun x hx => ?_
    have := h x hx
    cases x <;> simp [isI] at this <;> rfl
  · refine .inr ⟨xs.map (·.name), ?_⟩
    rw [List.map_map]
    refine List.map_congr_left fun x hx => ?_
    have := h x hx
    cases x <;> simp [isS] at this <;> rfl
theorem reps_keys {K : PySem.W.Frag} {G : Hp} : ∀ {xs : List D} {vs : List V}, (∀ x ∈ xs, x.isKey = true) → RepDs K G xs vs → vs = xs.map fun x => kV x.key
  | _, _, _, .nil => rfl
  | _, _, h, .cons a b => by rw [isKey_kV (h _ (by simp)) a, reps_keys (fun x hx => h x (by simp [hx])) b, List.map_cons]
theorem keys_reps {K : PySem.W.Frag} {G : Hp} : ∀ {xs : List D}, (∀ x ∈ xs, x.isKey = true) → RepDs K G xs (xs.map fun x => kV x.key)
  | [], _ => .nil
  | x :: xs, h => .cons (sval_rep (isKey_sval (h x (by simp)))) (keys_reps fun y hy => h y (by simp [hy]))
def dctKeys (x : EV) (ρ : Fr) : Option (List D) := match look x ρ with
  | some (.leaf (some (.dict kvs))) => some (kvs.map (·.1))
  | some (.node _ .dct cs) => some (cs.map (·.1))
  | _ => none
theorem RepKs.fst {K : PySem.W.Frag} {G : Hp} : ∀ {kvs : List (D × D)} {ks : List (Key × V)}, RepKs K G kvs ks → ks.map (·.1) = kvs.map (·.1.key)
  | _, _, .nil => rfl
  | _, _, .cons _ _ h => by simp [RepKs.fst h]
theorem RepKs.isKey {K : PySem.W.Frag} {G : Hp} : ∀ {kvs : List (D × D)} {ks : List (Key × V)}, RepKs K G kvs ks → ∀ c ∈ kvs, c.1.isKey = true
  | _, _, .nil, c, h => by simp at h
  | _, _, .cons k _ h, c, hc => by
    rcases List.mem_cons.mp hc with e | e
    · rw [e]; exact k
    · exact RepKs.isKey h c e
section
variable {K : PySem.W.Frag} {G H : Hp} {σ : L2.St} {F : AF} {R S : List A}
theorem Rel.dctKeys {x : AV} {xs : List D} (r : Rel K G H σ F S) (hx : x.Ok F.sl) (hm : ∀ a ∈ x.trees, a ∈ S) (e : dctKeys x.er F.er = some xs) : ∃ a kvs, x.v = .ref a ∧ Rd H a (.dK kvs) ∧ kvs.map (·.1) = xs.map (·.key) ∧ (∀ x ∈ xs, x.isKey = true) := by
  unfold LT.dctKeys at e
  cases hl : LT.look x.er F.er with
  | none => rw [hl] at e; cases e
  | some t =>
    rw [hl] at e
    obtain ⟨c, h1, h2, sn⟩ := r.look hx hm hl
    cases t with
    | leaf o =>
      cases o with
      | none => cases e
      | some d =>
        cases d <;> try (cases e; done)
        rename_i kvs
        cases e
        have rp := sn.rep r.ok.sub (d := .dict kvs) (by rw [h1]; unfold TR.toD; rfl)
        rw [h2] at rp
        generalize hv : x.v = v at rp
        cases rp with
        | dct h3 h4 h5 => exact ⟨_, _, rfl, h3, by rw [RepKs.fst h4]; simp [Function.comp_def], fun y hy => by
            obtain ⟨c, hc, rfl⟩ := List.mem_map.mp hy
            exact RepKs.isKey h4 c hc⟩
    | node u k cs =>
      cases k <;> try (cases e; done)
      cases e
      obtain ⟨n, cs', rfl, rfl⟩ := er_node h1
      obtain ⟨k1, k2⟩ := sn.dct
      refine ⟨n.1, _, h2.symm, .inl k2, ?_, fun y hy => ?_⟩
      · rw [List.map_map, ers_map, List.map_map]
        simp [vals, Function.comp_def]
      · rw [ers_keys] at hy
        obtain ⟨c, hc, rfl⟩ := List.mem_map.mp hy
        exact k1 (c.1, c.2.val) (List.mem_map.mpr ⟨c, hc, rfl⟩)
end
def sortOp (as : List EV) (ρ : Fr) : Option (List D) := match as with
  | [x] => match seqL x ρ with
    | some xs => if homD xs = true then some (sortD xs) else none
    | none => match LT.dctKeys x ρ with
      | some xs => if homD xs = true then some (sortD xs) else none
      | none => none
  | _ => none
theorem sort_back {K : PySem.W.Frag} {G H : Hp} {xs : List D} {Q : VK} (h : homD xs = true) (hq : ∀ p, H p = none → Q (.ref p) (upd H p (.lst ((sortD xs).map fun x => kV x.key)))) :
    ∀ (ks' : List Key) (p : Addr), ks'.Perm (xs.map (·.key)) → ks'.Pairwise (fun a b => leKey a b = true) → H p = none → Q (.ref p) (upd H p (.lst (ks'.map kV))) := by
  intro ks' p hp hs hn
  have e : ks' = (sortD xs).map (·.key) := by
    refine List.Perm.eq_of_pairwise (le := fun a b => leKey a b = true) (fun a b _ _ h1 h2 => leKey_anti _ _ h1 h2) hs (List.pairwise_map.mpr (sortD_pair xs)) (hp.trans ((sortD_perm xs).map _).symm)
  rw [e, List.map_map]
  exact hq p hn
theorem ops_sort {K : PySem.W.Frag} {W : WX} : OpS K W (rSortK K) (mkL sortOp) := by
  refine ops_newL fun G H σ F R as Q xs rel ok e => ?_
  match as, rel, ok, e with
  | [a], rel, ok, e =>
    simp only [List.map_cons, List.map_nil, sortOp] at e
    cases hs : LT.seqL a.er F.er with
    | some ys =>
      rw [hs] at e
      simp only at e
      split at e
      · rename_i hh
        cases e
        obtain ⟨l, vs, s1, s2, s3⟩ := rel.seqL (ok a (by simp)) (fun z hz => by simp [hz]) hs
        have hk := homD_key hh
        refine ⟨_, keys_reps fun x hx => hk x ((sortD_perm ys).mem_iff.mp hx), fun hq => ?_⟩
        have ev := reps_keys hk s3
        refine ⟨l, ys.map (·.key), by simp [s1], .inl (SqL.of ?_), homD_hom hh, sort_back (K := K) (G := G) hh hq⟩
        rw [List.map_map]
        rw [ev] at s2
        exact s2
      · cases e
    | none =>
      rw [hs] at e
      simp only at e
      cases hd : LT.dctKeys a.er F.er with
      | none => rw [hd] at e; cases e
      | some ys =>
        rw [hd] at e
        simp only at e
        split at e
        · rename_i hh
          cases e
          obtain ⟨l, kvs, s1, s2, s3, s4⟩ := rel.dctKeys (ok a (by simp)) (fun z hz => by simp [hz]) hd
          have hk := homD_key hh
          refine ⟨_, keys_reps fun x hx => hk x ((sortD_perm ys).mem_iff.mp hx), fun hq => ?_⟩
          exact ⟨l, ys.map (·.key), by simp [s1], .inr ⟨kvs, s2, s3⟩, homD_hom hh, sort_back (K := K) (G := G) hh hq⟩
        · cases e
  | [], rel, ok, e => cases e
  | _ :: _ :: _, rel, ok, e => cases e
end LT

/-! LA24: dicts locked while they are walked. -/
namespace LT
open PySem PySem.Spec L2

structure RdK (G G' : Hp) : Prop where
  rd : ∀ a ks, Rd G a (.dK ks) → Rd G' a (.dK ks)
  lst : ∀ a xs, G a = some (.lst xs) → G' a = some (.lst xs)
  tup : ∀ a xs, G a = some (.tup xs) → G' a = some (.tup xs)
mutual
theorem RepD.monoK {K : PySem.W.Frag} {G G' : Hp} (s : RdK G G') : ∀ {d : D} {v : V}, RepD K G d v → RepD K G' d v
  | _, _, .non => .non
  | _, _, .bl b => .bl b
  | _, _, .int i => .int i
  | _, _, .str x => .str x
  | _, _, .lst h r => .lst (s.lst _ _ h) (RepDs.monoK s r)
  | _, _, .tup h r => .tup (s.tup _ _ h) (RepDs.monoK s r)
  | _, _, .dct h r n => .dct (s.rd _ _ h) (RepKs.monoK s r) n
theorem RepDs.monoK {K : PySem.W.Frag} {G G' : Hp} (s : RdK G G') : ∀ {d : List D} {v : List V}, RepDs K G d v → RepDs K G' d v
  | _, _, .nil => .nil
  | _, _, .cons a b => .cons (RepD.monoK s a) (RepDs.monoK s b)
theorem RepKs.monoK {K : PySem.W.Frag} {G G' : Hp} (s : RdK G G') : ∀ {d : List (D × D)} {v : List (Key × V)}, RepKs K G d v → RepKs K G' d v
  | _, _, .nil => .nil
  | _, _, .cons a b c => .cons a (RepD.monoK s b) (RepKs.monoK s c)
end
theorem Rel.reG {K : PySem.W.Frag} {G G' H H' : Hp} {σ : L2.St} {F : AF} {R : List A} (r : Rel K G H σ F R) (s : Sub G' H') (k : RdK G G') (hf : ∀ b, G b = none → G' b = none) (hh : ∀ b, G b = none → H' b = H b) : Rel K G' H' σ F R :=
  ⟨⟨s, fun n q => by rw [hh _ (r.ok.free n q)]; exact r.ok.nodes n q, fun l q x e => RepD.monoK k (r.ok.leaves l q x e), r.ok.one, fun n q => hf _ (r.ok.free n q)⟩, r.len, r.own, r.al, r.tm, r.io⟩
theorem RdK.lock {G : Hp} {a : Addr} {o : Obj} {ks : List (Key × V)} (h : Rd G a (.dK ks)) : RdK G (upd G a (.frz o (.dK ks))) := by
  refine ⟨fun b w hr => ?_, fun b xs hb => ?_, fun b xs hb => ?_⟩
  · by_cases hb : b = a
    · subst hb
      rcases hr with hr | ⟨o', hr⟩ <;> rcases h with h | ⟨o2, h⟩ <;> rw [h] at hr <;> cases hr <;> exact .inr ⟨o, upd_same⟩
    · rcases hr with hr | ⟨o', hr⟩
      · exact .inl (by rw [upd_ne hb]; exact hr)
      · exact .inr ⟨o', by rw [upd_ne hb]; exact hr⟩
  · have hba : b ≠ a := fun z => by subst z; rcases h with h | ⟨o2, h⟩ <;> rw [h] at hb <;> cases hb
    rw [upd_ne hba]; exact hb
  · have hba : b ≠ a := fun z => by subst z; rcases h with h | ⟨o2, h⟩ <;> rw [h] at hb <;> cases hb
    rw [upd_ne hba]; exact hb
theorem RdK.unlock {G : Hp} {a : Addr} {o : Obj} {ks : List (Key × V)} (h : G a = some (.frz o (.dK ks))) : RdK G (upd G a (.dK ks)) := by
  refine ⟨fun b w hr => ?_, fun b xs hb => ?_, fun b xs hb => ?_⟩
  · by_cases hb : b = a
    · subst hb
      rcases hr with hr | ⟨o', hr⟩ <;> rw [h] at hr <;> cases hr
      exact .inl upd_same
    · rcases hr with hr | ⟨o', hr⟩
      · exact .inl (by rw [upd_ne hb]; exact hr)
      · exact .inr ⟨o', by rw [upd_ne hb]; exact hr⟩
  · have hba : b ≠ a := fun z => by subst z; rw [h] at hb; cases hb
    rw [upd_ne hba]; exact hb
  · have hba : b ≠ a := fun z => by subst z; rw [h] at hb; cases hb
    rw [upd_ne hba]; exact hb
theorem none_upd {G : Hp} {a : Addr} {u w : HO} (h : G a = some w) : ∀ b, G b = none → (upd G a u) b = none := fun b hb => by
  have : b ≠ a := fun z => by subst z; rw [h] at hb; cases hb
  rw [upd_ne this]; exact hb
theorem same_updH {G H : Hp} {a : Addr} {u w : HO} (h : G a = some w) : ∀ b, G b = none → (upd H a u) b = H b := fun b hb => by
  have : b ≠ a := fun z => by subst z; rw [h] at hb; cases hb
  rw [upd_ne this]
section
variable {K : PySem.W.Frag} {G G' H H' : Hp} {σ : L2.St} {F : AF} {R : List A} {a : Addr} {o : Obj} {ks : List (Key × V)}
/-- the dict at a is locked now -/
theorem Rel.lock (r : Rel K G H σ F R) (h : G a = some (.dK ks)) (o : Obj) : Rel K (upd G a (.frz o (.dK ks))) (upd H a (.frz o (.dK ks))) σ F R :=
  r.reG (fun b q hq => by
    by_cases hb : b = a
    · subst hb; rw [upd_same] at hq ⊢; exact hq
    · rw [upd_ne hb] at hq ⊢; exact r.ok.sub b q hq) (.lock (.inl h)) (none_upd h) (same_updH h)
theorem Rel.frzAt (r : Rel K G H σ F R) (h : G a = some (.frz o (.dK ks))) : H a = some (.frz o (.dK ks)) := r.ok.sub a _ h
theorem Rel.unlock (r : Rel K G H σ F R) (h : G a = some (.frz o (.dK ks))) : Rel K (upd G a (.dK ks)) (upd H a (.dK ks)) σ F R :=
  r.reG (fun b q hq => by
    by_cases hb : b = a
    · subst hb; rw [upd_same] at hq ⊢; exact hq
    · rw [upd_ne hb] at hq ⊢; exact r.ok.sub b q hq) (.unlock h) (none_upd h) (same_updH h)
theorem Same.unlock (h : G a = some (.dK ks)) (s : Same (upd G a (.frz o (.dK ks))) G') : G' a = some (.frz o (.dK ks)) ∧ Same G (upd G' a (.dK ks)) := by
  refine ⟨s _ _ upd_same, fun b q hq => ?_⟩
  by_cases hb : b = a
  · subst hb; rw [upd_same, ← h]; exact hq
  · rw [upd_ne hb]; exact s _ _ (by rw [upd_ne hb]; exact hq)
end
theorem Nx.unlock {G G' : Hp} {F F' : AF} {a : Addr} {o : Obj} {ks : List (Key × V)} (h : G a = some (.dK ks)) (n : Nx (upd G a (.frz o (.dK ks))) G' F F') : G' a = some (.frz o (.dK ks)) ∧ Nx G (upd G' a (.dK ks)) F F' :=
  ⟨(Same.unlock h n.same).1, (Same.unlock h n.same).2, n.io, n.tl, n.tm⟩

/-! ### a walk whose iterator is known -/
theorem for_core {K : PySem.W.Frag} {W : WX} {g : TG} {asg : D → Fr → Option Fr} {is ws : List Nat} {body : M SO} (hg : TgOk K g asg is) {D : Ends} {σ : L2.St} {G1 H1 : Hp} {F1 : AF} {R : List A} {ds : List PyData} {J : It} {r : Except Ex SO} {ρ' : Fr}
    (it : ItOk K J G1 ds) (rel1 : Rel K G1 H1 σ F1 R) (e : LT.forD asg ws body ds F1.er = some (r, ρ')) (k : ∀ G' H' F' σ', Nx G1 G' F1 F' → F'.er = ρ' → Fin K W D R r G' H' F' σ') :
    ∃ W' : Nat → Nat → L2.St → Hp → Prop, (∃ m, W' 0 m σ H1) ∧ ∀ i m σ H, W' i m σ H → (J.stop i H ∧ D.nx σ H) ∨ (J.go i H ∧ ∃ N : L2.St → Hp → Prop, (∀ σ' H', N σ' H' → ∃ m', m' < m ∧ W' (i + 1) m' σ' H') ∧ ∀ x H', J.yld i H x H' → g x σ H' fun σ2 H2 => tDS K W body { D with nx := N, ct := N, bk := D.nx } σ2 H2) := by
  refine ⟨fun i m σ2 H2 => i + m = ds.length ∧ ∃ G2 F2, Nx G1 G2 F1 F2 ∧ Rel K G2 H2 σ2 F2 R ∧ LT.forD asg ws body (ds.drop i) F2.er = some (r, ρ'), ⟨ds.length, by simp, G1, F1, Nx.refl _ _, rel1, by simpa using e⟩, ?_⟩
  rintro i m σ2 H2 ⟨hm, G2, F2, n2, rel2, e2⟩
  cases hd : ds[i]? with
  | none =>
    have hi : ds.length ≤ i := by simpa using hd
    have : i = ds.length := by omega
    subst this
    refine .inl ⟨it.stop G2 H2 n2.same rel2.ok.sub, ?_⟩
    rw [List.drop_length] at e2
    cases e2
    obtain ⟨r3, n3⟩ := rel2.wipe ws
    exact k G2 H2 (F2.wipe ws) σ2 (n2.trans n3) (AF.wipe_er ws F2) r3
  | some d =>
    obtain ⟨hgo, hy⟩ := it.go i d G2 H2 hd n2.same rel2.ok.sub
    have hlt := (List.getElem?_eq_some_iff.mp hd).1
    refine .inr ⟨hgo, fun σ' H' => ∃ G3 F3, Nx G1 G3 F1 F3 ∧ Rel K G3 H' σ' F3 R ∧ LT.forD asg ws body (ds.drop (i + 1)) F3.er = some (r, ρ'), fun σ' H' ⟨G3, F3, n3, rel3, e3⟩ => ⟨m - 1, by omega, by omega, G3, F3, n3, rel3, e3⟩, fun x H' yl => ?_⟩
    have hdrop : ds.drop i = d :: ds.drop (i + 1) := by
      rw [List.drop_eq_getElem_cons hlt]
      congr 1
      exact (List.getElem?_eq_some_iff.mp hd).2
    rw [hdrop] at e2
    simp only [LT.forD] at e2
    obtain ⟨G3, n3, rel3, rd⟩ := rel2.came (hy x H' yl)
    obtain ⟨rel4, n4⟩ := rel3.wipe ws
    rw [← AF.wipe_er] at e2
    cases q2 : asg d (F2.wipe ws).er with
    | none => rw [q2] at e2; cases e2
    | some ρ2 =>
      rw [q2] at e2
      simp only at e2
      refine hg.run G3 H' σ2 (F2.wipe ws) R d x ρ2 _ rel4 rd q2 fun F5 σ5 n5 e5 rel5 _ _ => ?_
      subst e5
      cases q3 : body F5.er with
      | none => rw [q3] at e2; cases e2
      | some y3 =>
        obtain ⟨r3, ρ3⟩ := y3
        rw [q3] at e2
        simp only at e2
        refine tDS_of rel5 q3 fun G6 H6 F6 σ6 n6 e6 => ?_
        subst e6
        have nn : Nx G1 G6 F1 F6 := n2.trans (n3.trans (n4.trans (n5.trans n6)))
        cases r3 with
        | error ex => cases e2; exact k G6 H6 F6 σ6 (nn) rfl
        | ok o =>
          cases o with
          | nx => exact fun rel6 => ⟨G6, F6, nn, rel6, e2⟩
          | ct => exact fun rel6 => ⟨G6, F6, nn, rel6, e2⟩
          | brk =>
            cases e2
            intro rel6
            obtain ⟨r7, n7⟩ := rel6.wipe ws
            exact k G6 H6 (F6.wipe ws) σ6 ((nn).trans n7) (AF.wipe_er ws F6) r7
          | ret t => cases e2; exact k G6 H6 F6 σ6 (nn) rfl
theorem lc_core {K : PySem.W.Frag} {W : WX} {g : TG} {asg : D → Fr → Option Fr} {is vs : List Nat} {fc : M Bool} {fe : M EV} (hg : TgOk K g asg is) (his : ∀ i ∈ is, i ∈ vs) {σ : L2.St} {Q : VK} {G1 H1 : Hp} {F1 : AF} {R : List A} {ds : List D} {J : It} {r : Except Ex EV} {ρ' : Fr}
    (it : ItOk K J G1 ds) (rel1 : Rel K G1 H1 σ F1 R) (hio : (F1.er.io.any fun i => vs.contains i) = false) (e : lcD asg vs fc fe ds [] (F1.er.wipe vs) = some (r, ρ'))
    (k : ∀ G' H' F', Nx G1 G' F1 F' → F'.er = ρ' → match r with
      | .ok ev => ∀ av : AV, Rel K G' H' σ F' (av.trees ++ R) → av.Ok F'.sl → av.er = ev → Q av.v H'
      | .error ex => RaiseOk K W σ R ex G' H' F') :
    ∀ D, H1 D = none → ∃ W : Nat → Nat → Hp → Prop, (∃ m, W 0 m (upd H1 D (.lst []))) ∧ ∀ i m H, W i m H →
  (J.stop i H ∧ Q (.ref D) H) ∨ (J.go i H ∧ ∃ Nx : Hp → Prop, (∀ H', Nx H' → ∃ m', m' < m ∧ W (i + 1) m' H') ∧ ∀ x H', J.yld i H x H' → g x (L2.wipe σ vs) H' fun σ2 H2 => L2.wipe σ2 vs = L2.wipe σ vs ∧ tDT K W0 fc σ2 H2 fun b H3 =>
    if b = true then tD K W0 fe σ2 H3 fun y H4 => ∃ acc, H4 D = some (.lst acc) ∧ acc.length < sizeLine ∧ Nx (upd H4 D (.lst (acc ++ [y]))) else Nx H3) := by
  intro p hp
  obtain ⟨relw, nw⟩ := rel1.wipe vs
  have rel2 : Rel K G1 (upd H1 p (.lst [])) σ (F1.wipe vs) (.node (p, 0) .lst [] :: R) := Rel.newNode (cs := []) (by simpa using relw) hp rfl
  refine ⟨fun i m H2 => i + m = ds.length ∧ ∃ G2 F2, ∃ acc : List A, Nx G1 G2 F1 F2 ∧ Clean vs F2.sl ∧ Rel K G2 H2 σ F2 (.node (p, 0) .lst (acc.map fun t => (.none, t)) :: R) ∧ lcD asg vs fc fe (ds.drop i) (acc.map er) F2.er = some (r, ρ'),
    ⟨ds.length, by simp, G1, F1.wipe vs, [], nw, clean_wipe hio, rel2, by rw [AF.wipe_er]; exact e⟩, ?_⟩
  rintro i m H2 ⟨hm, G2, F2, acc, n2, cl2, rel2, e2⟩
  cases hd : ds[i]? with
  | none =>
    have hi : ds.length ≤ i := by simpa using hd
    have : i = ds.length := by omega
    subst this
    refine .inl ⟨it.stop G2 H2 n2.same rel2.ok.sub, ?_⟩
    rw [List.drop_length] at e2
    cases e2
    exact k G2 H2 F2 n2 rfl (.val (.node (p, 0) .lst (acc.map fun t => (.none, t)))) (by simpa [AV.trees] using rel2) trivial (by simp [AV.er, er, ers_map, Function.comp_def])
  | some d =>
    obtain ⟨hgo, hy⟩ := it.go i d G2 H2 hd n2.same rel2.ok.sub
    have hlt := (List.getElem?_eq_some_iff.mp hd).1
    refine .inr ⟨hgo, fun H' => ∃ G3 F3, ∃ acc : List A, Nx G1 G3 F1 F3 ∧ Clean vs F3.sl ∧ Rel K G3 H' σ F3 (.node (p, 0) .lst (acc.map fun t => (.none, t)) :: R) ∧ lcD asg vs fc fe (ds.drop (i + 1)) (acc.map er) F3.er = some (r, ρ'),
      fun H' hh => ⟨m - 1, by omega, by omega, hh⟩, fun x H' yl => ?_⟩
    have hdrop : ds.drop i = d :: ds.drop (i + 1) := by
      rw [List.drop_eq_getElem_cons hlt]
      congr 1
      exact (List.getElem?_eq_some_iff.mp hd).2
    rw [hdrop] at e2
    simp only [lcD] at e2
    obtain ⟨G3, n3, rel3, rd⟩ := rel2.came (hy x H' yl)
    cases q2 : asg d F2.er with
    | none => rw [q2] at e2; cases e2
    | some ρ2 =>
      rw [q2] at e2
      simp only at e2
      refine hg.run G3 H' (L2.wipe σ vs) F2 _ d x ρ2 _ (rel3.toWipe cl2) rd q2 fun F5 σ5 n5 e5 rel5 l5 s5 => ?_
      subst e5
      have hw : L2.wipe σ5 vs = L2.wipe σ vs := by
        have h1 : L2.wipe σ5 vs = L2.wipe (L2.wipe σ vs) vs := wipe_ext l5 fun i hi => s5 i fun z => hi (his i z)
        have h2 : L2.wipe (L2.wipe σ vs) vs = L2.wipe σ vs := wipe_ext (wipe_length _ _) fun i hi => wipe_get hi
        exact h1.trans h2
      refine ⟨hw, ?_⟩
      have ioF : ∀ {G' : Hp} {F' : AF}, Nx G1 G' F1 F' → (F'.er.io.any fun i => vs.contains i) = false := fun {G' F'} nn => by
        have : F'.er.io = F1.er.io := by show F'.io.map _ = F1.io.map _; rw [nn.io]
        rw [this]; exact hio
      cases q3 : fc F5.er with
      | none => rw [q3] at e2; cases e2
      | some y3 =>
        obtain ⟨r3, ρ3⟩ := y3
        rw [q3] at e2
        cases r3 with
        | error ex => cases e2
        | ok b =>
          refine ⟨G3, F5, _, rel5, _, _, q3, fun G6 H6 F6 n6 e6 rel6 => ?_⟩
          subst e6
          have nn6 : Nx G1 G6 F1 F6 := n2.trans (n3.trans (n5.trans n6))
          cases b with
          | false =>
            rw [if_neg Bool.false_ne_true]
            simp only at e2
            obtain ⟨rel7, n7⟩ := rel6.wipe vs
            exact ⟨G6, F6.wipe vs, acc, nn6.trans n7, clean_wipe (ioF nn6), rel7.ofWipe (clean_wipe (ioF nn6)) hw, by rw [AF.wipe_er]; exact e2⟩
          | true =>
            rw [if_pos rfl]
            simp only at e2
            cases q4 : fe F6.er with
            | none => rw [q4] at e2; cases e2
            | some y4 =>
              obtain ⟨r4, ρ4⟩ := y4
              rw [q4] at e2
              cases r4 with
              | error ex => cases e2
              | ok ev =>
                cases ev with
                | ptr j q => cases e2
                | val t =>
                  simp only at e2
                  split at e2
                  · rename_i hsz
                    refine ⟨G6, F6, _, rel6, _, _, q4, fun G8 H8 F8 n8 e8 av rel8 ok8 ex8 => ?_⟩
                    subst e8
                    cases av with
                    | ptr j q v => cases ex8
                    | val a =>
                      cases ex8
                      have rel8 : Rel K G8 H8 σ5 F8 (a :: (.node (p, 0) .lst (acc.map fun t => (.none, t)) :: R)) := by simpa [AV.trees] using rel8
                      have sn : Seen K G8 H8 (.node (p, 0) .lst (acc.map fun t => (.none, t))) := rel8.ok.seen (by simp)
                      refine ⟨_, sn.lst, by simpa [vals] using hsz, ?_⟩
                      have rel9 : Rel K G8 H8 σ5 F8 (.node (p, 0) .lst (acc.map fun t => (.none, t)) :: ([a] ++ R)) := rel8.perm (U := []) (by rw [List.append_nil]; exact List.Perm.swap _ _ _)
                      have rel10 := rel9.mutR (U := []) (cs' := (acc ++ [a]).map fun t => (.none, t)) rfl rfl (by simp [Function.comp_def])
                      have ev : (vals ((acc ++ [a]).map fun t => ((.none : D), t))).map (·.2) = (vals (acc.map fun t => ((.none : D), t))).map (·.2) ++ [a.val] := by simp [vals]
                      rw [ev] at rel10
                      obtain ⟨rel11, n11⟩ := rel10.wipe vs
                      have nn8 : Nx G1 G8 F1 F8 := nn6.trans n8
                      exact ⟨G8, F8.wipe vs, acc ++ [a], nn8.trans n11, clean_wipe (ioF nn8), (by rw [List.map_append] at *; exact rel11.ofWipe (clean_wipe (ioF nn8)) hw), by rw [AF.wipe_er, List.map_append, List.map_singleton]; exact e2⟩
                  · cases e2
end LT

/-! LA25: walks over dicts, dict comprehensions. -/
namespace LT
open PySem PySem.Spec L2

/-! ### dict comprehensions -/
def dcD (asg : D → Fr → Option Fr) (vs : List Nat) (fc : M Bool) (fk fe : M EV) : List D → List (D × T) → M EV
  | [], acc, ρ => some (.ok (.val (.node () .dct acc)), ρ)
  | d :: ds, acc, ρ => match asg d ρ with
    | none => none
    | some ρ1 => match fc ρ1 with
      | some (.ok true, ρ2) => match fk ρ2 with
        | some (.ok (.val (.leaf (some q))), ρ3) => if q.isKey = true then (match fe ρ3 with
          | some (.ok (.val t), ρ4) => if acc.length < sizeLine then dcD asg vs fc fk fe ds (putD acc q t) (ρ4.wipe vs) else none
          | _ => none) else none
        | _ => none
      | some (.ok false, ρ2) => dcD asg vs fc fk fe ds acc (ρ2.wipe vs)
      | _ => none
theorem keysOk_nil : keysOk [] = true := by decide
theorem dc_core {K : PySem.W.Frag} {W : WX} {g : TG} {asg : D → Fr → Option Fr} {is vs : List Nat} {fc : M Bool} {fk fe : M EV} (hg : TgOk K g asg is) (his : ∀ i ∈ is, i ∈ vs) {σ : L2.St} {Q : VK} {G1 H1 : Hp} {F1 : AF} {R : List A} {ds : List D} {J : It} {r : Except Ex EV} {ρ' : Fr}
    (it : ItOk K J G1 ds) (rel1 : Rel K G1 H1 σ F1 R) (hio : (F1.er.io.any fun i => vs.contains i) = false) (e : dcD asg vs fc fk fe ds [] (F1.er.wipe vs) = some (r, ρ'))
    (k : ∀ G' H' F', Nx G1 G' F1 F' → F'.er = ρ' → match r with
      | .ok ev => ∀ av : AV, Rel K G' H' σ F' (av.trees ++ R) → av.Ok F'.sl → av.er = ev → Q av.v H'
      | .error ex => RaiseOk K W σ R ex G' H' F') :
    ∀ D, H1 D = none → ∃ W : Nat → Nat → Hp → Prop, (∃ m, W 0 m (upd H1 D (.dK []))) ∧ ∀ i m H, W i m H →
  (J.stop i H ∧ Q (.ref D) H) ∨ (J.go i H ∧ ∃ Nx : Hp → Prop, (∀ H', Nx H' → ∃ m', m' < m ∧ W (i + 1) m' H') ∧ ∀ x H', J.yld i H x H' → g x (L2.wipe σ vs) H' fun σ2 H2 => L2.wipe σ2 vs = L2.wipe σ vs ∧ tDT K W0 fc σ2 H2 fun b H3 =>
    if b = true then tD K W0 fk σ2 H3 fun y H4 => tD K W0 fe σ2 H4 fun z H5 => ∃ kvs k, y = kV k ∧ H5 D = some (.dK kvs) ∧ kvs.length < sizeLine ∧ Nx (upd H5 D (.dK (putK kvs k z))) else Nx H3) := by
  intro p hp
  obtain ⟨relw, nw⟩ := rel1.wipe vs
  have rel2 : Rel K G1 (upd H1 p (.dK [])) σ (F1.wipe vs) (.node (p, 0) .dct [] :: R) := Rel.newNode (cs := []) (by simpa using relw) hp (nodeObjs_dct (l := []) keysOk_nil)
  refine ⟨fun i m H2 => i + m = ds.length ∧ ∃ G2 F2, ∃ acc : List (D × A), Nx G1 G2 F1 F2 ∧ Clean vs F2.sl ∧ Rel K G2 H2 σ F2 (.node (p, 0) .dct acc :: R) ∧ dcD asg vs fc fk fe (ds.drop i) (ers acc) F2.er = some (r, ρ'),
    ⟨ds.length, by simp, G1, F1.wipe vs, [], nw, clean_wipe hio, rel2, by rw [AF.wipe_er]; exact e⟩, ?_⟩
  rintro i m H2 ⟨hm, G2, F2, acc, n2, cl2, rel2, e2⟩
  cases hd : ds[i]? with
  | none =>
    have hi : ds.length ≤ i := by simpa using hd
    have : i = ds.length := by omega
    subst this
    refine .inl ⟨it.stop G2 H2 n2.same rel2.ok.sub, ?_⟩
    rw [List.drop_length] at e2
    cases e2
    exact k G2 H2 F2 n2 rfl (.val (.node (p, 0) .dct acc)) (by simpa [AV.trees] using rel2) trivial (by simp [AV.er, er])
  | some d =>
    obtain ⟨hgo, hy⟩ := it.go i d G2 H2 hd n2.same rel2.ok.sub
    have hlt := (List.getElem?_eq_some_iff.mp hd).1
    refine .inr ⟨hgo, fun H' => ∃ G3 F3, ∃ acc : List (D × A), Nx G1 G3 F1 F3 ∧ Clean vs F3.sl ∧ Rel K G3 H' σ F3 (.node (p, 0) .dct acc :: R) ∧ dcD asg vs fc fk fe (ds.drop (i + 1)) (ers acc) F3.er = some (r, ρ'),
      fun H' hh => ⟨m - 1, by omega, by omega, hh⟩, fun x H' yl => ?_⟩
    have hdrop : ds.drop i = d :: ds.drop (i + 1) := by
      rw [List.drop_eq_getElem_cons hlt]
      congr 1
      exact (List.getElem?_eq_some_iff.mp hd).2
    rw [hdrop] at e2
    simp only [dcD] at e2
    obtain ⟨G3, n3, rel3, rd⟩ := rel2.came (hy x H' yl)
    cases q2 : asg d F2.er with
    | none => rw [q2] at e2; cases e2
    | some ρ2 =>
      rw [q2] at e2
      simp only at e2
      refine hg.run G3 H' (L2.wipe σ vs) F2 _ d x ρ2 _ (rel3.toWipe cl2) rd q2 fun F5 σ5 n5 e5 rel5 l5 s5 => ?_
      subst e5
      have hw : L2.wipe σ5 vs = L2.wipe σ vs := by
        have h1 : L2.wipe σ5 vs = L2.wipe (L2.wipe σ vs) vs := wipe_ext l5 fun i hi => s5 i fun z => hi (his i z)
        have h2 : L2.wipe (L2.wipe σ vs) vs = L2.wipe σ vs := wipe_ext (wipe_length _ _) fun i hi => wipe_get hi
        exact h1.trans h2
      refine ⟨hw, ?_⟩
      have ioF : ∀ {G' : Hp} {F' : AF}, Nx G1 G' F1 F' → (F'.er.io.any fun i => vs.contains i) = false := fun {G' F'} nn => by
        have : F'.er.io = F1.er.io := by show F'.io.map _ = F1.io.map _; rw [nn.io]
        rw [this]; exact hio
      cases q3 : fc F5.er with
      | none => rw [q3] at e2; cases e2
      | some y3 =>
        obtain ⟨r3, ρ3⟩ := y3
        rw [q3] at e2
        cases r3 with
        | error ex => cases e2
        | ok b =>
          refine ⟨G3, F5, _, rel5, _, _, q3, fun G6 H6 F6 n6 e6 rel6 => ?_⟩
          subst e6
          have nn6 : Nx G1 G6 F1 F6 := n2.trans (n3.trans (n5.trans n6))
          cases b with
          | false =>
            rw [if_neg Bool.false_ne_true]
            simp only at e2
            obtain ⟨rel7, n7⟩ := rel6.wipe vs
            exact ⟨G6, F6.wipe vs, acc, nn6.trans n7, clean_wipe (ioF nn6), rel7.ofWipe (clean_wipe (ioF nn6)) hw, by rw [AF.wipe_er]; exact e2⟩
          | true =>
            rw [if_pos rfl]
            simp only at e2
            cases q4 : fk F6.er with
            | none => rw [q4] at e2; cases e2
            | some y4 =>
              obtain ⟨r4, ρ4⟩ := y4
              rw [q4] at e2
              cases r4 with
              | error ex => cases e2
              | ok ev =>
                cases ev with
                | ptr j q => cases e2
                | val tk =>
                  cases tk with
                  | node _ _ _ => cases e2
                  | leaf oq =>
                    cases oq with
                    | none => cases e2
                    | some q =>
                      simp only at e2
                      split at e2
                      · rename_i hq
                        refine ⟨G6, F6, _, rel6, _, _, q4, fun G7 H7 F7 n7 e7 avk rel7 ok7 ex7 => ?_⟩
                        subst e7
                        obtain ⟨vk, rfl⟩ := avd ex7
                        have rk : RepD K G7 q vk := rel7.ok.leaves (some q, vk) (by simp [AV.trees, leaves]) q rfl
                        have ek := isKey_kV hq rk
                        have rel7' := rel7.drop
                        cases q5 : fe F7.er with
                        | none => rw [q5] at e2; cases e2
                        | some y5 =>
                          obtain ⟨r5, ρ5⟩ := y5
                          rw [q5] at e2
                          cases r5 with
                          | error ex => cases e2
                          | ok ev =>
                            cases ev with
                            | ptr j q => cases e2
                            | val t =>
                              simp only at e2
                              split at e2
                              · rename_i hsz
                                refine ⟨G7, F7, _, rel7', _, _, q5, fun G8 H8 F8 n8 e8 av rel8 ok8 ex8 => ?_⟩
                                subst e8
                                cases av with
                                | ptr j q v => cases ex8
                                | val a =>
                                  cases ex8
                                  have rel8 : Rel K G8 H8 σ5 F8 (a :: (.node (p, 0) .dct acc :: R)) := by simpa [AV.trees] using rel8
                                  have sn : Seen K G8 H8 (.node (p, 0) .dct acc) := rel8.ok.seen (by simp)
                                  obtain ⟨ok1, ok2⟩ := sn.dctK
                                  refine ⟨kvOf (vals acc), q.key, ek, ok2, by simpa [vals, kvOf, ers_map] using hsz, ?_⟩
                                  have rel9 : Rel K G8 H8 σ5 F8 (.node (p, 0) .dct acc :: ([a] ++ R)) := rel8.perm (U := []) (by rw [List.append_nil]; exact List.Perm.swap _ _ _)
                                  obtain ⟨U, hU, _⟩ := putD_perm q a acc
                                  have ok1' : keysOk ((vals acc).map (·.1)) = true := by rw [vals_fst]; exact ok1
                                  have ok3 : keysOk ((vals (putD acc q a)).map (·.1)) = true := by
                                    rw [vals_put]
                                    exact (putD_keys hq a.val ok1').1
                                  have rel10 := rel9.mutR (U := U) (cs' := putD acc q a) (nodeObjs_dct ok1') (nodeObjs_dct ok3) hU
                                  have ev : kvOf (vals (putD acc q a)) = putK (kvOf (vals acc)) q.key a.val := by
                                    rw [vals_put, putK_put hq a.val ok1']
                                  rw [ev] at rel10
                                  have rel10' : Rel K G8 (upd H8 p (.dK (putK (kvOf (vals acc)) q.key a.val))) σ5 F8 (.node (p, 0) .dct (putD acc q a) :: R) := rel10.perm (U := U) (by
                                    rw [List.cons_append]
                                    exact List.Perm.cons _ List.perm_append_comm)
                                  obtain ⟨rel11, n11⟩ := rel10'.wipe vs
                                  have nn8 : Nx G1 G8 F1 F8 := nn6.trans (n7.trans n8)
                                  exact ⟨G8, F8.wipe vs, putD acc q a, nn8.trans n11, clean_wipe (ioF nn8), rel11.ofWipe (clean_wipe (ioF nn8)) hw, by rw [AF.wipe_er, ers_put]; exact e2⟩
                              · cases e2
                      · cases e2
end LT

/-! LA26: for and comprehensions over dicts; sorted; dict(d). -/
namespace LT
open PySem PySem.Spec L2

theorem PS.or {X : Cx} {e : Stmt} {t t' : L2.TS} (h : PS X e t) (h' : PS X e t') : PS X e (fun D σ H => t D σ H ∨ t' D σ H) := ⟨fun pins s σ H D I q => q.elim (h.run pins s σ H D I) (h'.run pins s σ H D I)⟩
theorem PE.or {X : Cx} {e : Expr} {t t' : TE} (h : PE X e t) (h' : PE X e t') : PE X e (fun σ H Q => t σ H Q ∨ t' σ H Q) := ⟨fun pins s σ H Q I q => q.elim (h.run pins s σ H Q I) (h'.run pins s σ H Q I)⟩
theorem RdK.of_le {G G' : Hp} (h : RdLe G G') : RdK G G' := ⟨fun a ks => h.rd a _, h.lst, h.tup⟩
theorem RdK.trans {G1 G2 G3 : Hp} (a : RdK G1 G2) (b : RdK G2 G3) : RdK G1 G3 := ⟨fun x ks h => b.rd x ks (a.rd x ks h), fun x ks h => b.lst x ks (a.lst x ks h), fun x ks h => b.tup x ks (a.tup x ks h)⟩

/-! ### what stands still: names, items -/
/-- an expression that is read in place -/
structure SE (X : Cx) (e : Expr) (f : Fr → Option D) (rl : L2.St → Hp → V → Prop) : Prop where
  ex : ∀ (G H : Hp) (σ : L2.St) (F : AF) (R : List A) (d : D), Rel X.K G H σ F R → f F.er = some d → ∃ v, rl σ G v ∧ RepD X.K G d v
  pe : PE X e (fun σ H Q => ∃ G v, rl σ G v ∧ RdK G H ∧ Q v H)
def sVar (i : Nat) (ρ : Fr) : Option D := match ρ.sl[i]? with
  | some (.own (.leaf (some d))) => some d
  | _ => none
theorem se_var {X : Cx} {x : Str} {pos : Pos} (i : Nat) (hi : X.N[i]? = some x := by rfl) (hv : Vis X.env.scope x := by first | exact Or.inl rfl | exact Or.inr (Or.inl rfl) | exact Or.inr (Or.inr rfl)) (hd : (x == ("__debug__" : Str)) = false := by decide)
    (hcd : (x == ("__classdict__" : Str)) = false := by decide) : SE X (.Name x pos) (sVar i) (fun σ _ v => σ[i]? = some (some v)) := by
  refine ⟨fun G H σ F R d rel e => ?_, PE.imp (pe_var hi hv hd hcd) fun σ H Q ⟨G, v, h1, _, h3⟩ => ⟨v, h1, h3⟩⟩
  unfold sVar at e
  rw [sl_er] at e
  cases q : F.sl[i]? with
  | none => rw [q] at e; cases e
  | some s =>
    rw [q] at e
    cases s with
    | emp => cases e
    | al j p v => cases e
    | own a =>
      simp only [Option.map_some, AS.er] at e
      cases a with
      | node n k cs => simp [er] at e
      | leaf l =>
        obtain ⟨o, v⟩ := l
        cases o with
        | none => simp [er] at e
        | some d' =>
          simp [er] at e
          subst e
          refine ⟨v, rel.own i _ q, rel.ok.leaves (some d', v) ?_ _ rfl⟩
          rw [allL_append]
          refine List.mem_append_left _ (List.mem_flatMap.mpr ⟨_, mem_owns q, by simp [leaves]⟩)
theorem se_str {X : Cx} {s : Str} {k} {pos : Pos} : SE X (.Constant (.str s) k pos) (fun _ => some (.str s)) (fun _ _ v => v = .str s) :=
  ⟨fun G H σ F R d rel e => by cases e; exact ⟨_, rfl, .str _⟩, PE.imp pe_str fun σ H Q ⟨G, v, h1, _, h3⟩ => by subst h1; exact h3⟩
def sIx (fa fb : Fr → Option D) (ρ : Fr) : Option D := match fa ρ with
  | some (.dict kvs) => match fb ρ with
    | some q => if q.isKey = true then dlook kvs q else none
    | none => none
  | _ => none
theorem se_ix {X : Cx} {a b : Expr} {fa fb : Fr → Option D} {ra rb : L2.St → Hp → V → Prop} {pos : Pos} (hu : X.A.units + 1 < cLine) (ha : SE X a fa ra) (hb : SE X b fb rb) (hp : PlainIx b) :
    SE X (.Subscript a b pos) (sIx fa fb) (fun σ G v => ∃ p ks k, ra σ G (.ref p) ∧ rb σ G (kV k) ∧ Rd G p (.dK ks) ∧ valV ks k = some v) := by
  refine ⟨fun G H σ F R d rel e => ?_, PE.imp (pe_ix (ix_dict hu) ha.pe hb.pe hp) fun σ H Q ⟨G, v, ⟨p, ks, k, h1, h2, h3, h4⟩, s, q⟩ => ?_⟩
  · unfold sIx at e
    split at e
    · rename_i kvs e1
      split at e
      · rename_i q e2
        split at e
        · rename_i hq
          obtain ⟨v1, r1, d1⟩ := ha.ex G H σ F R _ rel e1
          obtain ⟨v2, r2, d2⟩ := hb.ex G H σ F R _ rel e2
          cases d1 with
          | dct k1 k2 k3 =>
            rename_i p ks
            have e3 := isKey_kV hq d2
            subst e3
            have lk := RepKs.look hq k2
            obtain ⟨v, w1, w2⟩ := lk.1 _ e
            exact ⟨v, ⟨p, ks, q.key, r1, r2, k1, w1⟩, w2⟩
        · cases e
      · cases e
    · cases e
  · exact ⟨G, .ref p, h1, s, G, kV k, h2, s, p, v, rfl, .inl ⟨ks, k, s.rd _ _ h3, rfl, h4.symm⟩, q⟩
/-! ### for over a dict -/
theorem itk_ok {K : PySem.W.Frag} {G : Hp} {a : Addr} {o : Obj} {ks : List (Key × V)} {kvs : List (D × D)} (h : G a = some (.frz o (.dK ks))) (r : RepKs K G kvs ks) : ItOk K (Itk a o ks) G (kvs.map (·.1)) := by
  have at_ : ∀ {G' H' : Hp}, Same G G' → Sub G' H' → H' a = some (.frz o (.dK ks)) := fun {G' H'} s sb => sb a _ (s _ _ h)
  have hl : kvs.length = ks.length := RepKs.length r
  refine ⟨fun i d G' H' hi s sb => ?_, fun G' H' s sb => ⟨at_ s sb, by simp [hl]⟩⟩
  obtain ⟨c, h1, rfl⟩ := get_of_map hi
  have hlt := (List.getElem?_eq_some_iff.mp h1).1
  have hk : (ks.map (·.1))[i]? = some c.1.key := by
    rw [RepKs.fst r, List.getElem?_map, h1]; rfl
  refine ⟨⟨at_ s sb, by omega⟩, fun x H'' ⟨e, k, v, e1, e2⟩ => ?_⟩
  subst e e2
  rw [List.getElem?_map, e1] at hk
  cases hk
  exact .old (sval_rep (isKey_sval (RepKs.isKey r c (List.mem_of_getElem? h1))))
/-- no exception passes through the walk of a dict -/
def noEx {α : Type} (x : Option (Except Ex α × Fr)) : Option (Except Ex α × Fr) := match x with
  | some (.ok r, ρ) => some (.ok r, ρ)
  | _ => none
@[simp] theorem noEx_ok {α : Type} (r : α) (ρ : Fr) : noEx (some (Except.ok r, ρ)) = some (.ok r, ρ) := rfl
@[simp] theorem noEx_none {α : Type} : noEx (none : Option (Except Ex α × Fr)) = none := rfl
theorem noEx_some {α : Type} {x : Option (Except Ex α × Fr)} {r : Except Ex α} {ρ : Fr} (h : noEx x = some (r, ρ)) : x = some (r, ρ) ∧ ∃ o, r = .ok o := by
  unfold noEx at h
  split at h
  · cases h; exact ⟨rfl, _, rfl⟩
  · cases h
def M.forU (f : Fr → Option D) (dyn : M SO) (asg : D → Fr → Option Fr) (ws : List Nat) (body : M SO) : M SO := fun ρ => match f ρ with
  | some (.dict kvs) => noEx (LT.forD asg ws body (kvs.map (·.1)) ρ)
  | _ => dyn ρ
abbrev teS (rl : L2.St → Hp → V → Prop) : TE := fun σ H Q => ∃ G v, rl σ G v ∧ RdK G H ∧ Q v H
theorem Fin.unlock {K : PySem.W.Frag} {W : WX} {D : Ends} {G : Hp} {F : AF} {R : List A} {r : Except Ex SO} {ρ' : Fr} {a : Addr} {ks : List (Key × V)} {od : Obj} (hG : G a = some (.dK ks)) (hr : ∃ o, r = .ok o)
    (k : ∀ G' H' F' σ', Nx G G' F F' → F'.er = ρ' → Fin K W D R r G' H' F' σ') : ∀ G' H' F' σ', Nx (upd G a (.frz od (.dK ks))) G' F F' → F'.er = ρ' →
    Fin K W ⟨fun σ' H' => H' a = some (.frz od (.dK ks)) ∧ D.nx σ' (upd H' a (.dK ks)), fun v H' => H' a = some (.frz od (.dK ks)) ∧ D.rt v (upd H' a (.dK ks)), fun σ' H' => H' a = some (.frz od (.dK ks)) ∧ D.bk σ' (upd H' a (.dK ks)), fun σ' H' => H' a = some (.frz od (.dK ks)) ∧ D.ct σ' (upd H' a (.dK ks))⟩ R r G' H' F' σ' := by
  intro G' H' F' σ' n e'
  obtain ⟨u1, u2⟩ := n.unlock hG
  have kk := k _ (upd H' a (.dK ks)) F' σ' u2 e'
  cases r with
  | error ex => obtain ⟨o, z⟩ := hr; cases z
  | ok o =>
    cases o with
    | nx => exact fun rl => ⟨rl.frzAt u1, kk (rl.unlock u1)⟩
    | brk => exact fun rl => ⟨rl.frzAt u1, kk (rl.unlock u1)⟩
    | ct => exact fun rl => ⟨rl.frzAt u1, kk (rl.unlock u1)⟩
    | ret t => exact fun a' rl ea => ⟨rl.frzAt u1, kk a' (rl.unlock u1) ea⟩
section
variable {X : Cx} {W : WX} {tg iter : Expr} {f : Fr → Option D} {rl : L2.St → Hp → V → Prop} {dyn : M SO} {g : TG} {asg : D → Fr → Option Fr} {is ws : List Nat} {body : List Stmt} {fb : M SO} {pos : Pos}
theorem forU_run (se : SE X iter f rl) (hg : TgOk X.K g asg is) {D : Ends} {σ : L2.St} {H : Hp} (h : tDS X.K W (M.forU f dyn asg ws fb) D σ H) :
    (tLock (tFor (iKeys (teS rl)) g (tDS X.K W fb)) D σ H ∨ tFor (iKeys (teS rl)) g (tDS X.K W fb) D σ H) ∨ tDS X.K W dyn D σ H := by
  obtain ⟨G, F, R, r, ρ', rel, e, k⟩ := tDS_to h
  unfold M.forU at e
  split at e
  · rename_i kvs e1
    obtain ⟨e, hr⟩ := noEx_some e
    left
    obtain ⟨v, h1, h2⟩ := se.ex G H σ F R _ rel e1
    cases h2 with
    | dct k1 k2 k3 =>
      rename_i a ks
      rcases k1 with hG | ⟨o, hG⟩
      · have hH := rel.ok.sub a _ hG
        left
        refine ⟨a, .dK ks, hH, trivial, fun od => ?_⟩
        have rel1 := rel.lock hG od
        exact ⟨G, .ref a, h1, (RdK.lock (.inl hG)).trans (.of_le (.of_sub rel1.ok.sub)), a, od, rfl, .inl ⟨ks, upd_same, for_core hg (itk_ok upd_same (k2.monoK (RdK.lock (.inl hG)))) rel1 e (Fin.unlock hG hr k)⟩⟩
      · right
        exact ⟨G, .ref a, h1, .of_le (.of_sub rel.ok.sub), a, o, rfl, .inl ⟨ks, rel.frzAt hG, for_core hg (itk_ok hG k2) rel e k⟩⟩
  · right
    exact tDS_of rel e k
theorem ds_forU (ws : List Nat) (hp : PassesOwn (model X.prog X.w) X.A X.env X.xe) (hc : X.calm = true) (se : SE X iter f rl) (hd : DS X W (.For tg iter body [] pos) dyn) (hg : PG X tg g) (ho : TgOk X.K g asg is) (hb : DSs X W body fb) (hs : ∀ x, foldedSetIterable iter X.env x = pure x := by intro _; rfl) :
    DS X W (.For tg iter body [] pos) (M.forU f dyn asg ws fb) :=
  PS.imp (PS.or (PS.or (ps_lock (ps_for hp hc (pi_keys se.pe) hg hb hs)) (ps_for hp hc (pi_keys se.pe) hg hb hs)) hd) fun D σ H h => forU_run se ho h
end

/-! ### comprehensions over a dict -/
def M.lcU (f : Fr → Option D) (dyn : M EV) (asg : D → Fr → Option Fr) (vs : List Nat) (fc : M Bool) (fe : M EV) : M EV := fun ρ => match f ρ with
  | some (.dict kvs) => if (ρ.io.any fun i => vs.contains i) = true then none else noEx (lcD asg vs fc fe (kvs.map (·.1)) [] (ρ.wipe vs))
  | _ => dyn ρ
def M.dcU (f : Fr → Option D) (dyn : M EV) (asg : D → Fr → Option Fr) (vs : List Nat) (fc : M Bool) (fk fe : M EV) : M EV := fun ρ => match f ρ with
  | some (.dict kvs) => if (ρ.io.any fun i => vs.contains i) = true then none else noEx (dcD asg vs fc fk fe (kvs.map (·.1)) [] (ρ.wipe vs))
  | _ => dyn ρ
/-- a dict comprehension over what is walked -/
def M.dc (f : M (List D)) (asg : D → Fr → Option Fr) (vs : List Nat) (fc : M Bool) (fk fe : M EV) : M EV := M.bind f fun ds ρ =>
  if (ρ.io.any fun i => vs.contains i) = true then none else dcD asg vs fc fk fe ds [] (ρ.wipe vs)
abbrev FinE (K : PySem.W.Frag) (W : WX) (σ : L2.St) (Q : VK) (R : List A) (r : Except Ex EV) (G' H' : Hp) (F' : AF) : Prop := match r with
  | .ok ev => ∀ av : AV, Rel K G' H' σ F' (av.trees ++ R) → av.Ok F'.sl → av.er = ev → Q av.v H'
  | .error ex => RaiseOk K W σ R ex G' H' F'
theorem FinE.unlock {K : PySem.W.Frag} {W : WX} {σ : L2.St} {Q : VK} {G : Hp} {F : AF} {R : List A} {r : Except Ex EV} {ρ' : Fr} {a : Addr} {ks : List (Key × V)} {od : Obj} (hG : G a = some (.dK ks)) (hr : ∃ o, r = .ok o)
    (k : ∀ G' H' F', Nx G G' F F' → F'.er = ρ' → FinE K W σ Q R r G' H' F') : ∀ G' H' F', Nx (upd G a (.frz od (.dK ks))) G' F F' → F'.er = ρ' →
    FinE K W σ (fun v H' => H' a = some (.frz od (.dK ks)) ∧ Q v (upd H' a (.dK ks))) R r G' H' F' := by
  intro G' H' F' n e'
  obtain ⟨u1, u2⟩ := n.unlock hG
  have kk := k _ (upd H' a (.dK ks)) F' u2 e'
  cases r with
  | error ex => obtain ⟨o, z⟩ := hr; cases z
  | ok ev => exact fun av rl ok ea => ⟨rl.frzAt u1, kk av (rl.unlock u1) ok ea⟩
/-- the three ways a dict stands, for an expression over its keys -/
theorem keysU_run {X : Cx} {W : WX} {iter : Expr} {f : Fr → Option D} {rl : L2.St → Hp → V → Prop} {σ : L2.St} {H : Hp} {Q : VK} {t : TI → TE} {kvs : List (D × D)} {G : Hp} {F : AF} {R : List A} {r : Except Ex EV} {ρ' : Fr} (se : SE X iter f rl) (rel : Rel X.K G H σ F R) (e1 : f F.er = some (.dict kvs)) (hr0 : ∃ o, r = .ok o)
    (k : ∀ G' H' F', Nx G G' F F' → F'.er = ρ' → FinE X.K W σ Q R r G' H' F')
    (core : ∀ (G1 H1 : Hp) (Q' : VK) (J : It), Rel X.K G1 H1 σ F R → ItOk X.K J G1 (kvs.map (·.1)) → (∀ G' H' F', Nx G1 G' F F' → F'.er = ρ' → FinE X.K W σ Q' R r G' H' F') → ∀ (wi : TI), (∀ (RR : It → Hp → Prop), RR J H1 → wi σ H1 RR) → t wi σ H1 Q') :
    tLockE (t (iKeys (teS rl))) σ H Q ∨ t (iKeys (teS rl)) σ H Q := by
  obtain ⟨v, h1, h2⟩ := se.ex G H σ F R _ rel e1
  cases h2 with
  | dct k1 k2 k3 =>
    rename_i a ks
    rcases k1 with hG | ⟨o, hG⟩
    · have hH := rel.ok.sub a _ hG
      left
      refine ⟨a, .dK ks, hH, trivial, fun od => ?_⟩
      have rel1 := rel.lock hG od
      refine core _ _ _ (Itk a od ks) rel1 (itk_ok upd_same (k2.monoK (RdK.lock (.inl hG)))) (FinE.unlock hG hr0 k) _ fun RR hr => ?_
      exact ⟨G, .ref a, h1, (RdK.lock (.inl hG)).trans (.of_le (.of_sub rel1.ok.sub)), a, od, rfl, .inl ⟨ks, upd_same, hr⟩⟩
    · right
      refine core _ _ _ (Itk a o ks) rel (itk_ok hG k2) k _ fun RR hr => ?_
      exact ⟨G, .ref a, h1, .of_le (.of_sub rel.ok.sub), a, o, rfl, .inl ⟨ks, rel.frzAt hG, hr⟩⟩
section
variable {X : Cx} {W : WX} {kx elt tg iter : Expr} {ifs : List Expr} {scope : Scope} {own : List (Str × Nat)} {pos spos py : Pos} {f : Fr → Option D} {fi : M (List D)} {rl : L2.St → Hp → V → Prop} {dyn : M EV} {g : TG} {asg : D → Fr → Option Fr} {is vs : List Nat} {fc : M Bool} {fk fe : M EV} {y : Str}
theorem lcU_run (se : SE X iter f rl) (hg : TgOk X.K g asg is) (his : ∀ i ∈ is, i ∈ vs) {σ : L2.St} {H : Hp} {Q : VK} (h : tD X.K W (M.lcU f dyn asg vs fc fe) σ H Q) :
    (tLockE (tLc (iKeys (teS rl)) g (tDT X.K W0 fc) (tD X.K W0 fe) vs) σ H Q ∨ tLc (iKeys (teS rl)) g (tDT X.K W0 fc) (tD X.K W0 fe) vs σ H Q) ∨ tD X.K W dyn σ H Q := by
  obtain ⟨G, F, R, rel, r, ρ', e, k⟩ := h
  unfold M.lcU at e
  split at e
  · rename_i kvs e1
    left
    split at e
    · cases e
    rename_i hio
    have hio : (F.er.io.any fun i => vs.contains i) = false := by simpa using hio
    obtain ⟨e, hr⟩ := noEx_some e
    have k : ∀ G' H' F', Nx G G' F F' → F'.er = ρ' → FinE X.K W σ Q R r G' H' F' := fun G' H' F' n e' => by
      have := k G' H' F' n e'
      cases r <;> exact this
    exact keysU_run (t := fun wi => tLc wi g (tDT X.K W0 fc) (tD X.K W0 fe) vs) se rel e1 hr k fun G1 H1 Q' J rel1 it k1 wi hw => hw _ (LT.lc_core (W := W) hg his it rel1 hio e k1)
  · right
    exact ⟨G, F, R, rel, r, ρ', e, k⟩
theorem dcU_run (se : SE X iter f rl) (hg : TgOk X.K g asg is) (his : ∀ i ∈ is, i ∈ vs) {σ : L2.St} {H : Hp} {Q : VK} (h : tD X.K W (M.dcU f dyn asg vs fc fk fe) σ H Q) :
    (tLockE (tDc (iKeys (teS rl)) g (tDT X.K W0 fc) (tD X.K W0 fk) (tD X.K W0 fe) vs) σ H Q ∨ tDc (iKeys (teS rl)) g (tDT X.K W0 fc) (tD X.K W0 fk) (tD X.K W0 fe) vs σ H Q) ∨ tD X.K W dyn σ H Q := by
  obtain ⟨G, F, R, rel, r, ρ', e, k⟩ := h
  unfold M.dcU at e
  split at e
  · rename_i kvs e1
    left
    split at e
    · cases e
    rename_i hio
    have hio : (F.er.io.any fun i => vs.contains i) = false := by simpa using hio
    obtain ⟨e, hr⟩ := noEx_some e
    have k : ∀ G' H' F', Nx G G' F F' → F'.er = ρ' → FinE X.K W σ Q R r G' H' F' := fun G' H' F' n e' => by
      have := k G' H' F' n e'
      cases r <;> exact this
    exact keysU_run (t := fun wi => tDc wi g (tDT X.K W0 fc) (tD X.K W0 fk) (tD X.K W0 fe) vs) se rel e1 hr k fun G1 H1 Q' J rel1 it k1 wi hw => hw _ (LT.dc_core (W := W) hg his it rel1 hio e k1)
  · right
    exact ⟨G, F, R, rel, r, ρ', e, k⟩
theorem dc_run (hg : TgOk X.K g asg is) (his : ∀ i ∈ is, i ∈ vs) {σ : L2.St} {H : Hp} {Q : VK} (h : tD X.K W (M.dc fi asg vs fc fk fe) σ H Q) :
    tDc (tDI X.K W fi) g (tDT X.K W0 fc) (tD X.K W0 fk) (tD X.K W0 fe) vs σ H Q := by
  obtain ⟨G, F, R, rel, r, ρ', e, k⟩ := h
  unfold M.dc M.bind at e
  cases q1 : fi F.er with
  | none => rw [q1] at e; cases e
  | some y1 =>
    obtain ⟨r1, ρ1⟩ := y1
    rw [q1] at e
    cases r1 with
    | error ex => cases e; exact ⟨G, F, R, rel, _, _, q1, k⟩
    | ok ds =>
      refine ⟨G, F, R, rel, _, _, q1, fun G1 H1 F1 n1 e1 rel1 J it => ?_⟩
      subst e1
      simp only at e
      split at e
      · cases e
      rename_i hio
      refine LT.dc_core (W := W) hg his it rel1 (by simpa using hio) e fun G' H' F' n e' => ?_
      have := k G' H' F' (n1.trans n) e'
      cases r <;> exact this
section
variable (hc : X.calm = true) (hN : X.N.Nodup) (se : SE X iter f rl) (ok : BlkOk X.N X.env.scope scope own) (ho : TgOk X.K g asg is) (his : ∀ i ∈ is, i ∈ own.map (·.2))
    (hg : ∀ (s : Shared) (H : Hp) (C : Addr) (cl : List (Str × Addr)) (fp : List Addr), PG (X.blk s H scope (compEnvC scope cl C X.env) fp) tg g)
    (ht : ∀ (s : Shared) (H : Hp) (C : Addr) (cl : List (Str × Addr)) (fp : List Addr), DTs (X.blk s H scope (compEnvC scope cl C X.env) fp) W0 ifs fc)
    (hk : ∀ (s : Shared) (H : Hp) (C : Addr) (cl : List (Str × Addr)) (fp : List Addr), DE (X.blk s H scope (compEnvC scope cl C X.env) fp) W0 kx fk)
    (he : ∀ (s : Shared) (H : Hp) (C : Addr) (cl : List (Str × Addr)) (fp : List Addr), DE (X.blk s H scope (compEnvC scope cl C X.env) fp) W0 elt fe)
include hc hN se ok ho his hg ht he
theorem de_lcU (hd : DE X W (.ListComp elt [⟨tg, iter, ifs, 0⟩] scope pos) dyn) (hs : ∀ x, foldedSetIterable iter X.env x = pure x := by intro _; rfl) :
    DE X W (.ListComp elt [⟨tg, iter, ifs, 0⟩] scope pos) (M.lcU f dyn asg (own.map (·.2)) fc fe) :=
  have h := pe_lc (pos := pos) (tt := tDT X.K W0 fc) (te := tD X.K W0 fe) hc hN (pi_keys se.pe) ok hg ht he hs
  PE.imp (PE.or (PE.or (pe_lock h) h) hd) fun σ H Q h => lcU_run se ho his h
include hk
theorem de_dcU (hd : DE X W (.DictComp kx elt [⟨tg, iter, ifs, 0⟩] scope pos) dyn) (hs : ∀ x, foldedSetIterable iter X.env x = pure x := by intro _; rfl) :
    DE X W (.DictComp kx elt [⟨tg, iter, ifs, 0⟩] scope pos) (M.dcU f dyn asg (own.map (·.2)) fc fk fe) :=
  have h := pe_dc (pos := pos) (tt := tDT X.K W0 fc) (tk := tD X.K W0 fk) (tv := tD X.K W0 fe) hc hN (pi_keys se.pe) ok hg ht hk he hs
  PE.imp (PE.or (PE.or (pe_lock h) h) hd) fun σ H Q h => dcU_run se ho his h
end
theorem de_dc (hc : X.calm = true) (hN : X.N.Nodup) (hi : DI X W tg iter fi) (ok : BlkOk X.N X.env.scope scope own) (ho : TgOk X.K g asg is) (his : ∀ i ∈ is, i ∈ own.map (·.2))
    (hg : ∀ (s : Shared) (H : Hp) (C : Addr) (cl : List (Str × Addr)) (fp : List Addr), PG (X.blk s H scope (compEnvC scope cl C X.env) fp) tg g)
    (ht : ∀ (s : Shared) (H : Hp) (C : Addr) (cl : List (Str × Addr)) (fp : List Addr), DTs (X.blk s H scope (compEnvC scope cl C X.env) fp) W0 ifs fc)
    (hk : ∀ (s : Shared) (H : Hp) (C : Addr) (cl : List (Str × Addr)) (fp : List Addr), DE (X.blk s H scope (compEnvC scope cl C X.env) fp) W0 kx fk)
    (he : ∀ (s : Shared) (H : Hp) (C : Addr) (cl : List (Str × Addr)) (fp : List Addr), DE (X.blk s H scope (compEnvC scope cl C X.env) fp) W0 elt fe) (hs : ∀ x, foldedSetIterable iter X.env x = pure x := by intro _; rfl) :
    DE X W (.DictComp kx elt [⟨tg, iter, ifs, 0⟩] scope pos) (M.dc fi asg (own.map (·.2)) fc fk fe) :=
  PE.imp (pe_dc (tt := tDT X.K W0 fc) (tk := tD X.K W0 fk) (tv := tD X.K W0 fe) hc hN hi ok hg ht hk he hs) fun σ H Q h => dc_run ho his h
end
end LT

/-! LA27: ghosts ahead of a reading; dict(d). -/
namespace LT
open PySem PySem.Spec L2

/-- a local stays as it is from now on -/
def gFz (i : Nat) (ρ : Fr) : Option Fr := match ρ.sl[i]? with
  | some (.own (.node u k cs)) => match TR.toD (.node u k cs) with
    | none => some ρ
    | some d => ρ.put i [] (.leaf (some d))
  | _ => some ρ
theorem fz_ok {K : PySem.W.Frag} {i : Nat} : GhostF K (gFz i) := fun G H σ F R ρ' rel e => by
  unfold gFz at e
  rw [sl_er] at e
  cases q : F.sl[i]? with
  | none => rw [q] at e; cases e; exact ⟨G, F, Nx.refl _ _, rfl, rel⟩
  | some s =>
    rw [q] at e
    cases s with
    | emp => cases e; exact ⟨G, F, Nx.refl _ _, rfl, rel⟩
    | al j p v => cases e; exact ⟨G, F, Nx.refl _ _, rfl, rel⟩
    | own a =>
      simp only [Option.map_some, AS.er] at e
      cases a with
      | leaf l => simp only [er] at e; cases e; exact ⟨G, F, Nx.refl _ _, rfl, rel⟩
      | node n k cs =>
        simp only [er] at e
        cases hd : TR.toD (TR.node () k (ers cs) : T) with
        | none => rw [hd] at e; cases e; exact ⟨G, F, Nx.refl _ _, rfl, rel⟩
        | some d =>
          rw [hd] at e
          simp only at e
          obtain ⟨G', r', n'⟩ := rel.frzPtr q (TR.at_nil _) (d := d) (by unfold LT.er; exact hd)
          have eq := AF.put_er (p := []) (new := .leaf (some d, (TR.node n k cs : A).val)) q
          rw [show er (.leaf (some d, (TR.node n k cs : A).val)) = .leaf (some d) from rfl] at eq
          rw [eq] at e
          cases e
          exact ⟨G', _, n', rfl, r'⟩
def M.preE (g : Fr → Option Fr) (f : M EV) : M EV := fun ρ => match g ρ with
  | none => none
  | some ρ' => f ρ'
theorem preE_run {K : PySem.W.Frag} {W : WX} {g : Fr → Option Fr} {f : M EV} (hg : GhostF K g) {σ : L2.St} {H : Hp} {Q : VK} (h : tD K W (M.preE g f) σ H Q) : tD K W f σ H Q := by
  obtain ⟨G, F, R, rel, r, ρ', e, k⟩ := h
  unfold M.preE at e
  cases q : g F.er with
  | none => rw [q] at e; cases e
  | some ρ1 =>
    rw [q] at e
    obtain ⟨G1, F1, n1, e1, rel1⟩ := hg G H σ F R ρ1 rel q
    subst e1
    exact ⟨G1, F1, R, rel1, r, ρ', e, fun G' H' F' n e' => k G' H' F' (n1.trans n) e'⟩
theorem de_preE {X : Cx} {W : WX} {e : Expr} {g : Fr → Option Fr} {f : M EV} (hg : GhostF X.K g) (h : DE X W e f) : DE X W e (M.preE g f) := PE.imp h fun σ H Q q => preE_run hg q
theorem fz_any {K : PySem.W.Frag} : ∀ (is : List Nat), GhostF K (fun ρ => is.foldlM (fun ρ i => gFz i ρ) ρ)
  | [] => fun G H σ F R ρ' rel e => by cases e; exact ⟨G, F, Nx.refl _ _, rfl, rel⟩
  | i :: is => fun G H σ F R ρ' rel e => by
    have e : (i :: is).foldlM (fun ρ i => gFz i ρ) F.er = some ρ' := e
    rw [List.foldlM_cons] at e
    cases q : gFz i F.er with
    | none => rw [q] at e; cases e
    | some ρ1 =>
      rw [q] at e
      obtain ⟨G1, F1, n1, e1, rel1⟩ := fz_ok G H σ F R ρ1 rel q
      subst e1
      obtain ⟨G2, F2, n2, e2, rel2⟩ := fz_any is G1 H σ F1 R ρ' rel1 e
      exact ⟨G2, F2, n1.trans n2, e2, rel2⟩

/-! ### dict(d) -/
def dctLeaves : List (D × T) → Option (List (D × D))
  | [] => some []
  | (k, .leaf (some x)) :: r => match dctLeaves r with
    | none => none
    | some xs => some ((k, x) :: xs)
  | _ => none
def dctOf (x : EV) (ρ : Fr) : Option (List (D × D)) := match look x ρ with
  | some (.leaf (some (.dict kvs))) => some kvs
  | some (.node _ .dct cs) => dctLeaves cs
  | _ => none
def dctD (kvs : List (D × D)) : T := .node () .dct (kvs.map fun c => (c.1, .leaf (some c.2)))
theorem dctLeaves_ok {K : PySem.W.Frag} {G : Hp} : ∀ {cs : List (D × A)} {xs : List (D × D)}, (∀ c ∈ cs, c.1.isKey = true) → (∀ l ∈ leavesL cs, ∀ d, l.1 = some d → RepD K G d l.2) → dctLeaves (ers cs) = some xs → RepKs K G xs (kvOf (vals cs))
  | [], xs, _, _, e => by cases e; exact .nil
  | (k, c) :: r, xs, hk, h, e => by
    unfold ers at e
    cases q : er c with
    | node n k cs => rw [q] at e; simp [dctLeaves] at e
    | leaf o =>
      rw [q] at e
      cases o with
      | none => simp [dctLeaves] at e
      | some x =>
        simp only [dctLeaves] at e
        cases q2 : dctLeaves (ers r) with
        | none => rw [q2] at e; cases e
        | some ys =>
          rw [q2] at e
          cases e
          obtain ⟨v, rfl⟩ := er_leaf q
          exact .cons (hk (k, .leaf (some x, v)) (by simp)) (h (some x, v) (by simp [leavesL, leaves]) x rfl) (dctLeaves_ok (fun c hc => hk c (by simp [hc])) (fun l hl => h l (by simp [leavesL, hl])) q2)
section
variable {K : PySem.W.Frag} {G H : Hp} {σ : L2.St} {F : AF} {R S : List A}
theorem Rel.dctOf {x : AV} {xs : List (D × D)} (r : Rel K G H σ F S) (hx : x.Ok F.sl) (hm : ∀ a ∈ x.trees, a ∈ S) (e : dctOf x.er F.er = some xs) : ∃ a kvs, x.v = .ref a ∧ Rd H a (.dK kvs) ∧ RepKs K G xs kvs ∧ (xs.map fun c => c.1.key).Nodup := by
  unfold LT.dctOf at e
  cases hl : LT.look x.er F.er with
  | none => rw [hl] at e; cases e
  | some t =>
    rw [hl] at e
    obtain ⟨c, h1, h2, sn⟩ := r.look hx hm hl
    cases t with
    | leaf o =>
      cases o with
      | none => cases e
      | some d =>
        cases d <;> try (cases e; done)
        rename_i kvs
        cases e
        obtain ⟨v, rfl⟩ := er_leaf h1
        have rp : RepD K G (.dict xs) v := sn.leaves (some (.dict xs), v) (by simp [LT.leaves]) _ rfl
        have h2 : v = x.v := h2
        rw [← h2]
        cases rp with
        | dct h3 h4 h5 => exact ⟨_, _, rfl, (RdLe.of_sub r.ok.sub).rd _ _ h3, h4, h5⟩
    | node u k cs =>
      cases k <;> try (cases e; done)
      obtain ⟨n, cs', rfl, rfl⟩ := er_node h1
      obtain ⟨k1, k2⟩ := sn.dct
      have ok := sn.dctK.1
      have rk := dctLeaves_ok (K := K) (G := G) (cs := cs') (xs := xs) (fun c hc => keysOk_key ok _ (List.mem_map.mpr ⟨c, hc, rfl⟩)) (fun l hl d ed => sn.leaves l (by unfold LT.leaves; exact hl) d ed) e
      refine ⟨n.1, _, h2.symm, .inl k2, rk, ?_⟩
      have nd := keysOk_nd ok
      have ek := RepKs.fst rk
      rw [kvOf_keys, vals_fst] at ek
      rw [← ek]
      exact nd
end
def gDict (as : List EV) : M EV := fun ρ => match as with
  | [x] => match LT.dctOf x ρ with
    | some kvs => if keysOk (kvs.map (·.1)) = true then some (.ok (.val (dctD kvs)), ρ) else none
    | none => none
  | _ => none
theorem Rel.newD {K : PySem.W.Frag} {G H : Hp} {σ : L2.St} {F : AF} {R : List A} {kvs : List (D × D)} {ks : List (Key × V)} {p : Addr} (r : Rel K G H σ F R) (h : RepKs K G kvs ks) (hk : keysOk (kvs.map (·.1)) = true) (hp : H p = none) :
    ∃ a : A, er a = dctD kvs ∧ a.val = .ref p ∧ Rel K G (upd H p (.dK ks)) σ F (a :: R) := by
  have mk : ∀ {kvs : List (D × D)} {ks : List (Key × V)}, RepKs K G kvs ks → ∃ cs : List (D × A), ers cs = kvs.map (fun c => (c.1, (.leaf (some c.2) : T))) ∧ kvOf (vals cs) = ks ∧ allN (cs.map (·.2)) = [] ∧ ∀ l ∈ allL (cs.map (·.2)), ∀ x, l.1 = some x → RepD K G x l.2 := by
    intro kvs ks h
    induction kvs generalizing ks with
    | nil => cases h; exact ⟨[], rfl, rfl, rfl, by simp⟩
    | cons c kvs ih =>
      cases h with
      | cons hk hr ht =>
        rename_i k x v ks
        obtain ⟨cs, e1, e2, e3, e4⟩ := ih ht
        refine ⟨(k, .leaf (some x, v)) :: cs, by simp [ers, e1, er], by simp [kvOf, vals] at e2 ⊢; exact ⟨rfl, e2⟩, by simp [nodes, e3], fun l hl y ey => ?_⟩
        simp [leaves] at hl
        rcases hl with rfl | hl
        · cases ey; exact hr
        · exact e4 l (by simpa using hl) y ey
  obtain ⟨cs, e1, e2, e3, e4⟩ := mk h
  have ef : cs.map (·.1) = kvs.map (·.1) := by
    have := congrArg (List.map Prod.fst) e1
    rw [ers_keys, List.map_map] at this
    exact this
  have hko : keysOk ((vals cs).map (·.1)) = true := by rw [vals_fst, ef]; exact hk
  have rel1 : Rel K G H σ F (cs.map (·.2) ++ R) := by
    refine ⟨⟨r.ok.sub, fun n q => ?_, fun l q x ex => ?_, fun b => ?_, fun n q => ?_⟩, r.len, r.own, r.al, r.tm, r.io⟩
    · simp only [allN_append, e3, List.nil_append] at q
      exact r.ok.nodes n (by simpa using q)
    · simp only [allL_append, List.mem_append] at q
      rcases q with q | q | q
      · exact r.ok.leaves l (by simp [q]) x ex
      · exact e4 l q x ex
      · exact r.ok.leaves l (by simp [q]) x ex
    · have := r.ok.one b
      simpa [cnt_append, e3] using this
    · simp only [allN_append, e3, List.nil_append] at q
      exact r.ok.free n (by simpa using q)
  have rel2 := Rel.newNode (k := .dct) (o := .dK (kvOf (vals cs))) rel1 hp (nodeObjs_dct hko)
  rw [e2] at rel2
  exact ⟨_, by simp [er, e1, dctD], rfl, rel2⟩
theorem ops_dict {K : PySem.W.Frag} {W : WX} : OpS K W (fun xs H Q => ∃ (a : Addr) (kvs : List (Key × V)), xs = [.ref a] ∧ Rd H a (.dK kvs) ∧ ∀ p, H p = none → Q (.ref p) (upd H p (.dK kvs))) gDict := by
  intro G H σ F R as Q rel ok res
  obtain ⟨rr, ρ', e, k⟩ := res
  match as, rel, ok, e with
  | [a], rel, ok, e =>
    simp only [List.map_cons, List.map_nil, gDict] at e
    cases hs : LT.dctOf a.er F.er with
    | none => rw [hs] at e; cases e
    | some kvs =>
      rw [hs] at e
      simp only at e
      split at e
      · rename_i hk
        cases e
        obtain ⟨l, ks, s1, s2, s3, s4⟩ := rel.dctOf (ok a (by simp)) (fun z hz => by simp [hz]) hs
        refine ⟨l, ks, by simp [s1], s2, fun p hp => ?_⟩
        obtain ⟨t, e1, e2, rel2⟩ := (rel.drop (S := avs [a])).newD s3 hk hp
        rw [← e2]
        exact k G _ F (Nx.refl _ _) rfl (.val t) (by simpa [AV.trees] using rel2) trivial (by simp [AV.er, e1])
      · cases e
  | [], rel, ok, e => cases e
  | _ :: _ :: _, rel, ok, e => cases e
end LT

/-! LA28: name = a comprehension over a dict. -/
namespace L2
open PySem PySem.Spec
section
variable {X : Cx}
theorem ps_setDc {i : Nat} {y : Str} {py : Pos} {kx elt tg iter : Expr} {ifs : List Expr} {scope : Scope} {own : List (Str × Nat)} {pos spos : Pos} {wi : TI} {g : TG} {tt : TT} {tk te : TE} (hc : X.calm = true) (hN : X.N.Nodup) (hy : X.N[i]? = some y) (hyl : X.env.scope.names.lookup y = some .local)
    (hsw : swapsWith (.DictComp kx elt [⟨tg, iter, ifs, 0⟩] scope pos) (some (.Name y py)) spos.line X.env = pure true) (hi : PI X tg iter wi) (ok : BlkOk X.N X.env.scope scope own)
    (hg : ∀ (s : Shared) (H : Hp) (C : Addr) (cl : List (Str × Addr)) (fp : List Addr), PG (X.blk s H scope (compEnvC scope cl C X.env) fp) tg g) (ht : ∀ (s : Shared) (H : Hp) (C : Addr) (cl : List (Str × Addr)) (fp : List Addr), PTs (X.blk s H scope (compEnvC scope cl C X.env) fp) ifs tt)
    (hk : ∀ (s : Shared) (H : Hp) (C : Addr) (cl : List (Str × Addr)) (fp : List Addr), PE (X.blk s H scope (compEnvC scope cl C X.env) fp) kx tk)
    (he : ∀ (s : Shared) (H : Hp) (C : Addr) (cl : List (Str × Addr)) (fp : List Addr), PE (X.blk s H scope (compEnvC scope cl C X.env) fp) elt te) (hs : ∀ x, foldedSetIterable iter X.env x = pure x := by intro _; rfl) :
    PS X (.Assign [.Name y py] (.DictComp kx elt [⟨tg, iter, ifs, 0⟩] scope pos) spos) (tAsg (tDc wi g tt tk te (own.map (·.2))) (gName i)) := by
  refine ⟨fun pins s σ H D I h => ?_⟩
  rw [exec_Assign_Name_used _ _ _ _ hsw]
  refine wpAny_bind (wpAny_standAt (wpAny_bind ?_))
  show wpAny _ X.A (do let _ ← comprehension (.DictComp kx elt [⟨tg, iter, ifs, 0⟩] scope pos) scope X.env (firstIterPos [⟨tg, iter, ifs, 0⟩] pos) newDict false (eval iter X.env) (some (assign (.Name y py) X.env))) _ _ s
  have h : tDc wi g tt tk te (own.map (·.2)) σ H (fun x H1 => gName i x σ H1 D.nx) := h
  refine wpAny_bind (thn (dc_core (Qf := fun _ s' => SP X pins D .next s') hc hN I hi ok hg ht hk he hs h fun L C s' m H' I' q hn f => ?_) fun _ s' hq => wpAny_pure (wpAny_pure hq))
  show wpAny _ _ (assign (.Name y py) X.env (.ref L)) _ _ _
  refine wpAny_assign_Name (store_ok2 (v := V.ref L) I' hN hy (.inl hyl) rfl (fun s2 I2 ⟨a, sb, ha⟩ => ?_) (.inr hyl))
  obtain ⟨f0, f1, f2, f3, f4, f5⟩ := f
  have haC : C ≠ a := by
    rcases ha with z | z
    · rw [z]; exact f1
    · exact fun e => f4 y a z e.symm
  refine ⟨m, hn.sameBut sb haC, fun h3 sb3 => ?_⟩
  exact ⟨_, H', I2.turned (t' := s2.toks) (fun b o hb e => (sb3.2 b hb).trans e) f0 f1 f3 f4 f5, q⟩
end
theorem sw_trueD {kx elt : Expr} {gs : List Comprehension} {scope : Scope} {pos py : Pos} {y : Str} {l : Nat} {env : Env} (hk : env.scope.kind = .function) (hy : env.scope.names.lookup y = some .local) (hl : (py.line == pos.line) = true)
    (ha : (scope.names.any fun (n, k) => n == y && (k == .local || k == .cell)) = false) : swapsWith (.DictComp kx elt gs scope pos) (some (.Name y py)) l env = pure true := by
  have ky : env.kindOf y = some .local := hy
  have hb : env.blockKind = .function := by unfold Env.blockKind; rw [hk]; rfl
  unfold swapsWith
  simp only [hb, ky, ha, Expr.pos, hl]
  rfl
end L2
namespace LT
open PySem PySem.Spec L2
section
variable {X : Cx} {W : WX} {kx elt tg iter : Expr} {ifs : List Expr} {scope : Scope} {own : List (Str × Nat)} {pos spos py : Pos} {f : Fr → Option D} {fi : M (List D)} {rl : L2.St → Hp → V → Prop} {g : TG} {asg : D → Fr → Option Fr} {is vs : List Nat} {fc : M Bool} {fk fe : M EV} {y : Str} {i : Nat}
/-- what stands behind name = e, where e locks -/
theorem lock_set {t : TE} {D : Ends} {σ : L2.St} {H : Hp} (h : tLockE t σ H (fun x H1 => gName i x σ H1 D.nx)) : tLock (tAsg t (gName i)) D σ H := by
  obtain ⟨d, u, h1, h2, h3⟩ := h
  exact ⟨d, u, h1, h2, fun od => h3 od⟩
variable (hc : X.calm = true) (hN : X.N.Nodup) (hy : X.N[i]? = some y) (hyl : X.env.scope.names.lookup y = some .local)
section
variable (hsw : swapsWith (.ListComp elt [⟨tg, iter, ifs, 0⟩] scope pos) (some (.Name y py)) spos.line X.env = pure true) (se : SE X iter f rl) (ok : BlkOk X.N X.env.scope scope own) (ho : TgOk X.K g asg is) (his : ∀ i ∈ is, i ∈ own.map (·.2))
    (hg : ∀ (s : Shared) (H : Hp) (C : Addr) (cl : List (Str × Addr)) (fp : List Addr), PG (X.blk s H scope (compEnvC scope cl C X.env) fp) tg g)
    (ht : ∀ (s : Shared) (H : Hp) (C : Addr) (cl : List (Str × Addr)) (fp : List Addr), DTs (X.blk s H scope (compEnvC scope cl C X.env) fp) W0 ifs fc)
    (he : ∀ (s : Shared) (H : Hp) (C : Addr) (cl : List (Str × Addr)) (fp : List Addr), DE (X.blk s H scope (compEnvC scope cl C X.env) fp) W0 elt fe)
include hc hN hy hyl hsw se ok ho his hg ht he
theorem ds_setLcU (hi : DI X W tg iter fi) (hs : ∀ x, foldedSetIterable iter X.env x = pure x := by intro _; rfl) :
    DS X W (.Assign [.Name y py] (.ListComp elt [⟨tg, iter, ifs, 0⟩] scope pos) spos) (M.fin (M.lcU f (M.lc fi asg (own.map (·.2)) fc fe) asg (own.map (·.2)) fc fe) (gSet1 i)) := by
  have h := ps_setLc (pos := pos) (spos := spos) (py := py) (tt := tDT X.K W0 fc) (te := tD X.K W0 fe) hc hN hy hyl hsw (pi_keys se.pe) ok hg ht he hs
  have h2 := ps_setLc (pos := pos) (spos := spos) (py := py) (tt := tDT X.K W0 fc) (te := tD X.K W0 fe) hc hN hy hyl hsw hi ok hg ht he hs
  refine PS.imp (PS.or (PS.or (ps_lock h) h) h2) fun D σ H q => ?_
  rcases lcU_run se ho his (set1_run q) with (q | q) | q
  · exact .inl (.inl (lock_set q))
  · exact .inl (.inr q)
  · exact .inr (lc_run (Q := fun x H1 => gName i x σ H1 D.nx) ho his q)
end
section
variable (hsw : swapsWith (.DictComp kx elt [⟨tg, iter, ifs, 0⟩] scope pos) (some (.Name y py)) spos.line X.env = pure true)
section
variable (se : SE X iter f rl)
variable (ok : BlkOk X.N X.env.scope scope own) (ho : TgOk X.K g asg is) (his : ∀ i ∈ is, i ∈ own.map (·.2))
    (hg : ∀ (s : Shared) (H : Hp) (C : Addr) (cl : List (Str × Addr)) (fp : List Addr), PG (X.blk s H scope (compEnvC scope cl C X.env) fp) tg g)
    (ht : ∀ (s : Shared) (H : Hp) (C : Addr) (cl : List (Str × Addr)) (fp : List Addr), DTs (X.blk s H scope (compEnvC scope cl C X.env) fp) W0 ifs fc)
    (hk : ∀ (s : Shared) (H : Hp) (C : Addr) (cl : List (Str × Addr)) (fp : List Addr), DE (X.blk s H scope (compEnvC scope cl C X.env) fp) W0 kx fk)
    (he : ∀ (s : Shared) (H : Hp) (C : Addr) (cl : List (Str × Addr)) (fp : List Addr), DE (X.blk s H scope (compEnvC scope cl C X.env) fp) W0 elt fe)
include hc hN hy hyl hsw se ok ho his hg ht hk he
theorem ds_setDcU (hi : DI X W tg iter fi) (hs : ∀ x, foldedSetIterable iter X.env x = pure x := by intro _; rfl) :
    DS X W (.Assign [.Name y py] (.DictComp kx elt [⟨tg, iter, ifs, 0⟩] scope pos) spos) (M.fin (M.dcU f (M.dc fi asg (own.map (·.2)) fc fk fe) asg (own.map (·.2)) fc fk fe) (gSet1 i)) := by
  have h := ps_setDc (pos := pos) (spos := spos) (py := py) (tt := tDT X.K W0 fc) (tk := tD X.K W0 fk) (te := tD X.K W0 fe) hc hN hy hyl hsw (pi_keys se.pe) ok hg ht hk he hs
  have h2 := ps_setDc (pos := pos) (spos := spos) (py := py) (tt := tDT X.K W0 fc) (tk := tD X.K W0 fk) (te := tD X.K W0 fe) hc hN hy hyl hsw hi ok hg ht hk he hs
  refine PS.imp (PS.or (PS.or (ps_lock h) h) h2) fun D σ H q => ?_
  rcases dcU_run se ho his (set1_run q) with (q | q) | q
  · exact .inl (.inl (lock_set q))
  · exact .inl (.inr q)
  · exact .inr (dc_run (Q := fun x H1 => gName i x σ H1 D.nx) ho his q)
end
include hc hN hy hyl hsw
theorem ds_setDc (ok : BlkOk X.N X.env.scope scope own) (ho : TgOk X.K g asg is) (his : ∀ i ∈ is, i ∈ own.map (·.2))
    (hg : ∀ (s : Shared) (H : Hp) (C : Addr) (cl : List (Str × Addr)) (fp : List Addr), PG (X.blk s H scope (compEnvC scope cl C X.env) fp) tg g)
    (ht : ∀ (s : Shared) (H : Hp) (C : Addr) (cl : List (Str × Addr)) (fp : List Addr), DTs (X.blk s H scope (compEnvC scope cl C X.env) fp) W0 ifs fc)
    (hk : ∀ (s : Shared) (H : Hp) (C : Addr) (cl : List (Str × Addr)) (fp : List Addr), DE (X.blk s H scope (compEnvC scope cl C X.env) fp) W0 kx fk)
    (he : ∀ (s : Shared) (H : Hp) (C : Addr) (cl : List (Str × Addr)) (fp : List Addr), DE (X.blk s H scope (compEnvC scope cl C X.env) fp) W0 elt fe) (hi : DI X W tg iter fi) (hs : ∀ x, foldedSetIterable iter X.env x = pure x := by intro _; rfl) :
    DS X W (.Assign [.Name y py] (.DictComp kx elt [⟨tg, iter, ifs, 0⟩] scope pos) spos) (M.fin (M.dc fi asg (own.map (·.2)) fc fk fe) (gSet1 i)) :=
  PS.imp (ps_setDc (pos := pos) (spos := spos) (py := py) (tt := tDT X.K W0 fc) (tk := tD X.K W0 fk) (te := tD X.K W0 fe) hc hN hy hyl hsw hi ok hg ht hk he hs) fun D σ H q => dc_run (Q := fun x H1 => gName i x σ H1 D.nx) ho his (set1_run q)
end
end
end LT

/-! LA29: calls that only read: the arguments stay what they are. -/
namespace LT
open PySem PySem.Spec L2
mutual
/-- only plain values at the leaves -/
def plainT : T → Bool
  | .leaf o => match o with
    | some d => (sval d).isSome
    | none => false
  | .node _ _ cs => plainTs cs
def plainTs : List (D × T) → Bool
  | [] => true
  | c :: cs => plainT c.2 && plainTs cs
end
mutual
theorem plain_leaves : ∀ {a : A}, plainT (er a) = true → ∀ l ∈ leaves a, ∀ d, l.1 = some d → (sval d).isSome = true
  | .leaf l, h, l', hl, d, e => by
    have : l' = l := by simpa [leaves] using hl
    subst this
    obtain ⟨o, v⟩ := l'
    cases e
    exact h
  | .node n k cs, h, l', hl, d, e => by
    unfold leaves at hl
    unfold er plainT at h
    exact plains_leaves h l' hl d e
theorem plains_leaves : ∀ {cs : List (D × A)}, plainTs (ers cs) = true → ∀ l ∈ leavesL cs, ∀ d, l.1 = some d → (sval d).isSome = true
  | [], _, l', hl, _, _ => by unfold leavesL at hl; cases hl
  | (k, c) :: cs, h, l', hl, d, e => by
    unfold leavesL at hl
    unfold ers plainTs at h
    rw [Bool.and_eq_true] at h
    rcases List.mem_append.mp hl with q | q
    · exact plain_leaves h.1 l' q d e
    · exact plains_leaves h.2 l' q d e
end
theorem plain_rep {K : PySem.W.Frag} {G G' : Hp} {d : D} {v : V} (h : (sval d).isSome = true) (r : RepD K G d v) : RepD K G' d v := by
  cases r with
  | non => exact .non
  | bl b => exact .bl b
  | int i => exact .int i
  | str s => exact .str s
  | _ => cases h
def leafsA : List D → List V → List A
  | d :: ds, v :: vs => .leaf (some d, v) :: leafsA ds vs
  | _, _ => []
theorem leafsA_er {K : PySem.W.Frag} {G : Hp} : ∀ {ds : List D} {vs : List V}, RepDs K G ds vs → (leafsA ds vs).map er = ds.map (fun d => (.leaf (some d) : T)) ∧ (leafsA ds vs).map TR.val = vs ∧ allN (leafsA ds vs) = [] ∧ ∀ l ∈ allL (leafsA ds vs), ∀ x, l.1 = some x → RepD K G x l.2
  | [], [], .nil => ⟨rfl, rfl, rfl, fun l q => by cases q⟩
  | d :: ds, v :: vs, .cons h t => by
    obtain ⟨h1, h2, h3, h4⟩ := leafsA_er t
    refine ⟨?_, ?_, ?_, fun l q x e => ?_⟩
    · show er (.leaf (some d, v)) :: (leafsA ds vs).map er = _
      rw [h1]; rfl
    · show (TR.leaf (some d, v) : A).val :: (leafsA ds vs).map TR.val = _
      rw [h2]; rfl
    · show allN (.leaf (some d, v) :: leafsA ds vs) = []
      rw [allN_cons, h3]; rfl
    · have q : l ∈ allL (.leaf (some d, v) :: leafsA ds vs) := q
      rw [allL_cons] at q
      rcases List.mem_append.mp q with q | q
      · have : l = (some d, v) := by simpa [leaves] using q
        subst this; cases e; exact h
      · exact h4 l q x e
def gCallR (FF : FD) (xs : List EV) : M EV := fun ρ => match deepsOf xs ρ with
  | none => none
  | some ds => match FF (ds.map fun d => .leaf (some d)) with
    | some (.ok t, []) => if plainT t = true then some (.ok (.val t), ρ) else none
    | _ => none
def M.callR (FF : FD) (fs : List (M EV)) : M EV := M.bind (evalArgs fs) (gCallR FF)
theorem callR_ok {K : PySem.W.Frag} {W : WX} {FF : FD} {n : Nat} {σ : L2.St} {G H : Hp} {F : AF} {R : List A} {as : List AV} {Q : VK} {ds : List D} {t : T} (rel : Rel K G H σ F (avs as ++ R)) (ok : ∀ x ∈ as, x.Ok F.sl) (hn : as.length = n)
    (e1 : deepsOf (as.map AV.er) F.er = some ds) (e2 : FF (ds.map fun d => .leaf (some d)) = some (.ok t, [])) (hp : plainT t = true)
    (k : ∀ (G' H' : Hp) (a : A), Nx G G' F F → er a = t → Rel K G' H' σ F (a :: R) → Q a.val H') : spD K n [] FF (as.map AV.v) H Q (WE W σ) := by
  let N := allN (owns F.sl ++ (avs as ++ R))
  let G1 := frzG G H N
  have h0 : Held K G H (N ++ []) (allL (owns F.sl ++ (avs as ++ R))) := by rw [List.append_nil]; exact rel.ok
  obtain ⟨s1, held1, fz⟩ := h0.freeze
  have relG : Rel K G G1 σ F (avs as ++ R) := ⟨⟨s1, fz, rel.ok.leaves, rel.ok.one, rel.ok.free⟩, rel.len, rel.own, rel.al, rel.tm, rel.io⟩
  have rds : RepDs K G1 ds (as.map AV.v) := relG.deeps ok (fun x hx a ha => by simp [mem_avs hx ha]) e1
  obtain ⟨l1, l2, l3, l4⟩ := leafsA_er rds
  have inN : ∀ {G' H' : Hp}, Same G1 G' → Sub G' H' → ∀ m ∈ N, ∃ o, m.2 = some o ∧ G' m.1 = some o ∧ H' m.1 = some o := fun {G' H'} s sb m q => by
    obtain ⟨o, q1, q2⟩ := fz m q
    exact ⟨o, q1, s _ _ q2, sb _ _ (s _ _ q2)⟩
  refine ⟨G1, [], leafsA ds (as.map AV.v), l2.symm, ?_, ?_, .ok t, [], by rw [l1]; exact e2, fun G' H' bs s b1 b2 a ea ok' => ?_⟩
  · have := congrArg List.length l2
    simp at this
    omega
  · rw [List.append_nil]
    exact ⟨held1.sub, fun m q => (by rw [l3] at q; cases q), l4, fun b => (by rw [l3]; simp [cnt]), fun m q => (by rw [l3] at q; cases q)⟩
  · have hb : bs = [] := by cases bs with | nil => rfl | cons b bs => cases b1
    subst hb
    have ok' : OkT K G' H' [a] := ok'
    have na : allN [a] = LT.nodes a := by simp
    have la : allL [a] = LT.leaves a := by simp
    have ntN : ∀ {b o}, G b = some o → ¬ 0 < cnt b N := fun {b o} e z => by
      obtain ⟨m, hm, e1⟩ := List.countP_pos_iff.mp z
      have e1 : m.1 = b := by simpa using e1
      have := rel.ok.free m hm
      rw [e1, e] at this; cases this
    let G2 : Hp := fun b => if 0 < cnt b N then none else G' b
    have sG : Same G G2 := fun b o e => by
      show (if 0 < cnt b N then none else G' b) = some o
      rw [if_neg (ntN e)]
      exact s _ _ (s1 _ _ e)
    have nN : ∀ m ∈ allN (owns F.sl ++ R), m ∈ N := fun m q => by
      show m ∈ allN (owns F.sl ++ (avs as ++ R))
      simp only [allN_append, List.mem_append] at q ⊢
      rcases q with q | q <;> simp [q]
    have cN : ∀ b, cnt b (allN (owns F.sl ++ R)) ≤ cnt b N := fun b => by
      show _ ≤ cnt b (allN (owns F.sl ++ (avs as ++ R)))
      simp only [allN_append, cnt_append]; omega
    have lN : ∀ l ∈ allL (owns F.sl ++ R), l ∈ allL (owns F.sl ++ (avs as ++ R)) := fun l q => by
      simp only [allL_append, List.mem_append] at q ⊢
      rcases q with q | q <;> simp [q]
    have apart : ∀ m ∈ LT.nodes a, ¬ 0 < cnt m.1 N := fun m q z => by
      obtain ⟨m', hm, e1⟩ := List.countP_pos_iff.mp z
      have e1 : m'.1 = m.1 := by simpa using e1
      obtain ⟨o, _, q2, _⟩ := inN s ok'.sub m' hm
      have := ok'.free m (by rw [na]; exact q)
      rw [← e1, q2] at this; cases this
    have mem3 : ∀ m, m ∈ allN (owns F.sl ++ (a :: R)) → m ∈ LT.nodes a ∨ m ∈ allN (owns F.sl ++ R) := fun m q => by
      simp only [allN_append, allN_cons, List.mem_append] at q ⊢
      rcases q with q | q | q <;> simp [q]
    have mem4 : ∀ m, m ∈ allL (owns F.sl ++ (a :: R)) → m ∈ LT.leaves a ∨ m ∈ allL (owns F.sl ++ R) := fun m q => by
      simp only [allL_append, allL_cons, List.mem_append] at q ⊢
      rcases q with q | q | q <;> simp [q]
    refine k G2 H' a ⟨sG, rfl, rfl, fun _ _ h => h⟩ ea ⟨⟨fun b o e => ?_, fun m q => ?_, fun l q x e => ?_, fun b => ?_, fun m q => ?_⟩, rel.len, rel.own, rel.al, rel.tm, rel.io⟩
    · have e : (if 0 < cnt b N then none else G' b) = some o := e
      split at e
      · cases e
      · exact ok'.sub b o e
    · rcases mem3 m q with q | q
      · exact ok'.nodes m (by rw [na]; exact q)
      · obtain ⟨o, q1, _, q3⟩ := inN s ok'.sub m (nN m q)
        exact ⟨o, q1, q3⟩
    · rcases mem4 l q with q | q
      · exact plain_rep (plain_leaves (by rw [ea]; exact hp) l q x e) (ok'.leaves l (by rw [la]; exact q) x e)
      · exact RepD.mono (.of_same sG) (rel.ok.leaves l (lN l q) x e)
    · have c1 := ok'.one b
      rw [na] at c1
      have c2 := Nat.le_trans (cN b) (rel.ok.one b)
      have e : cnt b (allN (owns F.sl ++ (a :: R))) = cnt b (LT.nodes a) + cnt b (allN (owns F.sl ++ R)) := by
        simp only [allN_append, allN_cons, cnt_append]; omega
      rw [e]
      by_cases z : 0 < cnt b (LT.nodes a)
      · obtain ⟨m, hm, e1⟩ := List.countP_pos_iff.mp z
        have e1 : m.1 = b := by simpa using e1
        have := apart m hm
        rw [e1] at this
        have := cN b
        omega
      · omega
    · rcases mem3 m q with q | q
      · show (if 0 < cnt m.1 N then none else G' m.1) = none
        rw [if_neg (apart m q)]
        exact ok'.free m (by rw [na]; exact q)
      · show (if 0 < cnt m.1 N then none else G' m.1) = none
        rw [if_pos (cnt_pos ⟨m, nN m q, rfl⟩)]
theorem callR_run {K : PySem.W.Frag} {W : WX} {FF : FD} {fs : List (M EV)} {n : Nat} (hn : fs.length = n) {σ : L2.St} {H : Hp} {Q : VK} (h : tD K W (M.callR FF fs) σ H Q) :
    tAs (fs.map (tD K W)) σ H fun vs H1 => spD K n [] FF vs H1 Q (WE W σ) := by
  refine args_run fs ?_
  obtain ⟨G, F, R, rel, res, ρ', e, k⟩ := h
  unfold M.callR M.bind at e
  cases q1 : evalArgs fs F.er with
  | none => rw [q1] at e; cases e
  | some y1 =>
    obtain ⟨r1, ρ1⟩ := y1
    rw [q1] at e
    cases r1 with
    | error ex =>
      cases e
      exact ⟨G, F, R, rel, _, _, q1, k⟩
    | ok xs =>
      refine ⟨G, F, R, rel, _, _, q1, fun G1 H1 F1 n1 e1 as rel1 ok1 ex1 => ?_⟩
      subst ex1
      subst e1
      simp only [gCallR] at e
      cases q2 : deepsOf (as.map AV.er) F1.er with
      | none => rw [q2] at e; cases e
      | some ds =>
        rw [q2] at e
        simp only at e
        split at e
        · rename_i t q3
          split at e
          · rename_i hp
            cases e
            have len : as.length = n := by
              have : ∀ (fs : List (M EV)) (ρ : Fr) xs ρ', evalArgs fs ρ = some (.ok xs, ρ') → xs.length = fs.length := by
                intro fs
                induction fs with
                | nil => intro ρ xs ρ' h; cases h; rfl
                | cons f fs ih =>
                  intro ρ xs ρ' h
                  unfold evalArgs M.bind at h
                  cases z : f ρ with
                  | none => rw [z] at h; cases h
                  | some y =>
                    obtain ⟨r1, ρ1⟩ := y
                    rw [z] at h
                    cases r1 with
                    | error ex => cases h
                    | ok x =>
                      simp only [M.hold] at h
                      cases z2 : evalArgs fs (x.push ρ1) with
                      | none => rw [z2] at h; cases h
                      | some y2 =>
                        obtain ⟨r2, ρ2⟩ := y2
                        rw [z2] at h
                        simp only at h
                        cases z3 : x.pop ρ2 with
                        | none => rw [z3] at h; cases h
                        | some ρ3 =>
                          rw [z3] at h
                          cases r2 with
                          | error ex => cases h
                          | ok ys =>
                            cases h
                            simp [ih _ _ _ z2]
              have := this fs _ _ _ q1
              simpa [hn] using this
            exact callR_ok rel1 ok1 len q2 q3 hp fun G2 H2 a n2 ea rl => k G2 H2 F1 (n1.trans n2) rfl (.val a) (by simpa [AV.trees] using rl) trivial (by rw [AV.er, ea])
          · cases e
        · cases e
section
variable {X : Cx} {W : WX} {k : Nat} {f : Addr} {fd : FuncData} {ps : List Str} {FF : FD} {x : Str} {p pos : Pos} {e : Expr} {es : List Expr} {fs : List (M EV)}
theorem de_callR (F : FnOk X.prog X.w X.K X.mg X.base (L2.CX X.prog X.w) k f fd ps (spD X.K ps.length [] FF)) (hr : Room k X.A) (tk : Takes X W) (hg : Gl X x) (hm : X.mg x = some (.ref f)) (hk : PySem.W.keepIn X.K (.ref f) = true) (hb : Binds X.K fd ps [])
    (ha : DAs X W (e :: es) fs) (hn : fs.length = ps.length := by rfl) (hdb : (x == ("__debug__" : Str)) = false := by decide) (he : starEach (e :: es) X.env = (false, eval e X.env) :: starEach es X.env := by rfl)
    (hpl : (backTo pos (starEach es X.env)).any (·.1) = false := by rfl) : DE X W (.Call (.Name x p) (e :: es) [] pos) (M.callR FF fs) :=
  PE.imp (pe_callS F hr hg hm hk hb (fun σ => passAt tk σ) ha hdb he hpl) fun σ H Q h => callR_run hn h
theorem de_calR (c : Cal X.prog X.w X.K X.mg X.base k x ps [] FF) (hr : Room k X.A) (tk : Takes X W) (hg : Gl X x) (ha : DAs X W (e :: es) fs) (hn : fs.length = ps.length := by rfl) (hdb : (x == ("__debug__" : Str)) = false := by decide)
    (he : starEach (e :: es) X.env = (false, eval e X.env) :: starEach es X.env := by rfl) (hpl : (backTo pos (starEach es X.env)).any (·.1) = false := by rfl) : DE X W (.Call (.Name x p) (e :: es) [] pos) (M.callR FF fs) := by
  obtain ⟨f, fd, h1, h2, h3, h4⟩ := c.ex
  exact de_callR h1 hr tk hg h2 h3 h4 ha hn hdb he hpl
end
end LT

/-! LE: how denotations are worked out. -/
namespace LT
open PySem PySem.Spec L2
section
variable {α β : Type} (ρ : Fr)
@[simp] theorem ret_app (x : α) : M.ret x ρ = some (.ok x, ρ) := rfl
@[simp] theorem bind_app (f : M α) (g : α → M β) : M.bind f g ρ = match f ρ with
  | none => none
  | some (.error e, ρ') => some (.error e, ρ')
  | some (.ok x, ρ') => g x ρ' := rfl
@[simp] theorem push_val (t : T) : EV.push (.val t) ρ = ρ := rfl
@[simp] theorem pop_val (t : T) : EV.pop (.val t) ρ = some ρ := rfl
@[simp] theorem hold_val (t : T) (g : M β) : M.hold (.val t) g ρ = g ρ := by
  unfold M.hold
  simp only [push_val, pop_val]
  cases g ρ with
  | none => rfl
  | some y => rfl
@[simp] theorem hold_ptr (j : Nat) (p : List D) (g : M β) : M.hold (.ptr j p) g ρ = match g { ρ with tm := some (j, p) :: ρ.tm } with
  | none => none
  | some (r, ρ') => match ρ'.tm with
    | some _ :: tm => some (r, { ρ' with tm := tm })
    | _ => none := by
  unfold M.hold
  simp only [EV.push, EV.pop]
  cases g { ρ with tm := some (j, p) :: ρ.tm } with
  | none => rfl
  | some y =>
    obtain ⟨r, ρ'⟩ := y
    obtain ⟨sl, tm, io⟩ := ρ'
    cases tm with
    | nil => rfl
    | cons y tm => cases y <;> rfl
@[simp] theorem args_nil : LT.evalArgs [] ρ = some (.ok [], ρ) := rfl
@[simp] theorem args_cons (f : M EV) (fs : List (M EV)) : LT.evalArgs (f :: fs) ρ = match f ρ with
  | none => none
  | some (.error e, ρ') => some (.error e, ρ')
  | some (.ok x, ρ1) => match M.hold x (LT.evalArgs fs) ρ1 with
    | none => none
    | some (.error e, ρ') => some (.error e, ρ')
    | some (.ok xs, ρ') => some (.ok (x :: xs), ρ') := by
  show M.bind f (fun x => M.bind (M.hold x (LT.evalArgs fs)) fun xs => M.ret (x :: xs)) ρ = _
  rw [bind_app]
  cases f ρ with
  | none => rfl
  | some y =>
    obtain ⟨r, ρ'⟩ := y
    cases r with
    | error e => rfl
    | ok x =>
      show M.bind _ _ ρ' = _
      rw [bind_app]
      simp only
      cases M.hold x (LT.evalArgs fs) ρ' with
      | none => rfl
      | some y =>
        obtain ⟨r2, ρ2⟩ := y
        cases r2 <;> rfl
@[simp] theorem mop_app (fs : List (M EV)) (g : List EV → M EV) : mop fs g ρ = match LT.evalArgs fs ρ with
  | none => none
  | some (.error e, ρ') => some (.error e, ρ')
  | some (.ok xs, ρ') => g xs ρ' := by
  unfold mop
  rw [bind_app]
  cases LT.evalArgs fs ρ with
  | none => rfl
  | some y =>
    obtain ⟨r, ρ'⟩ := y
    cases r <;> rfl
@[simp] theorem seq_app (f g : M SO) : M.seq f g ρ = match f ρ with
  | none => none
  | some (.error e, ρ') => some (.error e, ρ')
  | some (.ok .nx, ρ') => g ρ'
  | some (.ok (.ret t), ρ') => some (.ok (.ret t), ρ')
  | some (.ok .brk, ρ') => some (.ok .brk, ρ')
  | some (.ok .ct, ρ') => some (.ok .ct, ρ') := by
  unfold M.seq
  rw [bind_app]
  cases f ρ with
  | none => rfl
  | some y =>
    obtain ⟨r, ρ'⟩ := y
    cases r with
    | error e => rfl
    | ok o => cases o <;> rfl
@[simp] theorem fin_app (f : M EV) (g : EV → Fr → Option (SO × Fr)) : M.fin f g ρ = match f ρ with
  | none => none
  | some (.error e, ρ') => some (.error e, ρ')
  | some (.ok x, ρ1) => match g x ρ1 with
    | none => none
    | some (o, ρ') => some (.ok o, ρ') := by
  unfold M.fin
  rw [bind_app]
  cases f ρ with
  | none => rfl
  | some y =>
    obtain ⟨r, ρ'⟩ := y
    cases r <;> rfl
@[simp] theorem ite_app (c : M Bool) (f g : M α) : M.ite c f g ρ = match c ρ with
  | none => none
  | some (.error e, ρ') => some (.error e, ρ')
  | some (.ok true, ρ') => f ρ'
  | some (.ok false, ρ') => g ρ' := by
  unfold M.ite
  rw [bind_app]
  cases c ρ with
  | none => rfl
  | some y =>
    obtain ⟨r, ρ'⟩ := y
    cases r with
    | error e => rfl
    | ok b => cases b <;> rfl
@[simp] theorem andB_app (c d : M Bool) : M.andB c d ρ = match c ρ with
  | none => none
  | some (.error e, ρ') => some (.error e, ρ')
  | some (.ok true, ρ') => d ρ'
  | some (.ok false, ρ') => some (.ok false, ρ') := by
  unfold M.andB
  rw [bind_app]
  cases c ρ with
  | none => rfl
  | some y =>
    obtain ⟨r, ρ'⟩ := y
    cases r with
    | error e => rfl
    | ok b => cases b <;> rfl
@[simp] theorem orB_app (c d : M Bool) : M.orB c d ρ = match c ρ with
  | none => none
  | some (.error e, ρ') => some (.error e, ρ')
  | some (.ok true, ρ') => some (.ok true, ρ')
  | some (.ok false, ρ') => d ρ' := by
  unfold M.orB
  rw [bind_app]
  cases c ρ with
  | none => rfl
  | some y =>
    obtain ⟨r, ρ'⟩ := y
    cases r with
    | error e => rfl
    | ok b => cases b <;> rfl
@[simp] theorem notB_app (c : M Bool) : M.notB c ρ = match c ρ with
  | none => none
  | some (.error e, ρ') => some (.error e, ρ')
  | some (.ok b, ρ') => some (.ok (!b), ρ') := by
  unfold M.notB
  rw [bind_app]
  cases c ρ with
  | none => rfl
  | some y =>
    obtain ⟨r, ρ'⟩ := y
    cases r <;> rfl
theorem var_app (i : Nat) : M.var i ρ = match ρ.sl[i]? with
  | some (.own (.leaf (some d))) => some (.ok (.d d), ρ)
  | some (.own (.node _ _ _)) => some (.ok (.ptr i []), ρ)
  | some (.al j p) => match look (.ptr j p) ρ with
    | some (.leaf (some d)) => some (.ok (.d d), ρ)
    | some (.node _ _ _) => some (.ok (.ptr j p), ρ)
    | _ => none
  | _ => none := rfl
/-- a tree that is a node -/
def isNodeB : T → Bool
  | .node _ _ _ => true
  | _ => false
@[simp] theorem isNodeB_node (u : Unit) (k : NK) (cs : List (D × T)) : isNodeB (.node u k cs) = true := rfl
@[simp] theorem isNodeB_leaf (o : Option D) : isNodeB (.leaf o) = false := rfl
def varT (i : Nat) (p : List D) (ρ : Fr) : T → Option (Except Ex EV × Fr)
  | .leaf (some d) => some (.ok (.d d), ρ)
  | .node _ _ _ => some (.ok (.ptr i p), ρ)
  | .leaf none => none
@[simp] theorem varT_leaf (i : Nat) (p : List D) (d : D) : varT i p ρ (.leaf (some d)) = some (.ok (.d d), ρ) := rfl
@[simp] theorem varT_none (i : Nat) (p : List D) : varT i p ρ (.leaf none) = none := rfl
@[simp] theorem varT_node (i : Nat) (p : List D) (u : Unit) (k : NK) (cs : List (D × T)) : varT i p ρ (.node u k cs) = some (.ok (.ptr i p), ρ) := rfl
@[simp] theorem varT_opq (i : Nat) (p : List D) (t : T) (h : isNodeB t = true) : varT i p ρ t = some (.ok (.ptr i p), ρ) := by
  cases t with
  | leaf o => cases h
  | node u k cs => rfl
def varS (i : Nat) (ρ : Fr) : SV → Option (Except Ex EV × Fr)
  | .own t => varT i [] ρ t
  | .al j p => match look (.ptr j p) ρ with
    | some t => varT j p ρ t
    | none => none
  | .emp => none
@[simp] theorem varS_own (i : Nat) (t : T) : varS i ρ (.own t) = varT i [] ρ t := rfl
@[simp] theorem varS_al (i j : Nat) (p : List D) : varS i ρ (.al j p) = match look (.ptr j p) ρ with
    | some t => varT j p ρ t
    | none => none := rfl
@[simp] theorem varS_emp (i : Nat) : varS i ρ .emp = none := rfl
@[simp] theorem var_app' (i : Nat) : M.var i ρ = match ρ.sl[i]? with
  | some s => varS i ρ s
  | none => none := by
  rw [var_app]
  cases ρ.sl[i]? with
  | none => rfl
  | some s =>
    cases s with
    | emp => rfl
    | own t =>
      cases t with
      | leaf o => cases o <;> rfl
      | node u k cs => rfl
    | al j p =>
      simp only [varS]
      cases look (.ptr j p) ρ with
      | none => rfl
      | some t =>
        cases t with
        | leaf o => cases o <;> rfl
        | node u k cs => rfl
@[simp] theorem cst_app (d : D) : M.cst d ρ = some (.ok (.d d), ρ) := rfl
@[simp] theorem chk_app (P : EV → Fr → Bool) (f : M EV) : M.chk P f ρ = match f ρ with
  | none => none
  | some (.error e, ρ') => some (.error e, ρ')
  | some (.ok x, ρ') => match P x ρ' with
    | true => some (.ok x, ρ')
    | false => none := by
  unfold M.chk
  rw [bind_app]
  cases f ρ with
  | none => rfl
  | some y =>
    obtain ⟨r, ρ'⟩ := y
    cases r <;> rfl
@[simp] theorem isStr_val (s : Str) : isStrE (.val (.leaf (some (.str s)))) ρ = true := rfl
@[simp] theorem asBool_app (f : M EV) : M.asBool f ρ = match f ρ with
  | none => none
  | some (.error e, ρ') => some (.error e, ρ')
  | some (.ok x, ρ') => match x.key with
    | some (.bool b) => some (.ok b, ρ')
    | _ => none := by
  unfold M.asBool
  rw [bind_app]
  cases f ρ with
  | none => rfl
  | some y =>
    obtain ⟨r, ρ'⟩ := y
    cases r <;> rfl
@[simp] theorem tru_app (f : M EV) : M.tru f ρ = match f ρ with
  | none => none
  | some (.error e, ρ') => some (.error e, ρ')
  | some (.ok x, ρ') => match truOf x ρ' with
    | some b => some (.ok b, ρ')
    | none => none := by
  unfold M.tru
  rw [bind_app]
  cases f ρ with
  | none => rfl
  | some y =>
    obtain ⟨r, ρ'⟩ := y
    cases r <;> rfl
@[simp] theorem ghost_app (g : EV → Fr → Option (EV × Fr)) (f : M EV) : M.ghost g f ρ = match f ρ with
  | none => none
  | some (.error e, ρ') => some (.error e, ρ')
  | some (.ok x, ρ1) => match g x ρ1 with
    | none => none
    | some (x', ρ') => some (.ok x', ρ') := by
  unfold M.ghost
  rw [bind_app]
  cases f ρ with
  | none => rfl
  | some y =>
    obtain ⟨r, ρ'⟩ := y
    cases r <;> rfl
@[simp] theorem frz_leaf (d : D) : gFrz (.val (.leaf (some d))) ρ = some (.d d, ρ) := rfl
@[simp] theorem move_val (t : T) : gMove (.val t) ρ = some (.val t, ρ) := rfl
@[simp] theorem ret_val (t : T) : gRet (.val t) ρ = some (.ret t, ρ) := rfl
@[simp] theorem drop_app (x : EV) : gDrop x ρ = some (.nx, ρ) := rfl
@[simp] theorem chkInt_app (f : M EV) : M.chkInt f ρ = match f ρ with
  | none => none
  | some (.error e, ρ') => some (.error e, ρ')
  | some (.ok x, ρ') => match x.key with
    | some (.int _) => some (.ok x, ρ')
    | _ => none := by
  unfold M.chkInt
  rw [bind_app]
  cases f ρ with
  | none => rfl
  | some y =>
    obtain ⟨r, ρ'⟩ := y
    cases r <;> rfl
@[simp] theorem key_leaf (d : D) : EV.key (.val (.leaf (some d))) = some d := rfl
@[simp] theorem look_val (t : T) : look (.val t) ρ = some t := rfl
@[simp] theorem look_own (j : Nat) (p : List D) : look (.ptr j p) ρ = match ρ.sl[j]? with
  | some (.own t) => t.at p
  | _ => none := rfl
@[simp] theorem at_nil' {L N : Type} (t : TR L N) : t.at [] = some t := TR.at_nil t
@[simp] theorem deepOf_leaf (d : D) : deepOf (.val (.leaf (some d))) ρ = some d := rfl
@[simp] theorem deepsOf_nil : deepsOf [] ρ = some [] := rfl
@[simp] theorem deepsOf_cons (x : EV) (xs : List EV) : deepsOf (x :: xs) ρ = match deepOf x ρ with
  | none => none
  | some d => match deepsOf xs ρ with
    | none => none
    | some ds => some (d :: ds) := rfl
@[simp] theorem dop_app (op : List D → Option D) (xs : List EV) : dop op xs ρ = match deepsOf xs ρ with
  | none => none
  | some ds => match op ds with
    | none => none
    | some d => match sval d with
      | none => none
      | some _ => some (.ok (.d d), ρ) := rfl
@[simp] theorem sval_int (i : Int) : sval (.int i) = some (.int i) := rfl
@[simp] theorem sval_str (i : Str) : sval (.str i) = some (.str i) := rfl
@[simp] theorem sval_bool (i : Bool) : sval (.bool i) = some (.bl i) := rfl
@[simp] theorem sval_none : sval .none = some .non := rfl
@[simp] theorem opAdd_int (i j : Int) : opAdd [.int i, .int j] = some (.int (i + j)) := rfl
@[simp] theorem opAdd_str (a b : Str) : opAdd [.str a, .str b] = if a.length + b.length ≤ sizeLine then some (.str (a ++ b)) else none := rfl
@[simp] theorem opSub_int (i j : Int) : opSub [.int i, .int j] = some (.int (i - j)) := rfl
@[simp] theorem opNeg_int (i : Int) : opNeg [.int i] = some (.int (-i)) := rfl
@[simp] theorem opInt_int (i : Int) : opInt [.int i] = some (.int i) := rfl
@[simp] theorem opAbs_int (i : Int) : opAbs [.int i] = some (.int (iabs i)) := rfl
@[simp] theorem opFind_str (a b : Str) : opFind [.str a, .str b] = some (.int (Txt.find a b)) := rfl
@[simp] theorem opOrd_int (f : Int → Int → Bool) (g : List Nat → List Nat → Bool) (i j : Int) : opOrd f g [.int i, .int j] = some (.bool (f i j)) := rfl
@[simp] theorem opOrd_str (f : Int → Int → Bool) (g : List Nat → List Nat → Bool) (i j : Str) : opOrd f g [.str i, .str j] = some (.bool (g i.cps.toList j.cps.toList)) := rfl
@[simp] theorem store_leaf (i : Nat) (t : T) : Fr.store ρ i (.val t) = if ρ.io.contains i = true then none else some { ρ with sl := (ρ.sl.map (SV.kill0 i)).set i (.own t), tm := ρ.tm.map (tmKill0 i) } := by
  unfold Fr.store
  rfl
@[simp] theorem set1_app (i : Nat) (x : EV) : gSet1 i x ρ = match ρ.store i x with
  | none => none
  | some ρ' => if i < ρ.sl.length then some (.nx, ρ') else none := rfl
@[simp] theorem kill0_own (i : Nat) (t : T) : SV.kill0 i (.own t) = .own t := rfl
@[simp] theorem kill0_emp (i : Nat) : SV.kill0 i .emp = .emp := rfl
@[simp] theorem gAdd_int (i j : Int) : gAdd [.d (.int i), .d (.int j)] ρ = some (.ok (.d (.int (i + j))), ρ) := rfl
@[simp] theorem gAdd_str (a b : Str) (h : a.length + b.length ≤ sizeLine) : gAdd [.d (.str a), .d (.str b)] ρ = some (.ok (.d (.str (a ++ b))), ρ) := by
  unfold gAdd gOr
  simp [h]
@[simp] theorem g1_app (h : EV → M EV) (x : EV) : g1 h [x] ρ = h x ρ := rfl
@[simp] theorem g2_app (h : EV → EV → M EV) (x y : EV) : g2 h [x, y] ρ = h x y ρ := rfl
@[simp] theorem g3_app (h : EV → EV → EV → M EV) (x y z : EV) : g3 h [x, y, z] ρ = h x y z ρ := rfl
end
end LT

/-! LE2: how denotations are worked out: dicts, places, stores, calls. -/
namespace LT
open PySem PySem.Spec L2

@[simp] theorem lit_eq (a b : String) : (Str.ofString a = Str.ofString b) = (a = b) := by
  rw [Str.ofString_eq_byList]
  apply propext
  constructor
  · intro h
    unfold Str.ofStringByList at h
    simp at h
    have : a.toList = b.toList := by
      have inj : ∀ {l m : List Char}, l.map Char.toNat = m.map Char.toNat → l = m := by
        intro l
        induction l with
        | nil => intro m h; cases m with | nil => rfl | cons _ _ => cases h
        | cons x l ih =>
          intro m h
          cases m with
          | nil => cases h
          | cons y m =>
            simp only [List.map_cons, List.cons.injEq] at h
            rw [ih h.2]
            congr 1
            exact Char.ext (UInt32.toNat_inj.mp h.1)
      exact inj h
    exact String.toList_inj.mp this
  · intro h; rw [h]
@[simp] theorem same_str (a b : Str) : PyData.same (.str a) (.str b) = decide (a = b) := rfl
@[simp] theorem same_int (a b : Int) : PyData.same (.int a) (.int b) = decide (a = b) := rfl
@[simp] theorem same_si (a : Str) (b : Int) : PyData.same (.str a) (.int b) = false := rfl
@[simp] theorem same_is (a : Int) (b : Str) : PyData.same (.int a) (.str b) = false := rfl
@[simp] theorem isKey_str (a : Str) : PyData.isKey (.str a) = true := rfl
@[simp] theorem isKey_int (a : Int) : PyData.isKey (.int a) = true := rfl
/-- the child under a key, by its place -/
theorem find_get {α : Type} (q : D) : ∀ (cs : List (D × α)), (match (cs.map Prod.fst).findIdx? (fun l => l.same q) with
    | some i => (cs[i]?).map Prod.snd
    | none => none) = getD cs q
  | [] => rfl
  | (k, c) :: r => by
    have ih := find_get q r
    rw [List.map_cons, List.findIdx?_cons]
    by_cases h : k.same q = true
    · simp [h, getD]
    · simp only [h, getD, if_false]
      rw [← ih]
      cases (r.map Prod.fst).findIdx? (fun l => l.same q) with
      | none => simp
      | some i => simp
def updD {α : Type} : List (D × α) → D → (α → α) → List (D × α)
  | [], _, _ => []
  | (k, c) :: r, q, f => if k.same q = true then (k, f c) :: r else (k, c) :: updD r q f
theorem find_upd {α : Type} (q : D) (f : α → α) : ∀ (cs : List (D × α)), (match (cs.map Prod.fst).findIdx? (fun l => l.same q) with
    | some i => (match cs[i]? with
      | some c => cs.set i (c.1, f c.2)
      | none => cs)
    | none => cs) = updD cs q f
  | [] => rfl
  | (k, c) :: r => by
    have ih := find_upd q f r
    rw [List.map_cons, List.findIdx?_cons]
    by_cases h : k.same q = true
    · simp [h, updD]
    · simp only [h, updD, if_false]
      rw [← ih]
      cases (r.map Prod.fst).findIdx? (fun l => l.same q) with
      | none => simp
      | some i =>
        simp
        cases r[i]? with
        | none => rfl
        | some c => rfl
section
variable {L N : Type}
@[simp] theorem at_dct (n : N) (cs : List (D × TR L N)) (q : D) (p : List D) : (TR.node n .dct cs).at (q :: p) = match getD cs q with
  | none => none
  | some c => c.at p := by
  rw [TR.at_node, ← find_get]
  show (match (cs.map Prod.fst).findIdx? (fun l => l.same q) with
    | none => none
    | some i => match cs[i]? with
      | none => none
      | some c => TR.at c.2 p) = _
  cases (cs.map Prod.fst).findIdx? (fun l => l.same q) with
  | none => rfl
  | some i => simp only; cases cs[i]? <;> rfl
@[simp] theorem set_nil' (t x : TR L N) : t.set [] x = x := TR.set_nil t x
@[simp] theorem set_dct (n : N) (cs : List (D × TR L N)) (q : D) (p : List D) (x : TR L N) : (TR.node n .dct cs).set (q :: p) x = .node n .dct (updD cs q fun c => c.set p x) := by
  rw [← find_upd]
  show (match (cs.map Prod.fst).findIdx? (fun l => l.same q) with
    | none => TR.node n .dct cs
    | some i => match cs[i]? with
      | none => TR.node n .dct cs
      | some c => .node n .dct (cs.set i (c.1, TR.set c.2 p x))) = _
  cases (cs.map Prod.fst).findIdx? (fun l => l.same q) with
  | none => rfl
  | some i => simp only; cases cs[i]? <;> rfl
end
@[simp] theorem getD_nil {α : Type} (q : D) : getD ([] : List (D × α)) q = none := rfl
@[simp] theorem getD_cons {α : Type} (k : D) (c : α) (r : List (D × α)) (q : D) : getD ((k, c) :: r) q = if k.same q = true then some c else getD r q := rfl
@[simp] theorem putD_nil {α : Type} (q : D) (t : α) : putD ([] : List (D × α)) q t = [(q, t)] := rfl
@[simp] theorem putD_cons {α : Type} (k : D) (c : α) (r : List (D × α)) (q : D) (t : α) : putD ((k, c) :: r) q t = if k.same q = true then (k, t) :: r else (k, c) :: putD r q t := rfl
@[simp] theorem updD_nil {α : Type} (q : D) (f : α → α) : updD ([] : List (D × α)) q f = [] := rfl
@[simp] theorem updD_cons {α : Type} (k : D) (c : α) (r : List (D × α)) (q : D) (f : α → α) : updD ((k, c) :: r) q f = if k.same q = true then (k, f c) :: r else (k, c) :: updD r q f := rfl
/-- what stands under a key, as a value -/
def kidP (j : Nat) (p : List D) (ρ : Fr) : T → Option (Except Ex EV × Fr)
  | .leaf none => none
  | .leaf (some d) => some (.ok (.d d), ρ)
  | .node _ _ _ => some (.ok (.ptr j p), ρ)
@[simp] theorem kidP_leaf (j : Nat) (p : List D) (ρ : Fr) (d : D) : kidP j p ρ (.leaf (some d)) = some (.ok (.d d), ρ) := rfl
@[simp] theorem kidP_node (j : Nat) (p : List D) (ρ : Fr) (u : Unit) (k : NK) (cs : List (D × T)) : kidP j p ρ (.node u k cs) = some (.ok (.ptr j p), ρ) := rfl
@[simp] theorem gIx_leaf (d q : D) (ρ : Fr) : gIx (.d d) (.d q) ρ = match dIx d q with
  | some r => some (.ok (.d r), ρ)
  | none => none := by
  unfold gIx
  simp only [key_leaf, look_val]
  all_goals (cases dIx d q <;> rfl)
@[simp] theorem gIx_node (u : Unit) (k : NK) (cs : List (D × T)) (q : D) (ρ : Fr) : gIx (.val (.node u k cs)) (.d q) ρ = match nkIx k cs q with
  | none => none
  | some (q', j) => match cs[j]? with
    | none => none
    | some c => match kidOf (.val (.node u k cs)) q' c.2 with
      | none => none
      | some ev => some (.ok ev, ρ) := by
  unfold gIx
  simp only [key_leaf, look_val]
  cases nkIx k cs q with
  | none => rfl
  | some y =>
    obtain ⟨q', j⟩ := y
    simp only
    cases cs[j]? with
    | none => rfl
    | some c =>
      simp only
      all_goals (cases kidOf (.val (.node u k cs)) q' c.2 <;> rfl)
theorem gIx_ptr (j : Nat) (p : List D) (q : D) (ρ : Fr) : gIx (.ptr j p) (.d q) ρ = match look (.ptr j p) ρ with
  | some (.leaf (some d)) => (match dIx d q with
    | some r => some (.ok (.d r), ρ)
    | none => none)
  | some (.node _ .dct cs) => if q.isKey = true then (match getD cs q with
    | none => none
    | some c => kidP j (p ++ [q]) ρ c) else none
  | some (.node _ k cs) => (match nkIx k cs q with
    | none => none
    | some (q', i) => match cs[i]? with
      | none => none
      | some c => kidP j (p ++ [q']) ρ c.2)
  | _ => none := by
  unfold gIx
  simp only [key_leaf]
  have kid : ∀ (q' : D) (c : T), (match kidOf (.ptr j p) q' c with
    | none => none
    | some ev => some (Except.ok ev, ρ) : Option (Except Ex EV × Fr)) = kidP j (p ++ [q']) ρ c := fun q' c => by
    cases c with
    | leaf o => cases o <;> rfl
    | node u k cs => rfl
  cases look (.ptr j p) ρ with
  | none => rfl
  | some t =>
    cases t with
    | leaf o => cases o <;> rfl
    | node u k cs =>
      cases k with
      | dct =>
        by_cases hk : q.isKey = true
        · simp only [nkIx, hk, if_true]
          rw [← find_get]
          show (match ((cs.map Prod.fst).findIdx? (fun l => l.same q)).map fun j => (q, j) with
            | none => none
            | some (q', i) => match cs[i]? with
              | none => none
              | some c => match kidOf (.ptr j p) q' c.2 with
                | none => none
                | some ev => some (Except.ok ev, ρ)) = _
          cases (cs.map Prod.fst).findIdx? (fun l => l.same q) with
          | none => rfl
          | some i =>
            simp only [Option.map_some]
            cases cs[i]? with
            | none => rfl
            | some c => simp only [Option.map_some]; exact kid q c.2
        · simp only [nkIx, hk, if_false, Bool.false_eq_true]
      | _ =>
        simp only
        cases nkIx _ cs q with
        | none => rfl
        | some y =>
          obtain ⟨q', i⟩ := y
          simp only
          cases cs[i]? with
          | none => rfl
          | some c => simp only; exact kid q' c.2
@[simp] theorem setItem_app (fx fo fi : M EV) (ρ : Fr) : M.setItem fx fo fi ρ = match LT.evalArgs [fx, fo, fi] ρ with
  | none => none
  | some (.error e, ρ') => some (.error e, ρ')
  | some (.ok xs, ρ') => match xs with
    | [x, o, i] => (match gSetI x o i ρ' with
      | none => none
      | some ρ'' => some (.ok .nx, ρ''))
    | _ => none := by
  unfold M.setItem
  rw [bind_app]
  cases LT.evalArgs [fx, fo, fi] ρ with
  | none => rfl
  | some y =>
    obtain ⟨r, ρ'⟩ := y
    cases r with
    | error e => rfl
    | ok xs =>
      match xs with
      | [] => rfl
      | [_] => rfl
      | [_, _] => rfl
      | [x, o, i] => rfl
      | _ :: _ :: _ :: _ :: _ => rfl
theorem gSetI_app (t : T) (j : Nat) (p : List D) (q : D) (ρ : Fr) : gSetI (.val t) (.ptr j p) (.d q) ρ = match look (.ptr j p) ρ with
  | some (.node _ k cs) => (match setT k cs q t with
    | none => none
    | some cs' => ρ.put j p (.node () k cs'))
  | _ => none := rfl
@[simp] theorem setT_dct {α : Type} (cs : List (D × α)) (q : D) (t : α) : setT .dct cs q t = if q.isKey = true then (if cs.length < sizeLine then some (putD cs q t) else none) else none := rfl
@[simp] theorem put_app (ρ : Fr) (j : Nat) (p : List D) (x : T) : ρ.put j p x = match ρ.sl[j]? with
  | some (.own t) => some { ρ with sl := (ρ.sl.map (SV.kill j p)).set j (.own (t.set p x)), tm := ρ.tm.map (tmKill j p) }
  | _ => none := rfl
@[simp] theorem kill_own (j : Nat) (p : List D) (t : T) : SV.kill j p (.own t) = .own t := rfl
@[simp] theorem kill_emp (j : Nat) (p : List D) : SV.kill j p .emp = .emp := rfl
@[simp] theorem kill_al (j : Nat) (p : List D) (j' : Nat) (p' : List D) : SV.kill j p (.al j' p') = if j' = j ∧ below p p' = true then .emp else .al j' p' := rfl
@[simp] theorem tmKill_some (j : Nat) (p : List D) (j' : Nat) (p' : List D) : tmKill j p (some (j', p')) = if j' = j ∧ below p p' = true then none else some (j', p') := rfl
@[simp] theorem tmKill_none (j : Nat) (p : List D) : tmKill j p none = none := rfl
@[simp] theorem below_nil (r : List D) : below [] r = !r.isEmpty := by cases r <;> rfl
@[simp] theorem below_consnil (q : D) (p : List D) : below (q :: p) [] = false := rfl
@[simp] theorem below_cons (q : D) (p : List D) (q' : D) (r : List D) : below (q :: p) (q' :: r) = (q.same q' && below p r) := rfl
@[simp] theorem opEq_app (d e : D) : opEq [d, e] = if deepOk d = true ∧ deepOk e = true then some (.bool (PyData.eqv d e)) else none := by
  unfold opEq
  simp
theorem size_big : 1000000 < sizeLine := by rw [sizeLine_eq]; decide
end LT

/-! LE3: how denotations are worked out: operations on plain values. -/
namespace LT
open PySem PySem.Spec L2
@[simp] theorem deepOk_int (i : Int) : deepOk (.int i) = true := by simp [deepOk, nd, PyData.depth]
@[simp] theorem deepOk_str (i : Str) : deepOk (.str i) = true := by simp [deepOk, nd, PyData.depth]
@[simp] theorem deepOk_bool (i : Bool) : deepOk (.bool i) = true := by simp [deepOk, nd, PyData.depth]
@[simp] theorem deepOk_none : deepOk .none = true := by simp [deepOk, nd, PyData.depth]
@[simp] theorem eqv_int (i j : Int) : PyData.eqv (.int i) (.int j) = decide (i = j) := by
  rw [PyData.eqv]; by_cases h : i = j <;> simp [h]
@[simp] theorem eqv_str (i j : Str) : PyData.eqv (.str i) (.str j) = decide (i = j) := by
  rw [PyData.eqv]; by_cases h : i = j <;> simp [h]
@[simp] theorem eqv_bool (i j : Bool) : PyData.eqv (.bool i) (.bool j) = decide (i = j) := by
  rw [PyData.eqv]; by_cases h : i = j <;> simp [h]
@[simp] theorem eqv_nn : PyData.eqv .none .none = true := by rw [PyData.eqv]
@[simp] theorem eqv_ns (s : Str) : PyData.eqv .none (.str s) = false := by rw [PyData.eqv]
@[simp] theorem eqv_ni (s : Int) : PyData.eqv .none (.int s) = false := by rw [PyData.eqv]
@[simp] theorem eqv_sn (s : Str) : PyData.eqv (.str s) .none = false := by rw [PyData.eqv]
@[simp] theorem eqv_in (s : Int) : PyData.eqv (.int s) .none = false := by rw [PyData.eqv]
@[simp] theorem eqv_si (s : Str) (i : Int) : PyData.eqv (.str s) (.int i) = false := by rw [PyData.eqv]
@[simp] theorem eqv_is (s : Str) (i : Int) : PyData.eqv (.int i) (.str s) = false := by rw [PyData.eqv]
@[simp] theorem eqv_sb (s : Str) (i : Bool) : PyData.eqv (.str s) (.bool i) = false := by rw [PyData.eqv]
@[simp] theorem eqv_bs (s : Str) (i : Bool) : PyData.eqv (.bool i) (.str s) = false := by rw [PyData.eqv]
@[simp] theorem eqv_tt (xs ys : List D) : PyData.eqv (.tuple xs) (.tuple ys) = PyData.eqvAll xs ys := by rw [PyData.eqv]
@[simp] theorem eqv_ll (xs ys : List D) : PyData.eqv (.list xs) (.list ys) = PyData.eqvAll xs ys := by rw [PyData.eqv]
@[simp] theorem eqvAll_nn : PyData.eqvAll [] [] = true := by rw [PyData.eqvAll]
@[simp] theorem eqvAll_cc (x y : D) (xs ys : List D) : PyData.eqvAll (x :: xs) (y :: ys) = (PyData.eqv x y && PyData.eqvAll xs ys) := by rw [PyData.eqvAll]
@[simp] theorem eqvAll_nc (y : D) (ys : List D) : PyData.eqvAll [] (y :: ys) = false := by rw [PyData.eqvAll]
@[simp] theorem eqvAll_cn (y : D) (ys : List D) : PyData.eqvAll (y :: ys) [] = false := by rw [PyData.eqvAll]
@[simp] theorem opNe_app (d e : D) : opNe [d, e] = if deepOk d = true ∧ deepOk e = true then some (.bool (!PyData.eqv d e)) else none := by
  unfold opNe
  simp
@[simp] theorem opMul_int (i j : Int) (h : -18446744073709551616 < j ∧ j < 18446744073709551616) : opMul [.int i, .int j] = some (.int (i * j)) := by
  show (if _ then _ else _) = _
  rw [if_pos (.inr h)]
@[simp] theorem opMod_int (i j : Int) (h : 0 < j) : opMod [.int i, .int j] = some (.int (i % j)) := by
  show (if _ then _ else _) = _
  rw [if_pos h]
@[simp] theorem opDiv_int (i j : Int) (h : 0 < j) (h2 : j < 1606938044258990275541962092341162602522202993782792835301376) : opDiv [.int i, .int j] = some (.int (i / j)) := by
  show (if _ then _ else _) = _
  rw [if_pos ⟨h, h2⟩]
@[simp] theorem opLen_list (xs : List D) : opLen [.list xs] = some (.int xs.length) := rfl
@[simp] theorem opLen_tuple (xs : List D) : opLen [.tuple xs] = some (.int xs.length) := rfl
@[simp] theorem opLen_dict (xs : List (D × D)) : opLen [.dict xs] = some (.int xs.length) := rfl
@[simp] theorem opLen_str (s : Str) : opLen [.str s] = if s.length ≤ sizeLine then some (.int s.length) else none := rfl
@[simp] theorem opIsN_none : opIsN [.none, .none] = some (.bool true) := rfl
@[simp] theorem opIsN_int (i : Int) : opIsN [.int i, .none] = some (.bool false) := rfl
@[simp] theorem opIsN_str (i : Str) : opIsN [.str i, .none] = some (.bool false) := rfl
@[simp] theorem opIsN_bool (i : Bool) : opIsN [.bool i, .none] = some (.bool false) := rfl
@[simp] theorem opIsN_tuple (i : List D) : opIsN [.tuple i, .none] = some (.bool false) := rfl
@[simp] theorem opIsN_list (i : List D) : opIsN [.list i, .none] = some (.bool false) := rfl
@[simp] theorem opIsN_dict (i : List (D × D)) : opIsN [.dict i, .none] = some (.bool false) := rfl
@[simp] theorem opNotN_none : opNotN [.none, .none] = some (.bool false) := rfl
@[simp] theorem opNotN_int (i : Int) : opNotN [.int i, .none] = some (.bool true) := rfl
@[simp] theorem opNotN_str (i : Str) : opNotN [.str i, .none] = some (.bool true) := rfl
@[simp] theorem opNotN_bool (i : Bool) : opNotN [.bool i, .none] = some (.bool true) := rfl
@[simp] theorem opNotN_tuple (i : List D) : opNotN [.tuple i, .none] = some (.bool true) := rfl
@[simp] theorem opNotN_list (i : List D) : opNotN [.list i, .none] = some (.bool true) := rfl
@[simp] theorem opNotN_dict (i : List (D × D)) : opNotN [.dict i, .none] = some (.bool true) := rfl
@[simp] theorem opIsi_app (t : String) (d : D) : opIsi t [d] = (isTy (dType d) t).map .bool := rfl
@[simp] theorem isTy_int (d : String) : isTy d "int" = some (d == "int" || d == "bool") := rfl
@[simp] theorem isTy_bool (d : String) : isTy d "bool" = some (d == "bool") := rfl
@[simp] theorem isTy_str (d : String) : isTy d "str" = some (d == "str") := rfl
@[simp] theorem isTy_list (d : String) : isTy d "list" = some (d == "list") := rfl
@[simp] theorem isTy_tuple (d : String) : isTy d "tuple" = some (d == "tuple") := rfl
@[simp] theorem isTy_dict (d : String) : isTy d "dict" = some (d == "dict") := rfl
@[simp] theorem dType_none : dType .none = "NoneType" := rfl
@[simp] theorem dType_bool (b : Bool) : dType (.bool b) = "bool" := rfl
@[simp] theorem dType_int (b : Int) : dType (.int b) = "int" := rfl
@[simp] theorem dType_str (b : Str) : dType (.str b) = "str" := rfl
@[simp] theorem dType_list (b : List D) : dType (.list b) = "list" := rfl
@[simp] theorem dType_tuple (b : List D) : dType (.tuple b) = "tuple" := rfl
@[simp] theorem dType_dict (b : List (D × D)) : dType (.dict b) = "dict" := rfl
@[simp] theorem toD_leaf (o : Option D) : TR.toD (.leaf o) = o := by unfold TR.toD; rfl
@[simp] theorem toD_node (u : Unit) (k : NK) (cs : List (D × T)) : TR.toD (.node u k cs) = match toDs cs with
    | none => none
    | some ds => match k with
      | .lst => some (.list (ds.map (·.2)))
      | .tup => some (.tuple (ds.map (·.2)))
      | .dct => some (.dict ds)
      | _ => none := by
  unfold TR.toD
  cases toDs cs with
  | none => rfl
  | some ds => cases k <;> rfl
@[simp] theorem toDs_nil : toDs [] = some [] := rfl
@[simp] theorem toDs_cons (k : D) (c : T) (r : List (D × T)) : toDs ((k, c) :: r) = match TR.toD c with
    | none => none
    | some d => match toDs r with
      | none => none
      | some ds => some ((k, d) :: ds) := rfl
@[simp] theorem dIx_tuple0 (x0 : D) (xs : List D) : dIx (.tuple (x0 :: xs)) (.int 0) = some x0 := by
  have h : ixN (x0 :: xs).length 0 = some 0 := by
    unfold ixN
    simp only [List.length_cons]
    rw [if_pos (by omega)]
    first | rfl | (rw [if_pos (by omega)]; rfl)
  show atI _ _ = _
  unfold atI
  rw [h]
  rfl
@[simp] theorem dIx_tuple1 (x0 x1 : D) (xs : List D) : dIx (.tuple (x0 :: x1 :: xs)) (.int 1) = some x1 := by
  have h : ixN (x0 :: x1 :: xs).length 1 = some 1 := by
    unfold ixN
    simp only [List.length_cons]
    rw [if_pos (by omega)]
    first | rfl | (rw [if_pos (by omega)]; rfl)
  show atI _ _ = _
  unfold atI
  rw [h]
  rfl
@[simp] theorem dIx_tuple2 (x0 x1 x2 : D) (xs : List D) : dIx (.tuple (x0 :: x1 :: x2 :: xs)) (.int 2) = some x2 := by
  have h : ixN (x0 :: x1 :: x2 :: xs).length 2 = some 2 := by
    unfold ixN
    simp only [List.length_cons]
    rw [if_pos (by omega)]
    first | rfl | (rw [if_pos (by omega)]; rfl)
  show atI _ _ = _
  unfold atI
  rw [h]
  rfl
@[simp] theorem dIx_tuple3 (x0 x1 x2 x3 : D) (xs : List D) : dIx (.tuple (x0 :: x1 :: x2 :: x3 :: xs)) (.int 3) = some x3 := by
  have h : ixN (x0 :: x1 :: x2 :: x3 :: xs).length 3 = some 3 := by
    unfold ixN
    simp only [List.length_cons]
    rw [if_pos (by omega)]
    first | rfl | (rw [if_pos (by omega)]; rfl)
  show atI _ _ = _
  unfold atI
  rw [h]
  rfl
@[simp] theorem dIx_tuple4 (x0 x1 x2 x3 x4 : D) (xs : List D) : dIx (.tuple (x0 :: x1 :: x2 :: x3 :: x4 :: xs)) (.int 4) = some x4 := by
  have h : ixN (x0 :: x1 :: x2 :: x3 :: x4 :: xs).length 4 = some 4 := by
    unfold ixN
    simp only [List.length_cons]
    rw [if_pos (by omega)]
    first | rfl | (rw [if_pos (by omega)]; rfl)
  show atI _ _ = _
  unfold atI
  rw [h]
  rfl
@[simp] theorem dIx_tuple5 (x0 x1 x2 x3 x4 x5 : D) (xs : List D) : dIx (.tuple (x0 :: x1 :: x2 :: x3 :: x4 :: x5 :: xs)) (.int 5) = some x5 := by
  have h : ixN (x0 :: x1 :: x2 :: x3 :: x4 :: x5 :: xs).length 5 = some 5 := by
    unfold ixN
    simp only [List.length_cons]
    rw [if_pos (by omega)]
    first | rfl | (rw [if_pos (by omega)]; rfl)
  show atI _ _ = _
  unfold atI
  rw [h]
  rfl
@[simp] theorem dIx_tuple6 (x0 x1 x2 x3 x4 x5 x6 : D) (xs : List D) : dIx (.tuple (x0 :: x1 :: x2 :: x3 :: x4 :: x5 :: x6 :: xs)) (.int 6) = some x6 := by
  have h : ixN (x0 :: x1 :: x2 :: x3 :: x4 :: x5 :: x6 :: xs).length 6 = some 6 := by
    unfold ixN
    simp only [List.length_cons]
    rw [if_pos (by omega)]
    first | rfl | (rw [if_pos (by omega)]; rfl)
  show atI _ _ = _
  unfold atI
  rw [h]
  rfl
@[simp] theorem dIx_tuple7 (x0 x1 x2 x3 x4 x5 x6 x7 : D) (xs : List D) : dIx (.tuple (x0 :: x1 :: x2 :: x3 :: x4 :: x5 :: x6 :: x7 :: xs)) (.int 7) = some x7 := by
  have h : ixN (x0 :: x1 :: x2 :: x3 :: x4 :: x5 :: x6 :: x7 :: xs).length 7 = some 7 := by
    unfold ixN
    simp only [List.length_cons]
    rw [if_pos (by omega)]
    first | rfl | (rw [if_pos (by omega)]; rfl)
  show atI _ _ = _
  unfold atI
  rw [h]
  rfl
@[simp] theorem dIx_list0 (x0 : D) (xs : List D) : dIx (.list (x0 :: xs)) (.int 0) = some x0 := by
  have h : ixN (x0 :: xs).length 0 = some 0 := by
    unfold ixN
    simp only [List.length_cons]
    rw [if_pos (by omega)]
    first | rfl | (rw [if_pos (by omega)]; rfl)
  show atI _ _ = _
  unfold atI
  rw [h]
  rfl
@[simp] theorem dIx_list1 (x0 x1 : D) (xs : List D) : dIx (.list (x0 :: x1 :: xs)) (.int 1) = some x1 := by
  have h : ixN (x0 :: x1 :: xs).length 1 = some 1 := by
    unfold ixN
    simp only [List.length_cons]
    rw [if_pos (by omega)]
    first | rfl | (rw [if_pos (by omega)]; rfl)
  show atI _ _ = _
  unfold atI
  rw [h]
  rfl
@[simp] theorem dIx_list2 (x0 x1 x2 : D) (xs : List D) : dIx (.list (x0 :: x1 :: x2 :: xs)) (.int 2) = some x2 := by
  have h : ixN (x0 :: x1 :: x2 :: xs).length 2 = some 2 := by
    unfold ixN
    simp only [List.length_cons]
    rw [if_pos (by omega)]
    first | rfl | (rw [if_pos (by omega)]; rfl)
  show atI _ _ = _
  unfold atI
  rw [h]
  rfl
@[simp] theorem dIx_list3 (x0 x1 x2 x3 : D) (xs : List D) : dIx (.list (x0 :: x1 :: x2 :: x3 :: xs)) (.int 3) = some x3 := by
  have h : ixN (x0 :: x1 :: x2 :: x3 :: xs).length 3 = some 3 := by
    unfold ixN
    simp only [List.length_cons]
    rw [if_pos (by omega)]
    first | rfl | (rw [if_pos (by omega)]; rfl)
  show atI _ _ = _
  unfold atI
  rw [h]
  rfl
@[simp] theorem dIx_list4 (x0 x1 x2 x3 x4 : D) (xs : List D) : dIx (.list (x0 :: x1 :: x2 :: x3 :: x4 :: xs)) (.int 4) = some x4 := by
  have h : ixN (x0 :: x1 :: x2 :: x3 :: x4 :: xs).length 4 = some 4 := by
    unfold ixN
    simp only [List.length_cons]
    rw [if_pos (by omega)]
    first | rfl | (rw [if_pos (by omega)]; rfl)
  show atI _ _ = _
  unfold atI
  rw [h]
  rfl
@[simp] theorem dIx_list5 (x0 x1 x2 x3 x4 x5 : D) (xs : List D) : dIx (.list (x0 :: x1 :: x2 :: x3 :: x4 :: x5 :: xs)) (.int 5) = some x5 := by
  have h : ixN (x0 :: x1 :: x2 :: x3 :: x4 :: x5 :: xs).length 5 = some 5 := by
    unfold ixN
    simp only [List.length_cons]
    rw [if_pos (by omega)]
    first | rfl | (rw [if_pos (by omega)]; rfl)
  show atI _ _ = _
  unfold atI
  rw [h]
  rfl
@[simp] theorem dIx_list6 (x0 x1 x2 x3 x4 x5 x6 : D) (xs : List D) : dIx (.list (x0 :: x1 :: x2 :: x3 :: x4 :: x5 :: x6 :: xs)) (.int 6) = some x6 := by
  have h : ixN (x0 :: x1 :: x2 :: x3 :: x4 :: x5 :: x6 :: xs).length 6 = some 6 := by
    unfold ixN
    simp only [List.length_cons]
    rw [if_pos (by omega)]
    first | rfl | (rw [if_pos (by omega)]; rfl)
  show atI _ _ = _
  unfold atI
  rw [h]
  rfl
@[simp] theorem dIx_list7 (x0 x1 x2 x3 x4 x5 x6 x7 : D) (xs : List D) : dIx (.list (x0 :: x1 :: x2 :: x3 :: x4 :: x5 :: x6 :: x7 :: xs)) (.int 7) = some x7 := by
  have h : ixN (x0 :: x1 :: x2 :: x3 :: x4 :: x5 :: x6 :: x7 :: xs).length 7 = some 7 := by
    unfold ixN
    simp only [List.length_cons]
    rw [if_pos (by omega)]
    first | rfl | (rw [if_pos (by omega)]; rfl)
  show atI _ _ = _
  unfold atI
  rw [h]
  rfl
section
variable (ρ : Fr)
@[simp] theorem andV_app (f g : M EV) : M.andV f g ρ = match M.asBool f ρ with
  | none => none
  | some (.error e, ρ') => some (.error e, ρ')
  | some (.ok true, ρ') => g ρ'
  | some (.ok false, ρ') => some (.ok (.d (.bool false)), ρ') := by
  unfold M.andV
  rw [bind_app]
  cases M.asBool f ρ with
  | none => rfl
  | some y =>
    obtain ⟨r, ρ'⟩ := y
    cases r with
    | error e => rfl
    | ok b => cases b <;> rfl
@[simp] theorem orV_app (f g : M EV) : M.orV f g ρ = match M.asBool f ρ with
  | none => none
  | some (.error e, ρ') => some (.error e, ρ')
  | some (.ok true, ρ') => some (.ok (.d (.bool true)), ρ')
  | some (.ok false, ρ') => g ρ' := by
  unfold M.orV
  rw [bind_app]
  cases M.asBool f ρ with
  | none => rfl
  | some y =>
    obtain ⟨r, ρ'⟩ := y
    cases r with
    | error e => rfl
    | ok b => cases b <;> rfl
@[simp] theorem notV_app (f : M EV) : M.notV f ρ = match M.asBool f ρ with
  | none => none
  | some (.error e, ρ') => some (.error e, ρ')
  | some (.ok b, ρ') => some (.ok (.d (.bool (!b))), ρ') := by
  unfold M.notV
  rw [bind_app]
  cases M.asBool f ρ with
  | none => rfl
  | some y =>
    obtain ⟨r, ρ'⟩ := y
    cases r <;> rfl
@[simp] theorem deepOf_val (t : T) : deepOf (.val t) ρ = t.toD := rfl
@[simp] theorem frz_ptr (j : Nat) (p : List D) : gFrz (.ptr j p) ρ = match look (.ptr j p) ρ with
    | none => none
    | some t => match t.toD with
      | none => none
      | some d => match ρ.put j p (.leaf (some d)) with
        | none => none
        | some ρ' => some (.d d, ρ') := rfl
@[simp] theorem frz_node (u : Unit) (k : NK) (cs : List (D × T)) : gFrz (.val (.node u k cs)) ρ = match TR.toD (.node u k cs) with
    | none => none
    | some d => some (.d d, ρ) := rfl
@[simp] theorem tru_leaf (d : D) : truOf (.val (.leaf (some d))) ρ = dTru d := rfl
@[simp] theorem dTru_bool (b : Bool) : dTru (.bool b) = some b := rfl
@[simp] theorem dTru_int (b : Int) : dTru (.int b) = some (b != 0) := rfl
@[simp] theorem dTru_none : dTru .none = some false := rfl
@[simp] theorem dTru_list (b : List D) : dTru (.list b) = some (!b.isEmpty) := rfl
@[simp] theorem dTru_tuple (b : List D) : dTru (.tuple b) = some (!b.isEmpty) := rfl
@[simp] theorem gTupD_app (as : List EV) : gTupD as ρ = match keysOf as with
  | none => none
  | some ds => if ds.length ≤ sizeLine then some (.ok (.d (.tuple ds)), ρ) else none := by
  unfold gTupD mkT
  simp only
  cases keysOf as with
  | none => rfl
  | some ds =>
    by_cases h : ds.length ≤ sizeLine
    · simp only [if_pos h]
    · simp only [if_neg h]
@[simp] theorem keysOf_nil : keysOf [] = some [] := rfl
@[simp] theorem keysOf_cons (x : EV) (xs : List EV) : keysOf (x :: xs) = match x.key with
  | none => none
  | some d => match keysOf xs with
    | none => none
    | some ds => some (d :: ds) := rfl
@[simp] theorem treesOf_nil : treesOf [] = some [] := rfl
@[simp] theorem treesOf_cons (t : T) (xs : List EV) : treesOf (.val t :: xs) = match treesOf xs with
  | none => none
  | some ts => some (t :: ts) := rfl
theorem mkNode_app (k : NK) (as : List EV) : mkNode k as ρ = match treesOf as with
  | none => none
  | some ts => if ts.length ≤ sizeLine then some (.ok (.val (.node () k (ts.map fun t => (.none, t)))), ρ) else none := rfl
@[simp] theorem disp_app (ks : List D) (fs : List (M EV)) : M.disp ks fs ρ = match LT.evalArgs fs ρ with
  | none => none
  | some (.error e, ρ') => some (.error e, ρ')
  | some (.ok xs, ρ') => match treesOf xs with
    | none => none
    | some ts => some (.ok (.val (.node () .dct (ks.zip ts))), ρ') := by
  unfold M.disp
  rw [bind_app]
  cases LT.evalArgs fs ρ with
  | none => rfl
  | some y =>
    obtain ⟨r, ρ'⟩ := y
    cases r with
    | error e => rfl
    | ok xs =>
      simp only [mkDict]
      all_goals (cases treesOf xs <;> rfl)
@[simp] theorem finals_nil : finals [] ρ = some [] := rfl
@[simp] theorem finals_cons (i : Nat) (io : List Nat) : finals (i :: io) ρ = match ρ.sl[i]? with
  | some (.own t) => (match finals io ρ with
    | some ts => some (t :: ts)
    | none => none)
  | _ => none := rfl
@[simp] theorem forM_app (f : M (List D)) (asg : D → Fr → Option Fr) (ws : List Nat) (body : M SO) : M.forD f asg ws body ρ = match f ρ with
  | none => none
  | some (.error e, ρ') => some (.error e, ρ')
  | some (.ok ds, ρ') => LT.forD asg ws body ds ρ' := by
  unfold M.forD
  rw [bind_app]
  cases f ρ with
  | none => rfl
  | some y =>
    obtain ⟨r, ρ'⟩ := y
    cases r <;> rfl
@[simp] theorem items_app (f : M EV) : M.items f ρ = match f ρ with
  | none => none
  | some (.error e, ρ') => some (.error e, ρ')
  | some (.ok x, ρ') => match x.key with
    | none => none
    | some d => match itemsOf d with
      | none => none
      | some ds => some (.ok ds, ρ') := by
  unfold M.items
  rw [bind_app]
  cases f ρ with
  | none => rfl
  | some y =>
    obtain ⟨r, ρ'⟩ := y
    cases r <;> rfl
@[simp] theorem itemsOf_list (ds : List D) : itemsOf (.list ds) = some ds := rfl
@[simp] theorem itemsOf_tuple (ds : List D) : itemsOf (.tuple ds) = some ds := rfl
@[simp] theorem itemsOf_str (s : Str) : itemsOf (.str s) = some (strD s) := rfl
@[simp] theorem range1_app (f : M EV) : M.range1 f ρ = match LT.evalArgs [f] ρ with
  | none => none
  | some (.error e, ρ') => some (.error e, ρ')
  | some (.ok xs, ρ') => match xs with
    | [x] => (match x.key with
      | some (.int j) => if -(2 ^ 62) ≤ j ∧ j < 2 ^ 62 then some (.ok (rangeD 0 j), ρ') else none
      | _ => none)
    | _ => none := by
  unfold M.range1
  rw [bind_app]
  cases LT.evalArgs [f] ρ with
  | none => rfl
  | some y =>
    obtain ⟨r, ρ'⟩ := y
    cases r with
    | error e => rfl
    | ok xs =>
      match xs with
      | [] => rfl
      | [x] => rfl
      | _ :: _ :: _ => rfl
theorem rangeD_nat (n : Nat) : rangeD 0 (n : Int) = (List.range n).map fun (i : Nat) => PyData.int (i : Int) := by
  unfold rangeD
  simp
@[simp] theorem lc_app (f : M (List D)) (asg : D → Fr → Option Fr) (vs : List Nat) (fc : M Bool) (fe : M EV) : M.lc f asg vs fc fe ρ = match f ρ with
  | none => none
  | some (.error e, ρ') => some (.error e, ρ')
  | some (.ok ds, ρ') => if (ρ'.io.any fun i => vs.contains i) = true then none else lcD asg vs fc fe ds [] (ρ'.wipe vs) := by
  unfold M.lc
  rw [bind_app]
  cases f ρ with
  | none => rfl
  | some y =>
    obtain ⟨r, ρ'⟩ := y
    cases r <;> rfl
@[simp] theorem asg1_app (i : Nat) (d : D) : asg1 i d ρ = if i < ρ.sl.length then ρ.store i (.d d) else none := rfl
@[simp] theorem wipe_app (ws : List Nat) : ρ.wipe ws = { ρ with sl := wipeL .emp (SV.wipe (wsOf ρ.io ws)) (wsOf ρ.io ws) 0 ρ.sl, tm := ρ.tm.map (tmWipe (wsOf ρ.io ws)) } := rfl
@[simp] theorem wipeL_nil {α : Type} (e : α) (f : α → α) (ws : List Nat) (n : Nat) : wipeL e f ws n [] = [] := rfl
@[simp] theorem wipeL_cons {α : Type} (e : α) (f : α → α) (ws : List Nat) (n : Nat) (x : α) (xs : List α) : wipeL e f ws n (x :: xs) = (if ws.contains n = true then e else f x) :: wipeL e f ws (n + 1) xs := rfl
@[simp] theorem svwipe_own (ws : List Nat) (t : T) : SV.wipe ws (.own t) = .own t := rfl
@[simp] theorem svwipe_emp (ws : List Nat) : SV.wipe ws .emp = .emp := rfl
@[simp] theorem wsOf_nil (io : List Nat) : wsOf io [] = [] := rfl
@[simp] theorem wsOf_cons (io : List Nat) (i : Nat) (ws : List Nat) : wsOf io (i :: ws) = if (!io.contains i) = true then i :: wsOf io ws else wsOf io ws := by
  unfold wsOf
  rw [List.filter_cons]
end
/-! calls -/
section
variable (FF : FD) (io : List Nat) (ρ : Fr)
theorem call_app (fs : List (M EV)) : M.call FF io fs ρ = match LT.evalArgs fs ρ with
  | none => none
  | some (.error e, ρ') => some (.error e, ρ')
  | some (.ok xs, ρ') => match withArgs FF io 0 xs [] ρ' with
    | none => none
    | some (.ok t, _, ρ'') => some (.ok (.val t), ρ'')
    | some (.error e, _, ρ'') => some (.error e, ρ'') := by
  unfold M.call
  rw [bind_app]
  cases LT.evalArgs fs ρ with
  | none => rfl
  | some y =>
    obtain ⟨r, ρ'⟩ := y
    cases r with
    | error e => rfl
    | ok xs =>
      simp only [gCall]
      cases withArgs FF io 0 xs [] ρ' with
      | none => rfl
      | some z =>
        obtain ⟨r, o, ρ''⟩ := z
        cases r <;> rfl
@[simp] theorem wa_nil (k : Nat) (acc : List T) : withArgs FF io k [] acc ρ = match FF acc with
  | none => none
  | some (r, outs) => some (r, outs, ρ) := rfl
@[simp] theorem wa_val (k : Nat) (t : T) (xs : List EV) (acc : List T) : withArgs FF io k (.val t :: xs) acc ρ = withArgs FF io (k + 1) xs (acc ++ [t]) ρ := rfl
theorem wa_ptr (k : Nat) (j : Nat) (p : List D) (xs : List EV) (acc : List T) : withArgs FF io k (.ptr j p :: xs) acc ρ = match io.idxOf? k with
    | none => none
    | some n => if (xs.all fun x => match x with
        | .ptr j' p' => !(decide (j' = j) && below p p')
        | _ => true) = true then
      match look (.ptr j p) ρ with
      | some (.node u nk cs) => match ρ.put j p (.leaf none) with
        | none => none
        | some ρ1 => match withArgs FF io (k + 1) xs (acc ++ [.node u nk cs]) { ρ1 with tm := some (j, p) :: ρ1.tm } with
          | none => none
          | some (r, outs, ρ2) => match ρ2.tm with
            | some _ :: tm => match look (.ptr j p) ρ2 with
              | some (.leaf none) => match outs[n]? with
                | none => none
                | some t => match ({ ρ2 with tm := tm } : Fr).put j p t with
                  | none => none
                  | some ρ3 => some (r, outs, ρ3)
              | _ => none
            | _ => none
      | _ => none
      else none := rfl
@[simp] theorem wa_ptr' (k : Nat) (j : Nat) (p : List D) (xs : List EV) (acc : List T) : withArgs FF io k (.ptr j p :: xs) acc ρ = match io.idxOf? k with
    | none => none
    | some n => if (xs.all fun x => match x with
        | .ptr j' p' => !(decide (j' = j) && below p p')
        | _ => true) = true then
      match look (.ptr j p) ρ with
      | none => none
      | some t => if isNodeB t = true then match ρ.put j p (.leaf none) with
        | none => none
        | some ρ1 => match withArgs FF io (k + 1) xs (acc ++ [t]) { ρ1 with tm := some (j, p) :: ρ1.tm } with
          | none => none
          | some (r, outs, ρ2) => match ρ2.tm with
            | some _ :: tm => match look (.ptr j p) ρ2 with
              | some (.leaf none) => match outs[n]? with
                | none => none
                | some t => match ({ ρ2 with tm := tm } : Fr).put j p t with
                  | none => none
                  | some ρ3 => some (r, outs, ρ3)
              | _ => none
            | _ => none else none
      else none := by
  rw [wa_ptr]
  cases io.idxOf? k with
  | none => rfl
  | some n =>
    simp only
    split
    · cases look (.ptr j p) ρ with
      | none => rfl
      | some t =>
        cases t with
        | leaf o => cases o <;> rfl
        | node u k cs => simp only [isNodeB_node, if_true]
    · rfl
end
@[simp] theorem chain_app (fa fb fc : M EV) (op op' : List D → Option D) (ρ : Fr) : M.chain fa fb fc op op' ρ = match LT.evalArgs [fa, fb] ρ with
  | none => none
  | some (.error e, ρ') => some (.error e, ρ')
  | some (.ok xs, ρ') => match xs with
    | [x, y] => (match x.key with
      | none => none
      | some d => match y.key with
        | none => none
        | some e => match op [d, e] with
          | some (.bool true) => (match fc ρ' with
            | none => none
            | some (.error ex, ρ'') => some (.error ex, ρ'')
            | some (.ok z, ρ'') => match z.key with
              | none => none
              | some f => match op' [e, f] with
                | some (.bool b) => some (.ok (.d (.bool b)), ρ'')
                | _ => none)
          | some (.bool false) => some (.ok (.d (.bool false)), ρ')
          | _ => none)
    | _ => none := by
  unfold M.chain
  rw [bind_app]
  cases LT.evalArgs [fa, fb] ρ with
  | none => rfl
  | some y =>
    obtain ⟨r, ρ'⟩ := y
    cases r with
    | error e => rfl
    | ok xs =>
      match xs with
      | [] => rfl
      | [_] => rfl
      | [x, y] => rfl
      | _ :: _ :: _ :: _ => rfl
@[simp] theorem opPow_int (i j : Int) (h : 0 ≤ j) (h2 : j ≤ 1000000) (h3 : i.natAbs < 18446744073709551616) : opPow [.int i, .int j] = some (.int (i ^ j.toNat)) := by
  show (if _ then _ else _) = _
  rw [if_pos ⟨h, h2, h3⟩]
@[simp] theorem opIsB_app (neg a b : Bool) : opIsB neg [.bool a, .bool b] = some (.bool (neg ^^ decide (a = b))) := rfl
@[simp] theorem asgS_app (asg : D → Fr → Option Fr) (d : D) (ρ : Fr) : asgS asg (.d d) ρ = match asg d ρ with
  | none => none
  | some ρ' => some (.nx, ρ') := rfl
@[simp] theorem asgT_app (b : List D → Fr → Option Fr) (ds : List D) (ρ : Fr) : asgT b (.tuple ds) ρ = b ds ρ := rfl
@[simp] theorem asgC_app (a : D → Fr → Option Fr) (b : List D → Fr → Option Fr) (d : D) (ds : List D) (ρ : Fr) : asgC a b (d :: ds) ρ = match a d ρ with
  | some ρ' => b ds ρ'
  | none => none := rfl
@[simp] theorem asgN_app (ρ : Fr) : asgN [] ρ = some ρ := rfl
@[simp] theorem tupOp_app (x : EV) (ρ : Fr) : tupOp [x] ρ = match seqL x ρ with
    | some xs => some xs
    | none => match x.key with
      | some (.tuple xs) => some xs
      | _ => none := rfl
@[simp] theorem lstOp_app (x : EV) (ρ : Fr) : lstOp [x] ρ = match seqL x ρ with
    | some xs => some xs
    | none => match x.key with
      | some (.tuple xs) => some xs
      | _ => none := rfl
@[simp] theorem mkT_app (op : List EV → Fr → Option (List D)) (as : List EV) (ρ : Fr) : mkT op as ρ = match op as ρ with
  | none => none
  | some xs => some (.ok (.d (.tuple xs)), ρ) := rfl
theorem mkL_app (op : List EV → Fr → Option (List D)) (as : List EV) (ρ : Fr) : mkL op as ρ = match op as ρ with
  | none => none
  | some xs => some (.ok (.val (T.lstD xs)), ρ) := rfl
@[simp] theorem seqL_leafl (xs : List D) (ρ : Fr) : seqL (.d (.list xs)) ρ = some xs := rfl
@[simp] theorem seqL_leaft (xs : List D) (ρ : Fr) : seqL (.d (.tuple xs)) ρ = none := rfl
theorem seqL_node (u : Unit) (cs : List (D × T)) (ρ : Fr) : seqL (.val (.node u .lst cs)) ρ = leafItems cs := rfl
theorem seqL_ptr (j : Nat) (p : List D) (ρ : Fr) : seqL (.ptr j p) ρ = match look (.ptr j p) ρ with
  | some (.leaf (some (.list xs))) => some xs
  | some (.node _ .lst cs) => leafItems cs
  | _ => none := rfl
theorem gAppend_app (t : T) (j : Nat) (p : List D) (ρ : Fr) : gAppend (.ptr j p) (.val t) ρ = match look (.ptr j p) ρ with
      | some (.node _ .lst cs) => if cs.length < sizeLine then (match ρ.put j p (.node () .lst (cs ++ [(.none, t)])) with
        | none => none
        | some ρ' => some (.ok (.d .none), ρ')) else none
      | _ => none := rfl
theorem isLst_ptr (j : Nat) (p : List D) (ρ : Fr) : isLstE (.ptr j p) ρ = match look (.ptr j p) ρ with
  | some (.leaf (some (.list _))) => true
  | some (.node _ .lst _) => true
  | _ => false := rfl
@[simp] theorem isLst_leaf (xs : List D) (ρ : Fr) : isLstE (.d (.list xs)) ρ = true := rfl
end LT

/-! LE4: calls, worked out. -/
namespace LT
open PySem PySem.Spec L2
@[simp] theorem call_any (FF : FD) (io : List Nat) (ρ : Fr) (fs : List (M EV)) : M.call FF io fs ρ = match LT.evalArgs fs ρ with
  | none => none
  | some (.error e, ρ') => some (.error e, ρ')
  | some (.ok xs, ρ') => match withArgs FF io 0 xs [] ρ' with
    | none => none
    | some (.ok t, _, ρ'') => some (.ok (.val t), ρ'')
    | some (.error e, _, ρ'') => some (.error e, ρ'') := call_app FF io ρ fs
def IsNode (t : T) : Prop := ∃ u k cs, t = .node u k cs
theorem kill_kill (i : Nat) (p : List D) (s : SV) : (s.kill i p).kill i p = s.kill i p := by
  cases s with
  | al j q =>
    by_cases h : j = i ∧ below p q = true
    · simp only [SV.kill, if_pos h]
    · simp only [SV.kill, if_neg h]
  | _ => rfl
theorem tmKill_kill (i : Nat) (p : List D) (s : Option (Nat × List D)) : tmKill i p (tmKill i p s) = tmKill i p s := by
  cases s with
  | none => rfl
  | some x =>
    obtain ⟨j, q⟩ := x
    by_cases h : j = i ∧ below p q = true
    · simp only [tmKill, if_pos h]
    · simp only [tmKill, if_neg h]
theorem wa_vals (FF : FD) (io : List Nat) (ρ : Fr) (ts : List T) : ∀ (k : Nat) (acc : List T), withArgs FF io k (ts.map .val) acc ρ = (match FF (acc ++ ts) with
  | none => none
  | some (r, outs) => some (r, outs, ρ)) := by
  induction ts with
  | nil =>
    intro k acc
    simp
    all_goals (cases FF acc <;> rfl)
  | cons t ts ih =>
    intro k acc
    rw [List.map_cons, wa_val, ih (k + 1) (acc ++ [t])]
    simp
def outE (r : Except Ex T) (ρ : Fr) : Option (Except Ex EV × Fr) := match r with
  | .ok x => some (.ok (.val x), ρ)
  | .error e => some (.error e, ρ)
@[simp] theorem outE_ok (x : T) (ρ : Fr) : outE (.ok x) ρ = some (.ok (.val x), ρ) := rfl
@[simp] theorem outE_err (x : Ex) (ρ : Fr) : outE (.error x) ρ = some (.error x, ρ) := rfl
/-- a call whose first argument is a local's own object, given over and taken back -/
theorem call_io0 {FF : FD} {t t' : T} {ts : List T} {r : Except Ex T} (hn : IsNode t) (e : FF (t :: ts) = some (r, [t'])) (i : Nat) (fs : List (M EV)) (ρ : Fr) (hs : ρ.sl[i]? = some (.own t))
    (hf : LT.evalArgs fs { ρ with tm := some (i, []) :: ρ.tm } = some (.ok (ts.map .val), { ρ with tm := some (i, []) :: ρ.tm })) :
    M.call FF [0] (M.var i :: fs) ρ = outE r { ρ with sl := (ρ.sl.map (SV.kill i [])).set i (.own t'), tm := ρ.tm.map (tmKill i []) } := by
  obtain ⟨u, k, cs, rfl⟩ := hn
  have hl := (List.getElem?_eq_some_iff.mp hs).1
  rw [call_app]
  have hv : M.var i ρ = some (.ok (.ptr i []), ρ) := by rw [var_app, hs]
  have ha : LT.evalArgs (M.var i :: fs) ρ = some (.ok (.ptr i [] :: ts.map .val), ρ) := by
    rw [args_cons, hv]
    simp only [hold_ptr, hf]
  rw [ha]
  have hw : withArgs FF [0] 0 (.ptr i [] :: ts.map .val) [] ρ = some (r, [t'], { ρ with sl := (ρ.sl.map (SV.kill i [])).set i (.own t'), tm := ρ.tm.map (tmKill i []) }) := by
    rw [wa_ptr]
    have h0 : List.idxOf? 0 [0] = some 0 := rfl
    rw [h0]
    simp only
    refine (if_pos (List.all_eq_true.mpr fun x hx => ?_)).trans ?_
    · obtain ⟨y, _, rfl⟩ := List.mem_map.mp hx
      rfl
    rw [show look (.ptr i []) ρ = some (.node u k cs) by rw [look_own, hs]; exact TR.at_nil _]
    simp only [put_app, hs]
    rw [wa_vals]
    simp only [List.nil_append, List.cons_append, e, look_own]
    have hg : (List.set (ρ.sl.map (SV.kill i [])) i (.own (TR.set (TR.node u k cs) [] (TR.leaf none))))[i]? = some (.own (.leaf none)) := by
      rw [List.getElem?_set_self (by simpa using hl), TR.set_nil]
    simp only [hg, at_nil']
    simp only [List.getElem?_cons_zero]
    congr 4
    · rw [List.map_set, List.set_set, List.map_map, TR.set_nil]
      congr 1
      apply List.map_congr_left
      intro s _
      exact kill_kill i [] s
    · rw [List.map_map]
      apply List.map_congr_left
      intro s _
      exact tmKill_kill i [] s
  simp only [hw]
  cases r <;> rfl
theorem call_io00 {FF : FD} {t t' : T} {r : Except Ex T} (hn : IsNode t) (e : FF [t] = some (r, [t'])) (i : Nat) (ρ : Fr) (hs : ρ.sl[i]? = some (.own t)) :
    M.call FF [0] [M.var i] ρ = outE r { ρ with sl := (ρ.sl.map (SV.kill i [])).set i (.own t'), tm := ρ.tm.map (tmKill i []) } := call_io0 hn e i [] ρ hs rfl
end LT

/-! LE5: how denotations are worked out: dicts walked, ghosts. -/
namespace LT
open PySem PySem.Spec L2
@[simp] theorem sizeLine_val : sizeLine = 16777216 := by rw [sizeLine_eq]
@[simp] theorem opInt_str (a : Str) : opInt [.str a] = if a.length ≤ 640 then (PySem.intText? a).map .int else none := rfl
/-- an integer's text -/
def iStr (i : Int) : Str := Str.ofString (toString i)
theorem pow1900 : (1000000000000 : Nat) < 2 ^ 1900 := Nat.lt_of_lt_of_le (by decide : (1000000000000 : Nat) < 2 ^ 40) (Nat.pow_le_pow_right (by decide) (by decide))
@[simp] theorem opStr_int (i : Int) (h : i.natAbs < 1000000000000) : opStr [.int i] = some (.str (iStr i)) := by
  show (if i.natAbs < 2 ^ 1900 then some (PyData.str (iStr i)) else none) = _
  rw [if_pos (Nat.lt_trans h pow1900)]
section
variable (ρ : Fr)
@[simp] theorem sVar_app (i : Nat) : sVar i ρ = match ρ.sl[i]? with
  | some (.own (.leaf (some d))) => some d
  | _ => none := rfl
@[simp] theorem sIx_app (fa fb : Fr → Option D) : sIx fa fb ρ = match fa ρ with
  | some (.dict kvs) => match fb ρ with
    | some q => if q.isKey = true then dlook kvs q else none
    | none => none
  | _ => none := rfl
@[simp] theorem forU_app (f : Fr → Option D) (dyn : M SO) (asg : D → Fr → Option Fr) (ws : List Nat) (body : M SO) : M.forU f dyn asg ws body ρ = match f ρ with
  | some (.dict kvs) => noEx (LT.forD asg ws body (kvs.map (·.1)) ρ)
  | _ => dyn ρ := rfl
@[simp] theorem lcU_app (f : Fr → Option D) (dyn : M EV) (asg : D → Fr → Option Fr) (vs : List Nat) (fc : M Bool) (fe : M EV) : M.lcU f dyn asg vs fc fe ρ = match f ρ with
  | some (.dict kvs) => if (ρ.io.any fun i => vs.contains i) = true then none else noEx (lcD asg vs fc fe (kvs.map (·.1)) [] (ρ.wipe vs))
  | _ => dyn ρ := rfl
@[simp] theorem dcU_app (f : Fr → Option D) (dyn : M EV) (asg : D → Fr → Option Fr) (vs : List Nat) (fc : M Bool) (fk fe : M EV) : M.dcU f dyn asg vs fc fk fe ρ = match f ρ with
  | some (.dict kvs) => if (ρ.io.any fun i => vs.contains i) = true then none else noEx (dcD asg vs fc fk fe (kvs.map (·.1)) [] (ρ.wipe vs))
  | _ => dyn ρ := rfl
@[simp] theorem dcM_app (f : M (List D)) (asg : D → Fr → Option Fr) (vs : List Nat) (fc : M Bool) (fk fe : M EV) : M.dc f asg vs fc fk fe ρ = match f ρ with
  | none => none
  | some (.error e, ρ') => some (.error e, ρ')
  | some (.ok ds, ρ') => if (ρ'.io.any fun i => vs.contains i) = true then none else dcD asg vs fc fk fe ds [] (ρ'.wipe vs) := by
  unfold M.dc
  rw [bind_app]
  cases f ρ with
  | none => rfl
  | some y =>
    obtain ⟨r, ρ'⟩ := y
    cases r <;> rfl
@[simp] theorem gFz_app (i : Nat) : gFz i ρ = match ρ.sl[i]? with
  | some (.own (.node u k cs)) => (match TR.toD (.node u k cs) with
    | none => some ρ
    | some d => ρ.put i [] (.leaf (some d)))
  | _ => some ρ := rfl
@[simp] theorem pre_app (g : Fr → Option Fr) (f : M SO) : M.pre g f ρ = match g ρ with
  | none => none
  | some ρ' => f ρ' := rfl
@[simp] theorem preE_app (g : Fr → Option Fr) (f : M EV) : M.preE g f ρ = match g ρ with
  | none => none
  | some ρ' => f ρ' := rfl
@[simp] theorem sortOp_app (x : EV) : sortOp [x] ρ = match seqL x ρ with
    | some xs => if homD xs = true then some (sortD xs) else none
    | none => match LT.dctKeys x ρ with
      | some xs => if homD xs = true then some (sortD xs) else none
      | none => none := rfl
@[simp] theorem dctKeys_leaf (kvs : List (D × D)) : LT.dctKeys (.d (.dict kvs)) ρ = some (kvs.map (·.1)) := rfl
@[simp] theorem dctKeys_ptr (j : Nat) (p : List D) : LT.dctKeys (.ptr j p) ρ = match look (.ptr j p) ρ with
  | some (.leaf (some (.dict kvs))) => some (kvs.map (·.1))
  | some (.node _ .dct cs) => some (cs.map (·.1))
  | _ => none := rfl
@[simp] theorem seqL_dict (kvs : List (D × D)) : seqL (.d (.dict kvs)) ρ = none := rfl
@[simp] theorem gDict_app (x : EV) : gDict [x] ρ = match LT.dctOf x ρ with
    | some kvs => if keysOk (kvs.map (·.1)) = true then some (.ok (.val (dctD kvs)), ρ) else none
    | none => none := rfl
@[simp] theorem dctOf_leaf (kvs : List (D × D)) : LT.dctOf (.d (.dict kvs)) ρ = some kvs := rfl
end
end LT

/-! LE6: how denotations are worked out: lists as nodes. -/
namespace LT
open PySem PySem.Spec L2
/-- a list of trees, a list of what stays -/
def nodeL (ts : List T) : T := .node () .lst (ts.map fun t => (.none, t))
def listT (ds : List D) : T := nodeL (ds.map fun d => .leaf (some d))
theorem nodeL_lf (ds : List D) : nodeL (ds.map fun d => .leaf (some d)) = listT ds := rfl
theorem lstD_eq (xs : List D) : T.lstD xs = listT xs := by
  unfold T.lstD listT nodeL
  rw [List.map_map]
  rfl
def leafsOf : List T → Option (List D)
  | [] => some []
  | .leaf (some d) :: r => match leafsOf r with
    | some ds => some (d :: ds)
    | none => none
  | _ :: _ => none
@[simp] theorem leafsOf_nil : leafsOf [] = some [] := rfl
@[simp] theorem leafsOf_lf (d : D) (r : List T) : leafsOf (.leaf (some d) :: r) = match leafsOf r with
    | some ds => some (d :: ds)
    | none => none := rfl
@[simp] theorem leafsOf_node (t : T) (r : List T) (h : isNodeB t = true) : leafsOf (t :: r) = none := by
  cases t with
  | leaf o => cases h
  | node u k cs => rfl
theorem leafsOf_some : ∀ {ts : List T} {ds : List D}, leafsOf ts = some ds → ts = ds.map fun d => .leaf (some d)
  | [], ds, h => by cases h; rfl
  | .leaf (some d) :: r, ds, h => by
    rw [leafsOf_lf] at h
    cases q : leafsOf r with
    | none => rw [q] at h; cases h
    | some xs => rw [q] at h; cases h; rw [List.map_cons, leafsOf_some q]
  | .leaf none :: r, ds, h => by cases h
  | .node u k cs :: r, ds, h => by cases h
def packT (ts : List T) : T := match leafsOf ts with
  | some ds => listT ds
  | none => nodeL ts
theorem packT_eq (ts : List T) : packT ts = nodeL ts := by
  unfold packT
  cases q : leafsOf ts with
  | none => rfl
  | some ds => rw [leafsOf_some q]; rfl
@[simp] theorem packT_app (ts : List T) : packT ts = match leafsOf ts with
  | some ds => listT ds
  | none => nodeL ts := rfl
@[simp] theorem isNodeB_nodeL (ts : List T) : isNodeB (nodeL ts) = true := rfl
@[simp] theorem isNodeB_listT (ds : List D) : isNodeB (listT ds) = true := rfl
@[simp] theorem varT_nodeL (i : Nat) (p : List D) (ρ : Fr) (ts : List T) : varT i p ρ (nodeL ts) = some (.ok (.ptr i p), ρ) := rfl
@[simp] theorem varT_listT (i : Nat) (p : List D) (ρ : Fr) (ds : List D) : varT i p ρ (listT ds) = some (.ok (.ptr i p), ρ) := rfl
@[simp] theorem leafsOf_nodeL (ts r : List T) : leafsOf (nodeL ts :: r) = none := rfl
@[simp] theorem leafsOf_listT (ds : List D) (r : List T) : leafsOf (listT ds :: r) = none := rfl
@[simp] theorem kidP_nodeL (i : Nat) (p : List D) (ρ : Fr) (ts : List T) : kidP i p ρ (nodeL ts) = some (.ok (.ptr i p), ρ) := rfl
@[simp] theorem kidP_listT (i : Nat) (p : List D) (ρ : Fr) (ds : List D) : kidP i p ρ (listT ds) = some (.ok (.ptr i p), ρ) := rfl
section
variable (ρ : Fr)
@[simp] theorem mkNode_lst (as : List EV) : mkNode .lst as ρ = match treesOf as with
  | none => none
  | some ts => if ts.length ≤ sizeLine then some (.ok (.val (packT ts)), ρ) else none := by
  rw [mkNode_app]
  simp only [packT_eq]
  rfl
@[simp] theorem mkL_app' (op : List EV → Fr → Option (List D)) (as : List EV) : mkL op as ρ = match op as ρ with
  | none => none
  | some xs => some (.ok (.val (listT xs)), ρ) := by
  rw [mkL_app]
  cases op as ρ with
  | none => rfl
  | some xs => simp only [lstD_eq]
end
/-! deep values of nodes -/
@[simp] theorem toDs_leaves (ds : List D) : toDs (ds.map fun d => ((.none : D), (.leaf (some d) : T))) = some (ds.map fun d => (.none, d)) := by
  induction ds with
  | nil => rfl
  | cons d ds ih => simp [ih]
@[simp] theorem listT_toD (ds : List D) : TR.toD (listT ds) = some (.list ds) := by
  unfold listT nodeL
  rw [List.map_map, toD_node]
  have : (ds.map ((fun t => ((.none : D), t)) ∘ fun d => (.leaf (some d) : T))) = ds.map fun d => ((.none : D), (.leaf (some d) : T)) := rfl
  rw [this, toDs_leaves]
  simp [Function.comp_def]
def toLs : List T → Option (List D)
  | [] => some []
  | t :: r => match t.toD with
    | none => none
    | some d => match toLs r with
      | none => none
      | some ds => some (d :: ds)
@[simp] theorem toLs_nil : toLs [] = some [] := rfl
@[simp] theorem toLs_cons (t : T) (r : List T) : toLs (t :: r) = match t.toD with
    | none => none
    | some d => match toLs r with
      | none => none
      | some ds => some (d :: ds) := rfl
theorem toDs_toLs : ∀ ts : List T, (toDs (ts.map fun t => ((.none : D), t))).map (fun ds => ds.map (·.2)) = toLs ts
  | [] => rfl
  | t :: r => by
    have ih := toDs_toLs r
    rw [List.map_cons, toDs_cons, toLs_cons, ← ih]
    cases t.toD with
    | none => rfl
    | some d => cases toDs (r.map fun t => ((.none : D), t)) <;> rfl
@[simp] theorem nodeL_toD (ts : List T) : TR.toD (nodeL ts) = (toLs ts).map PyData.list := by
  unfold nodeL
  rw [toD_node, ← toDs_toLs]
  cases toDs (ts.map fun t => ((.none : D), t)) <;> rfl
theorem toLs_lf (ds : List D) : toLs (ds.map fun d => .leaf (some d)) = some ds := by
  induction ds with
  | nil => rfl
  | cons d ds ih => simp [ih]
/-! append, extend -/
def appendT (o x : T) : Option T := match o with
  | .node _ .lst cs => if cs.length < sizeLine then some (.node () .lst (cs ++ [(.none, x)])) else none
  | _ => none
@[simp] theorem appendT_node (ts : List T) (x : T) : appendT (nodeL ts) x = if ts.length < sizeLine then some (nodeL (ts ++ [x])) else none := by
  unfold appendT nodeL
  simp only [List.length_map, List.map_append, List.map_cons, List.map_nil]
@[simp] theorem appendT_lf (ds : List D) (d : D) : appendT (listT ds) (.leaf (some d)) = if ds.length < sizeLine then some (listT (ds ++ [d])) else none := by
  unfold listT
  rw [appendT_node, List.length_map, List.map_append, List.map_cons, List.map_nil]
@[simp] theorem appendT_list (ds : List D) (t : T) (h : isNodeB t = true) : appendT (listT ds) t = if ds.length < sizeLine then some (nodeL ((ds.map fun d => .leaf (some d)) ++ [t])) else none := by
  unfold listT
  rw [appendT_node, List.length_map]
@[simp] theorem appendT_ll (ds es : List D) : appendT (listT ds) (listT es) = if ds.length < sizeLine then some (nodeL ((ds.map fun d => .leaf (some d)) ++ [listT es])) else none := appendT_list ds _ rfl
@[simp] theorem gAppend_app' (t : T) (j : Nat) (p : List D) (ρ : Fr) : gAppend (.ptr j p) (.val t) ρ = match look (.ptr j p) ρ with
  | none => none
  | some o => match appendT o t with
    | none => none
    | some o' => match ρ.put j p o' with
      | none => none
      | some ρ' => some (.ok (.d .none), ρ') := by
  rw [gAppend_app]
  cases look (.ptr j p) ρ with
  | none => rfl
  | some o =>
    cases o with
    | leaf l => cases l <;> rfl
    | node u k cs =>
      cases k with
      | lst =>
        simp only [appendT]
        by_cases h : cs.length < sizeLine
        · simp only [if_pos h]
          all_goals (cases ρ.put j p (TR.node () NK.lst (cs ++ [(PyData.none, t)])) <;> rfl)
        · simp only [if_neg h]
      | _ => rfl
def isLstT : T → Bool
  | .leaf (some (.list _)) => true
  | .node _ .lst _ => true
  | _ => false
@[simp] theorem isLstT_leaf (xs : List D) : isLstT (.leaf (some (.list xs))) = true := rfl
@[simp] theorem isLstT_node (ts : List T) : isLstT (nodeL ts) = true := rfl
@[simp] theorem isLstT_list (ds : List D) : isLstT (listT ds) = true := rfl
@[simp] theorem isLst_ptr' (j : Nat) (p : List D) (ρ : Fr) : isLstE (.ptr j p) ρ = match look (.ptr j p) ρ with
  | some t => isLstT t
  | none => false := by
  rw [isLst_ptr]
  cases look (.ptr j p) ρ with
  | none => rfl
  | some t =>
    cases t with
    | leaf o => cases o with
      | none => rfl
      | some d => cases d <;> rfl
    | node u k cs => cases k <;> rfl
@[simp] theorem isLst_val (t : T) (ρ : Fr) : isLstE (.val t) ρ = isLstT t := by
  cases t with
  | leaf o => cases o with
    | none => rfl
    | some d => cases d <;> rfl
  | node u k cs => cases k <;> rfl
/-! items of a list -/
def seqTr : T → Option (List D)
  | .leaf (some (.list xs)) => some xs
  | .node _ .lst cs => leafItems cs
  | _ => none
theorem leafItems_of (ts : List T) : leafItems (ts.map fun t => ((.none : D), t)) = leafsOf ts := by
  induction ts with
  | nil => rfl
  | cons t ts ih =>
    cases t with
    | leaf o =>
      cases o with
      | none => rfl
      | some d =>
        rw [List.map_cons, leafsOf_lf, ← ih]
        show (match leafItems (ts.map fun t => ((.none : D), t)) with
          | none => none
          | some xs => some (d :: xs)) = _
        cases leafItems (ts.map fun t => ((.none : D), t)) <;> rfl
    | node u k cs => rfl
theorem leafsOf_lfs (ds : List D) : leafsOf (ds.map fun d => .leaf (some d)) = some ds := by
  induction ds with
  | nil => rfl
  | cons d ds ih => simp [ih]
@[simp] theorem seqTr_leaf (xs : List D) : seqTr (.leaf (some (.list xs))) = some xs := rfl
@[simp] theorem seqTr_tup (xs : List D) : seqTr (.leaf (some (.tuple xs))) = none := rfl
@[simp] theorem seqTr_dct (xs : List (D × D)) : seqTr (.leaf (some (.dict xs))) = none := rfl
@[simp] theorem seqTr_dctN (u : Unit) (cs : List (D × T)) : seqTr (.node u .dct cs) = none := rfl
@[simp] theorem seqTr_node (ts : List T) : seqTr (nodeL ts) = leafsOf ts := leafItems_of ts
@[simp] theorem seqTr_list (ds : List D) : seqTr (listT ds) = some ds := by
  unfold listT
  rw [seqTr_node, leafsOf_lfs]
@[simp] theorem seqL_ptr' (j : Nat) (p : List D) (ρ : Fr) : seqL (.ptr j p) ρ = match look (.ptr j p) ρ with
  | some t => seqTr t
  | none => none := by
  rw [seqL_ptr]
  cases look (.ptr j p) ρ with
  | none => rfl
  | some t =>
    cases t with
    | leaf o => cases o with
      | none => rfl
      | some d => cases d <;> rfl
    | node u k cs => cases k <;> rfl
@[simp] theorem seqL_val (t : T) (ρ : Fr) : seqL (.val t) ρ = seqTr t := by
  cases t with
  | leaf o => cases o with
    | none => rfl
    | some d => cases d <;> rfl
  | node u k cs => cases k <;> rfl
/-! an item of a list -/
def ixP (j : Nat) (p : List D) (q : D) (ρ : Fr) : T → Option (Except Ex EV × Fr)
  | .leaf (some d) => (match dIx d q with
    | some r => some (.ok (.d r), ρ)
    | none => none)
  | .node _ .dct cs => if q.isKey = true then (match getD cs q with
    | none => none
    | some c => kidP j (p ++ [q]) ρ c) else none
  | .node _ k cs => (match nkIx k cs q with
    | none => none
    | some (q', i) => match cs[i]? with
      | none => none
      | some c => kidP j (p ++ [q']) ρ c.2)
  | _ => none
@[simp] theorem gIx_ptr' (j : Nat) (p : List D) (q : D) (ρ : Fr) : gIx (.ptr j p) (.d q) ρ = match look (.ptr j p) ρ with
  | some t => ixP j p q ρ t
  | none => none := by
  rw [gIx_ptr]
  cases look (.ptr j p) ρ with
  | none => rfl
  | some t =>
    cases t with
    | leaf o => cases o <;> rfl
    | node u k cs => cases k <;> rfl
@[simp] theorem ixP_leaf (j : Nat) (p : List D) (q : D) (ρ : Fr) (d : D) : ixP j p q ρ (.leaf (some d)) = match dIx d q with
    | some r => some (.ok (.d r), ρ)
    | none => none := rfl
@[simp] theorem ixP_dct (j : Nat) (p : List D) (q : D) (ρ : Fr) (u : Unit) (cs : List (D × T)) : ixP j p q ρ (.node u .dct cs) = if q.isKey = true then (match getD cs q with
    | none => none
    | some c => kidP j (p ++ [q]) ρ c) else none := rfl
@[simp] theorem ixP_node (j : Nat) (p : List D) (i : Int) (ρ : Fr) (ts : List T) : ixP j p (.int i) ρ (nodeL ts) = match ixN ts.length i with
    | none => none
    | some k => match ts[k]? with
      | none => none
      | some c => kidP j (p ++ [.int (k : Nat)]) ρ c := by
  show (match nkIx .lst (ts.map fun t => ((.none : D), t)) (.int i) with
    | none => none
    | some (q', i) => match (ts.map fun t => ((.none : D), t))[i]? with
      | none => none
      | some c => kidP j (p ++ [q']) ρ c.2) = _
  unfold nkIx
  simp only [List.length_map]
  cases ixN ts.length i with
  | none => rfl
  | some k =>
    simp only [Option.map_some, List.getElem?_map]
    cases ts[k]? <;> rfl
theorem listIx (ds : List D) (i : Int) : dIx (.list ds) (.int i) = match ixN ds.length i with
    | none => none
    | some k => ds[k]? := by
  show atI ds i = _
  unfold atI
  cases ixN ds.length i <;> rfl
@[simp] theorem ixP_list (j : Nat) (p : List D) (i : Int) (ρ : Fr) (ds : List D) : ixP j p (.int i) ρ (listT ds) = match dIx (.list ds) (.int i) with
    | some r => some (.ok (.d r), ρ)
    | none => none := by
  unfold listT
  rw [ixP_node, listIx, List.length_map]
  cases ixN ds.length i with
  | none => rfl
  | some k =>
    simp only [List.getElem?_map]
    cases ds[k]? <;> rfl
@[simp] theorem gIx_list (ds : List D) (i : Int) (ρ : Fr) : gIx (.val (listT ds)) (.d (.int i)) ρ = match dIx (.list ds) (.int i) with
    | some r => some (.ok (.d r), ρ)
    | none => none := by
  unfold listT nodeL
  rw [gIx_node, listIx]
  unfold nkIx
  simp only [List.length_map]
  cases ixN ds.length i with
  | none => rfl
  | some k =>
    simp only [Option.map_some, List.getElem?_map]
    cases ds[k]? <;> rfl
theorem kidOf_node (t : T) (q : D) (ts : List T) (h : isNodeB t = true) (a : Unit) : True := trivial
/-! slices -/
def slT (lo hi : Option Int) : T → Option T
  | .leaf (some (.tuple xs)) => some (.leaf (some (.tuple (cutD xs lo hi))))
  | .leaf (some (.str z)) => if z.length ≤ sizeLine then some (.leaf (some (.str (cutS z lo hi)))) else none
  | t => (seqTr t).map fun xs => listT (cutD xs lo hi)
@[simp] theorem slT_tup (lo hi : Option Int) (xs : List D) : slT lo hi (.leaf (some (.tuple xs))) = some (.leaf (some (.tuple (cutD xs lo hi)))) := rfl
@[simp] theorem slT_str (lo hi : Option Int) (z : Str) : slT lo hi (.leaf (some (.str z))) = if z.length ≤ sizeLine then some (.leaf (some (.str (cutS z lo hi)))) else none := rfl
@[simp] theorem slT_lst (lo hi : Option Int) (xs : List D) : slT lo hi (.leaf (some (.list xs))) = some (listT (cutD xs lo hi)) := rfl
@[simp] theorem slT_list (lo hi : Option Int) (xs : List D) : slT lo hi (listT xs) = some (listT (cutD xs lo hi)) := by
  show (seqTr (listT xs)).map (fun xs => listT (cutD xs lo hi)) = _
  rw [seqTr_list]; rfl
@[simp] theorem slT_node (lo hi : Option Int) (ts : List T) : slT lo hi (nodeL ts) = (leafsOf ts).map fun xs => listT (cutD xs lo hi) := by
  show (seqTr (nodeL ts)).map (fun xs => listT (cutD xs lo hi)) = _
  rw [seqTr_node]
@[simp] theorem gSl_app (lo hi : Option Int) (x : EV) (ρ : Fr) : gSl lo hi x ρ = match look x ρ with
  | none => none
  | some t => match slT lo hi t with
    | none => none
    | some t' => some (.ok (.val t'), ρ) := by
  unfold gSl
  have hs : seqL x ρ = match look x ρ with
    | some t => seqTr t
    | none => none := by
    unfold LT.seqL seqTr
    cases look x ρ with
    | none => rfl
    | some t =>
      cases t with
      | leaf o => cases o with
        | none => rfl
        | some d => cases d <;> rfl
      | node u k cs => cases k <;> rfl
  rw [hs]
  cases look x ρ with
  | none => rfl
  | some t =>
    cases t with
    | leaf o =>
      cases o with
      | none => rfl
      | some d =>
        cases d with
        | str z =>
          simp only [slT]
          by_cases h : z.length ≤ sizeLine
          · simp only [if_pos h]
          · simp only [if_neg h]
        | list xs => simp only [seqTr, slT, lstD_eq]; rfl
        | _ => rfl
    | node u k cs =>
      simp only [slT]
      cases seqTr (.node u k cs) with
      | none => rfl
      | some xs => simp only [lstD_eq, Option.map_some]
/-! truth -/
def truT : T → Option Bool
  | .leaf (some d) => dTru d
  | .node _ .lst cs => some (!cs.isEmpty)
  | .node _ .tup cs => some (!cs.isEmpty)
  | .node _ .dct cs => some (!cs.isEmpty)
  | _ => none
@[simp] theorem truT_leaf (d : D) : truT (.leaf (some d)) = dTru d := rfl
@[simp] theorem truT_dct (u : Unit) (cs : List (D × T)) : truT (.node u .dct cs) = some (!cs.isEmpty) := rfl
@[simp] theorem truT_node (ts : List T) : truT (nodeL ts) = some (!ts.isEmpty) := by cases ts <;> rfl
@[simp] theorem truT_list (ds : List D) : truT (listT ds) = some (!ds.isEmpty) := by cases ds <;> rfl
@[simp] theorem truOf_app (x : EV) (ρ : Fr) : truOf x ρ = match look x ρ with
  | some t => truT t
  | none => none := by
  unfold truOf
  cases look x ρ with
  | none => rfl
  | some t =>
    cases t with
    | leaf o => cases o <;> rfl
    | node u k cs => cases k <;> rfl
/-! extend -/
def extT (o : T) (ys : List D) : Option T := match o with
  | .node _ .lst cs => if cs.length + ys.length ≤ sizeLine then some (.node () .lst (cs ++ ys.map fun y => (.none, .leaf (some y)))) else none
  | _ => none
@[simp] theorem extT_list (ds ys : List D) : extT (listT ds) ys = if ds.length + ys.length ≤ sizeLine then some (listT (ds ++ ys)) else none := by
  unfold extT listT nodeL
  simp only [List.length_map, List.map_append, List.map_map]
  rfl
@[simp] theorem gExtend_app (j : Nat) (p : List D) (x : EV) (ρ : Fr) : gExtend (.ptr j p) x ρ = match seqL x ρ with
  | none => none
  | some ys => match look (.ptr j p) ρ with
    | none => none
    | some o => match extT o ys with
      | none => none
      | some o' => match ρ.put j p o' with
        | none => none
        | some ρ' => some (.ok (.d .none), ρ') := by
  unfold gExtend
  cases seqL x ρ with
  | none => rfl
  | some ys =>
    simp only
    cases look (.ptr j p) ρ with
    | none => rfl
    | some o =>
      cases o with
      | leaf l => cases l <;> rfl
      | node u k cs =>
        cases k with
        | lst =>
          simp only [extT]
          by_cases h : cs.length + ys.length ≤ sizeLine
          · simp only [if_pos h]
            all_goals (cases ρ.put j p (TR.node () NK.lst (cs ++ List.map (fun y => (PyData.none, TR.leaf (some y))) ys)) <;> rfl)
          · simp only [if_neg h]
        | _ => rfl
/-! a place of a node set -/
def setTr (o : T) (q : D) (t : T) : Option T := match o with
  | .node _ k cs => (setT k cs q t).map fun cs' => .node () k cs'
  | _ => none
@[simp] theorem gSetI_app' (t : T) (j : Nat) (p : List D) (q : D) (ρ : Fr) : gSetI (.val t) (.ptr j p) (.d q) ρ = match look (.ptr j p) ρ with
  | none => none
  | some o => match setTr o q t with
    | none => none
    | some o' => ρ.put j p o' := by
  rw [gSetI_app]
  cases look (.ptr j p) ρ with
  | none => rfl
  | some o =>
    cases o with
    | leaf l => rfl
    | node u k cs =>
      simp only [setTr]
      cases setT k cs q t <;> rfl
@[simp] theorem setTr_dct (u : Unit) (cs : List (D × T)) (q : D) (t : T) : setTr (.node u .dct cs) q t = if q.isKey = true then (if cs.length < sizeLine then some (.node () .dct (putD cs q t)) else none) else none := by
  show (setT .dct cs q t).map (fun cs' => (.node () .dct cs' : T)) = _
  rw [setT_dct]
  by_cases h : q.isKey = true
  · by_cases h2 : cs.length < sizeLine
    · simp only [if_pos h, if_pos h2, Option.map_some]
    · simp only [if_pos h, if_neg h2, Option.map_none]
  · simp only [if_neg h, Option.map_none]
theorem map_set_none {α : Type} (l : List α) (k : Nat) (x : α) : (l.map fun t => ((.none : D), t)).set k (.none, x) = (l.set k x).map fun t => ((.none : D), t) := by
  rw [List.map_set]
@[simp] theorem setTr_node (ts : List T) (i : Int) (t : T) : setTr (nodeL ts) (.int i) t = (ixN ts.length i).map fun k => nodeL (ts.set k t) := by
  unfold setTr nodeL
  simp only [setT, List.length_map, Option.map_map]
  congr 1
  funext k
  simp only [Function.comp, map_set_none]
@[simp] theorem setTr_list (ds : List D) (i : Int) (d : D) : setTr (listT ds) (.int i) (.leaf (some d)) = (ixN ds.length i).map fun k => listT (ds.set k d) := by
  unfold listT
  rw [setTr_node, List.length_map]
  congr 1
  funext k
  rw [List.map_set]
@[simp] theorem frz_val (t : T) (ρ : Fr) : gFrz (.val t) ρ = match t.toD with
  | none => none
  | some d => some (.d d, ρ) := by
  cases t with
  | leaf o => cases o <;> rfl
  | node u k cs => rfl
@[simp] theorem idx_nil (k : Nat) : List.idxOf? k ([] : List Nat) = none := rfl
@[simp] theorem idx_cons (k i : Nat) (l : List Nat) : List.idxOf? k (i :: l) = if i = k then some 0 else (List.idxOf? k l).map (· + 1) := by
  rw [List.idxOf?_cons]
  by_cases h : i = k
  · simp [h]
  · simp [h]
@[simp] theorem tmWipe_some (ws : List Nat) (j : Nat) (p : List D) : tmWipe ws (some (j, p)) = if ws.contains j = true then none else some (j, p) := rfl
@[simp] theorem tmWipe_none (ws : List Nat) : tmWipe ws none = none := rfl
@[simp] theorem tmKill0_some (i j : Nat) (p : List D) : tmKill0 i (some (j, p)) = if j = i then none else some (j, p) := rfl
@[simp] theorem tmKill0_none (i : Nat) : tmKill0 i none = none := rfl
@[simp] theorem svwipe_al (ws : List Nat) (j : Nat) (p : List D) : SV.wipe ws (.al j p) = if ws.contains j = true then .emp else .al j p := rfl
@[simp] theorem kill0_al (i j : Nat) (p : List D) : SV.kill0 i (.al j p) = if j = i then .emp else .al j p := rfl
@[simp] theorem deepOf_ptr (j : Nat) (p : List D) (ρ : Fr) : deepOf (.ptr j p) ρ = match look (.ptr j p) ρ with
  | none => none
  | some t => t.toD := by
  unfold deepOf
  cases look (.ptr j p) ρ <;> rfl
@[simp] theorem move_ptr (j : Nat) (ρ : Fr) : gMove (.ptr j []) ρ = if ρ.io.contains j = true then none else match ρ.sl[j]? with
      | some (.own t) => some (.val t, ρ.wipe [j])
      | _ => none := rfl
/-! + of lists and tuples -/
theorem opAdd_no (xs ys : List D) : opAdd [.list xs, .list ys] = none ∧ opAdd [.tuple xs, .tuple ys] = none := ⟨rfl, rfl⟩
@[simp] theorem gAdd_tup (a b : List D) (ρ : Fr) (h : a.length + b.length ≤ sizeLine) : gAdd [.d (.tuple a), .d (.tuple b)] ρ = some (.ok (.d (.tuple (a ++ b))), ρ) := by
  have e : catT2 (.d (.tuple a)) (.d (.tuple b)) ρ = some (a ++ b) := by
    show (if a.length + b.length ≤ sizeLine then some (a ++ b) else none) = _
    rw [if_pos h]
  show (match (none : Option (Except Ex EV × Fr)) with
    | some y => some y
    | none => match (none : Option (Except Ex EV × Fr)) with
      | some y => some y
      | none => mkT catT [.d (.tuple a), .d (.tuple b)] ρ) = _
  simp only
  rw [mkT_app]
  show (match catT2 (.d (.tuple a)) (.d (.tuple b)) ρ with
    | none => none
    | some xs => some (Except.ok (EV.d (.tuple xs)), ρ)) = _
  rw [e]
def catS (x y : EV) (ρ : Fr) : Option (Except Ex EV × Fr) := match seqL x ρ with
  | none => none
  | some xs => match seqL y ρ with
    | none => none
    | some ys => if xs.length + ys.length ≤ sizeLine then some (.ok (.val (listT (xs ++ ys))), ρ) else none
@[simp] theorem catS_app (x y : EV) (ρ : Fr) : catS x y ρ = match seqL x ρ with
  | none => none
  | some xs => match seqL y ρ with
    | none => none
    | some ys => if xs.length + ys.length ≤ sizeLine then some (.ok (.val (listT (xs ++ ys))), ρ) else none := rfl
theorem deep_of_seq {x : EV} {ρ : Fr} {xs : List D} (h : seqL x ρ = some xs) : deepOf x ρ = some (.list xs) ∨ deepOf x ρ = none := by
  unfold LT.seqL at h
  unfold deepOf
  cases q : look x ρ with
  | none => rw [q] at h; cases h
  | some t =>
    rw [q] at h
    cases t with
    | leaf o =>
      cases o with
      | none => cases h
      | some d =>
        cases d <;> try (cases h; done)
        cases h
        exact .inl rfl
    | node u k cs =>
      cases k <;> try (cases h; done)
      simp only
      rw [toD_node]
      cases q2 : toDs cs with
      | none => exact .inr rfl
      | some ds =>
        left
        have hl : ∀ (cs : List (D × T)) (xs : List D) (ds : List (D × D)), leafItems cs = some xs → toDs cs = some ds → ds.map (·.2) = xs := by
          intro cs
          induction cs with
          | nil => intro xs ds h1 h2; cases h1; cases h2; rfl
          | cons c cs ih =>
            intro xs ds h1 h2
            obtain ⟨k, t⟩ := c
            cases t with
            | node u k cs => cases h1
            | leaf o =>
              cases o with
              | none => cases h1
              | some d =>
                rw [toDs_cons] at h2
                simp only [toD_leaf] at h2
                simp only [leafItems] at h1
                cases q3 : leafItems cs with
                | none => rw [q3] at h1; cases h1
                | some ys =>
                  rw [q3] at h1
                  cases h1
                  cases q4 : toDs cs with
                  | none => rw [q4] at h2; cases h2
                  | some es =>
                    rw [q4] at h2
                    cases h2
                    simp [ih ys es q3 q4]
        show some (PyData.list (ds.map (·.2))) = _
        rw [hl cs xs ds h q2]
/-- lists: which of both stand where -/
theorem gAdd_seq (x y : EV) (ρ : Fr) {xs ys : List D} (hx : seqL x ρ = some xs) (hy : seqL y ρ = some ys) : gAdd [x, y] ρ = catS x y ρ := by
  have h0 : dop opAdd [x, y] ρ = none := by
    rw [dop_app, deepsOf_cons, deepsOf_cons, deepsOf_nil]
    rcases deep_of_seq hx with e | e
    · rw [e]
      rcases deep_of_seq hy with e2 | e2
      · rw [e2]
        simp only
        rw [(opAdd_no xs ys).1]
      · rw [e2]
    · rw [e]
  unfold gAdd gOr
  rw [h0]
  simp only
  have h1 : mkL catL [x, y] ρ = catS x y ρ := by
    rw [mkL_app']
    show (match catL2 x y ρ with
      | none => none
      | some xs => some (Except.ok (EV.val (listT xs)), ρ)) = _
    unfold catL2
    rw [catS_app, hx, hy]
    simp only
    by_cases h : xs.length + ys.length ≤ sizeLine
    · simp only [if_pos h]
    · simp only [if_neg h]
  rw [h1]
  cases q : catS x y ρ with
  | some r => rfl
  | none =>
    show mkT catT [x, y] ρ = none
    rw [mkT_app]
    have ht : tupOf x ρ = none := by
      unfold tupOf
      unfold LT.seqL at hx
      cases q : look x ρ with
      | none => rfl
      | some t =>
        rw [q] at hx
        cases t with
        | leaf o => cases o with
          | none => rfl
          | some d => cases d <;> first | rfl | cases hx
        | node u k cs => rfl
    show (match catT2 x y ρ with
      | none => none
      | some xs => some (Except.ok (EV.d (.tuple xs)), ρ)) = none
    unfold catT2
    rw [ht]
@[simp] theorem gAdd_ll (a b : List D) (ρ : Fr) : gAdd [.val (listT a), .val (listT b)] ρ = catS (.val (listT a)) (.val (listT b)) ρ := gAdd_seq (xs := a) (ys := b) _ _ ρ (by simp) (by simp)
@[simp] theorem gAdd_ld (a b : List D) (ρ : Fr) : gAdd [.val (listT a), .d (.list b)] ρ = catS (.val (listT a)) (.d (.list b)) ρ := gAdd_seq (xs := a) (ys := b) _ _ ρ (by simp) (by simp)
@[simp] theorem gAdd_dl (a b : List D) (ρ : Fr) : gAdd [.d (.list a), .val (listT b)] ρ = catS (.d (.list a)) (.val (listT b)) ρ := gAdd_seq (xs := a) (ys := b) _ _ ρ (by simp) (by simp)
@[simp] theorem gAdd_dd (a b : List D) (ρ : Fr) : gAdd [.d (.list a), .d (.list b)] ρ = catS (.d (.list a)) (.d (.list b)) ρ := gAdd_seq (xs := a) (ys := b) _ _ ρ (by simp) (by simp)
end LT

/-! LE7: evaluation of calls that only read. -/
namespace LT
open PySem PySem.Spec L2
@[simp] theorem callR_app (FF : FD) (fs : List (M EV)) (ρ : Fr) : M.callR FF fs ρ = match LT.evalArgs fs ρ with
  | none => none
  | some (.error e, ρ') => some (.error e, ρ')
  | some (.ok xs, ρ') => gCallR FF xs ρ' := by
  unfold M.callR
  rw [bind_app]
  cases LT.evalArgs fs ρ with
  | none => rfl
  | some y => obtain ⟨r, ρ'⟩ := y; cases r <;> rfl
@[simp] theorem gCallR_app (FF : FD) (xs : List EV) (ρ : Fr) : gCallR FF xs ρ = match deepsOf xs ρ with
  | none => none
  | some ds => match FF (ds.map fun d => .leaf (some d)) with
    | some (.ok t, []) => if plainT t = true then some (.ok (.val t), ρ) else none
    | _ => none := rfl
@[simp] theorem plainT_leaf (d : D) : plainT (.leaf (some d)) = (sval d).isSome := by rw [plainT]
theorem plainTs_map (ts : List T) : plainTs (ts.map fun t => ((.none : D), t)) = ts.all plainT := by
  induction ts with
  | nil => rfl
  | cons t ts ih => rw [List.map_cons, plainTs, ih, List.all_cons]
@[simp] theorem plainT_node (ts : List T) : plainT (nodeL ts) = ts.all plainT := by
  show plainT (.node () .lst _) = _
  rw [plainT, plainTs_map]
@[simp] theorem plainT_list (ds : List D) : plainT (listT ds) = ds.all fun d => (sval d).isSome := by
  unfold listT
  rw [plainT_node, List.all_map]
  congr 1
end LT

/-! MT: plain facts: texts. -/
namespace LT
open PySem PySem.Spec L2

def chs (s : Str) : List Nat := s.cps.toList
def chr1 (c : Nat) : Str := ⟨#[c]⟩
theorem str_ext {a b : Str} (h : chs a = chs b) : a = b := by
  cases a; cases b
  simp [chs] at h
  rw [h]
@[simp] theorem chs_chr (c : Nat) : chs (chr1 c) = [c] := rfl
theorem len_chs (s : Str) : s.length = (chs s).length := by simp [chs, Str.length]
@[simp] theorem chs_append (a b : Str) : chs (a ++ b) = chs a ++ chs b := by
  show (a.cps ++ b.cps).toList = _
  simp [chs]
theorem len_append (a b : Str) : (a ++ b).length = a.length + b.length := by simp [len_chs]
theorem chs_of (l : List Nat) : chs ⟨l.toArray⟩ = l := by simp [chs]
theorem cutS_hi (z : Str) (i : Nat) : chs (cutS z none (some (i : Int))) = (chs z).take i := by
  unfold cutS
  rw [chs_of, HT.sIx_nat, HT.sIx_none]
  simp only [List.drop_zero, Nat.sub_zero]
  show List.take (min i z.length) (chs z) = _
  rw [len_chs, ← List.take_eq_take_min]
theorem cutS_lo (z : Str) (i : Nat) : chs (cutS z (some (i : Int)) none) = (chs z).drop i := by
  unfold cutS
  rw [chs_of, HT.sIx_nat, HT.sIx_none]
  show List.take (z.length - min i z.length) (List.drop (min i z.length) (chs z)) = _
  rw [len_chs]
  by_cases h : i ≤ (chs z).length
  · rw [Nat.min_eq_left h, List.take_of_length_le (by simp)]
  · rw [Nat.min_eq_right (by omega), List.drop_length, List.take_nil, List.drop_eq_nil_of_le (by omega)]
theorem in_one (c : Nat) (x : Str) : (!(Builtin.Str.occurrences x (chr1 c) 0 x.length 1).isEmpty) = decide (c ∈ chs x) := StrLaws.found_one x c
/-- where a sign stands first -/
theorem find_one (x : Str) (c : Nat) : (Txt.find x (chr1 c) = -1 ∧ c ∉ chs x) ∨ ∃ i : Nat, Txt.find x (chr1 c) = (i : Int) ∧ i < x.length ∧ (chs x)[i]? = some c ∧ c ∉ (chs x).take i := by
  rcases StrLaws.occ_head x (chr1 c) 1 (Nat.le_refl _) with ⟨e, h⟩ | ⟨i, r, e, h, hn⟩
  · left
    unfold Txt.find
    rw [e]
    refine ⟨rfl, fun hc => ?_⟩
    obtain ⟨i, hi⟩ := List.mem_iff_getElem?.mp hc
    exact h i ((StrLaws.subAt_one x c i).mpr hi)
  · right
    have hc : (chs x)[i]? = some c := (StrLaws.subAt_one x c i).mp h
    refine ⟨i, by unfold Txt.find; rw [e], by rw [len_chs]; exact (List.getElem?_eq_some_iff.mp hc).1, hc, fun hm => ?_⟩
    obtain ⟨k, hk⟩ := List.mem_iff_getElem?.mp hm
    have hkl := (List.getElem?_eq_some_iff.mp hk).1
    rw [List.length_take] at hkl
    rw [List.getElem?_take_of_lt (by omega)] at hk
    exact hn k (by omega) ((StrLaws.subAt_one x c k).mpr hk)
theorem ex_of {α : Type} {x : Option (α × Fr)} {r : α} (h : x.map (·.1) = some r) : ∃ ρ', x = some (r, ρ') := by
  cases x with
  | none => cases h
  | some y => obtain ⟨a, ρ'⟩ := y; cases h; exact ⟨ρ', rfl⟩
theorem wipeL_wipeL {ws : List Nat} : ∀ {n : Nat} {l : List SV}, wipeL .emp (SV.wipe ws) ws n (wipeL .emp (SV.wipe ws) ws n l) = wipeL .emp (SV.wipe ws) ws n l
  | _, [] => rfl
  | n, x :: xs => by
    simp only [wipeL]
    rw [wipeL_wipeL]
    congr 1
    by_cases h : ws.contains n = true
    · simp only [if_pos h]
    · simp only [if_neg h]
      cases x with
      | al j p =>
        by_cases h2 : ws.contains j = true
        · simp only [SV.wipe, if_pos h2]
        · simp only [SV.wipe, if_neg h2]
      | _ => rfl
theorem wipe_wipe (ws : List Nat) (ρ : Fr) : (ρ.wipe ws).wipe ws = ρ.wipe ws := by
  unfold Fr.wipe
  simp only [wipeL_wipeL, List.map_map]
  congr 1
  apply List.map_congr_left
  intro x _
  cases x with
  | none => rfl
  | some y =>
    obtain ⟨j, p⟩ := y
    by_cases h2 : (wsOf ρ.io ws).contains j = true
    · simp only [Function.comp, tmWipe, if_pos h2]
    · simp only [Function.comp, tmWipe, if_neg h2]
theorem forD_wipe (asg : D → Fr → Option Fr) (ws : List Nat) (body : M SO) (ds : List D) (ρ : Fr) : LT.forD asg ws body ds ρ = LT.forD asg ws body ds (ρ.wipe ws) := by
  cases ds with
  | nil => simp only [LT.forD, wipe_wipe]
  | cons d ds => simp only [LT.forD, wipe_wipe]
/-- a turn, then the others -/
theorem forD_turn {asg : D → Fr → Option Fr} {ws : List Nat} {body : M SO} {d : D} {ds : List D} {ρ ρ1 ρ2 ρ3 : Fr} (h1 : asg d (ρ.wipe ws) = some ρ1) (h2 : body ρ1 = some (.ok .nx, ρ2)) (h3 : ρ2.wipe ws = ρ3) :
    LT.forD asg ws body (d :: ds) ρ = LT.forD asg ws body ds ρ3 := by
  rw [← h3, ← forD_wipe]
  simp only [LT.forD, h1, h2]
/-- a tape -/
structure IsTape (t : T) : Prop where
  ex : ∃ cells pos left seed salt, t = tapeT cells pos left seed salt ∧ (∀ z ∈ cells, 0 ≤ z) ∧ 0 ≤ pos ∧ 0 ≤ left
theorem isTape0 (ns : List Int) : IsTape (tape0 ns) := ⟨_, _, _, _, _, rfl, fun z hz => by
  obtain ⟨y, _, rfl⟩ := List.mem_map.mp hz
  unfold iabs; split <;> omega, Int.le_refl _, Int.le_refl _⟩
theorem joinL_nil : ∀ ll : List (List Nat), TL.joinL [] ll = ll.flatten
  | [] => rfl
  | [p] => by simp [TL.joinL]
  | p :: q :: r => by
    rw [TL.joinL, joinL_nil (q :: r)]
    simp
theorem join_chars (cs : List Nat) : Txt.join "" (cs.map chr1) = ⟨cs.toArray⟩ := by
  have e2 : (cs.map fun c => [c]).flatten = cs := by
    induction cs with
    | nil => rfl
    | cons c cs ih => simp [ih]
  have h := SX.join_S [] (cs.map fun c => [c])
  rw [List.map_map, joinL_nil] at h
  have e1 : (Str.ofString "") = SX.S [] := by decide +kernel
  rw [e2] at h
  rw [e1]
  exact h
end LT

/-! MG: loops and comprehensions in general. -/
namespace LT
open PySem PySem.Spec L2
theorem IsTape.node {t : T} (h : IsTape t) : isNodeB t = true := by
  obtain ⟨cells, pos, left, seed, salt, rfl, _⟩ := h.ex
  rfl
/-- one turn of a for -/
def turn (asg : D → Fr → Option Fr) (ws : List Nat) (body : M SO) (d : D) (ρ : Fr) : Option (Except Ex SO × Fr) := match asg d ρ with
  | none => none
  | some ρ1 => match body ρ1 with
    | none => none
    | some (r, ρ2) => some (r, ρ2.wipe ws)
section
variable {asg : D → Fr → Option Fr} {ws : List Nat} {body : M SO}
theorem forD_go {d : D} {ds : List D} {ρ ρ' : Fr} (hw : ρ.wipe ws = ρ) (h : turn asg ws body d ρ = some (.ok .nx, ρ')) : LT.forD asg ws body (d :: ds) ρ = LT.forD asg ws body ds ρ' := by
  unfold turn at h
  cases q1 : asg d ρ with
  | none => rw [q1] at h; cases h
  | some ρ1 =>
    rw [q1] at h
    simp only at h
    cases q2 : body ρ1 with
    | none => rw [q2] at h; cases h
    | some y =>
      obtain ⟨r, ρ2⟩ := y
      rw [q2] at h
      cases h
      exact forD_turn (by rw [hw]; exact q1) q2 rfl
theorem forD_ct {d : D} {ds : List D} {ρ ρ' : Fr} (hw : ρ.wipe ws = ρ) (h : turn asg ws body d ρ = some (.ok .ct, ρ')) : LT.forD asg ws body (d :: ds) ρ = LT.forD asg ws body ds ρ' := by
  unfold turn at h
  cases q1 : asg d ρ with
  | none => rw [q1] at h; cases h
  | some ρ1 =>
    rw [q1] at h
    simp only at h
    cases q2 : body ρ1 with
    | none => rw [q2] at h; cases h
    | some y =>
      obtain ⟨r, ρ2⟩ := y
      rw [q2] at h
      cases h
      rw [← forD_wipe]
      simp only [LT.forD, hw, q1, q2]
theorem forD_out {d : D} {ds : List D} {ρ : Fr} {t : T} (hw : ρ.wipe ws = ρ) (h : (turn asg ws body d ρ).map (·.1) = some (.ok (.ret t))) : ∃ ρ', LT.forD asg ws body (d :: ds) ρ = some (.ok (.ret t), ρ') := by
  unfold turn at h
  cases q1 : asg d ρ with
  | none => rw [q1] at h; cases h
  | some ρ1 =>
    rw [q1] at h
    simp only at h
    cases q2 : body ρ1 with
    | none => rw [q2] at h; cases h
    | some y =>
      obtain ⟨r, ρ2⟩ := y
      rw [q2] at h
      cases h
      refine ⟨ρ2, ?_⟩
      simp only [LT.forD, hw, q1, q2]
theorem forD_nil {ρ : Fr} (hw : ρ.wipe ws = ρ) : LT.forD asg ws body [] ρ = some (.ok .nx, ρ) := by
  simp only [LT.forD, hw]
/-- a loop that keeps what P says -/
theorem for_inv (P : Fr → Prop) (hw : ∀ ρ, P ρ → ρ.wipe ws = ρ) : ∀ (ds : List D) (ρ : Fr), P ρ → (∀ d ∈ ds, ∀ ρ, P ρ → ∃ ρ', turn asg ws body d ρ = some (.ok .nx, ρ') ∧ P ρ') → ∃ ρ', LT.forD asg ws body ds ρ = some (.ok .nx, ρ') ∧ P ρ'
  | [], ρ, h, _ => ⟨ρ, forD_nil (hw ρ h), h⟩
  | d :: ds, ρ, h, k => by
    obtain ⟨ρ1, e, h1⟩ := k d (by simp) ρ h
    obtain ⟨ρ2, e2, h2⟩ := for_inv P hw ds ρ1 h1 (fun d' hd => k d' (by simp [hd]))
    exact ⟨ρ2, (forD_go (hw ρ h) e).trans e2, h2⟩
/-- .. with the turns counted -/
theorem for_invN (P : Nat → Fr → Prop) (hw : ∀ n ρ, P n ρ → ρ.wipe ws = ρ) : ∀ (ds : List D) (n : Nat) (ρ : Fr), P n ρ → (∀ n, ∀ d ∈ ds, ∀ ρ, P n ρ → ∃ ρ', turn asg ws body d ρ = some (.ok .nx, ρ') ∧ P (n + 1) ρ') → ∃ ρ', LT.forD asg ws body ds ρ = some (.ok .nx, ρ') ∧ P (n + ds.length) ρ'
  | [], n, ρ, h, _ => ⟨ρ, forD_nil (hw n ρ h), h⟩
  | d :: ds, n, ρ, h, k => by
    obtain ⟨ρ1, e, h1⟩ := k n d (by simp) ρ h
    obtain ⟨ρ2, e2, h2⟩ := for_invN P hw ds (n + 1) ρ1 h1 (fun m d' hd => k m d' (by simp [hd]))
    exact ⟨ρ2, (forD_go (hw n ρ h) e).trans e2, by rw [List.length_cons, show n + (ds.length + 1) = n + 1 + ds.length by omega]; exact h2⟩
/-- .. with what is done and what is left -/
theorem for_invL (P : List D → List D → Fr → Prop) (hw : ∀ a b ρ, P a b ρ → ρ.wipe ws = ρ) : ∀ (ds : List D) (a : List D) (ρ : Fr), P a ds ρ → (∀ a d b ρ, P a (d :: b) ρ → ∃ ρ', turn asg ws body d ρ = some (.ok .nx, ρ') ∧ P (a ++ [d]) b ρ') → ∃ ρ', LT.forD asg ws body ds ρ = some (.ok .nx, ρ') ∧ P (a ++ ds) [] ρ'
  | [], a, ρ, h, _ => ⟨ρ, forD_nil (hw a [] ρ h), by simpa using h⟩
  | d :: ds, a, ρ, h, k => by
    obtain ⟨ρ1, e, h1⟩ := k a d ds ρ h
    obtain ⟨ρ2, e2, h2⟩ := for_invL P hw ds (a ++ [d]) ρ1 h1 k
    exact ⟨ρ2, (forD_go (hw a _ ρ h) e).trans e2, by simpa using h2⟩
/-- a state carried through -/
theorem for_fold {S : Type} (enc : S → Fr) (step : S → D → S) (I : Nat → S → Prop) (hw : ∀ s, (enc s).wipe ws = enc s) : ∀ (ds : List D) (s : S), I ds.length s → (∀ n, ∀ d ∈ ds, ∀ s, I (n + 1) s → turn asg ws body d (enc s) = some (.ok .nx, enc (step s d)) ∧ I n (step s d)) → LT.forD asg ws body ds (enc s) = some (.ok .nx, enc (ds.foldl step s)) ∧ I 0 (ds.foldl step s)
  | [], s, h, _ => ⟨forD_nil (hw s), h⟩
  | d :: ds, s, h, k => by
    obtain ⟨e, h1⟩ := k ds.length d (by simp) s h
    obtain ⟨e2, h2⟩ := for_fold enc step I hw ds (step s d) h1 (fun n d' hd => k n d' (by simp [hd]))
    exact ⟨(forD_go (hw s) e).trans e2, h2⟩
/-- the first item that makes the loop return -/
theorem for_some (ρ : Fr) (p : D → Option T) (hw : ρ.wipe ws = ρ) : ∀ (ds : List D), (∀ d ∈ ds, match p d with
    | some t => (turn asg ws body d ρ).map (·.1) = some (.ok (.ret t))
    | none => turn asg ws body d ρ = some (.ok .nx, ρ)) → match ds.findSome? p with
    | some t => ∃ ρ', LT.forD asg ws body ds ρ = some (.ok (.ret t), ρ')
    | none => LT.forD asg ws body ds ρ = some (.ok .nx, ρ)
  | [], _ => forD_nil hw
  | d :: ds, k => by
    have h := k d (by simp)
    have ih := for_some ρ p hw ds (fun d' hd => k d' (by simp [hd]))
    rw [List.findSome?_cons]
    cases q : p d with
    | some t =>
      rw [q] at h
      exact forD_out hw h
    | none =>
      rw [q] at h
      simp only at h ⊢
      rw [forD_go hw h]
      exact ih
/-- .. a test for each item -/
theorem for_any (ρ : Fr) (t : T) (p : D → Bool) (hw : ρ.wipe ws = ρ) : ∀ (ds : List D), (∀ d ∈ ds, if p d = true then (turn asg ws body d ρ).map (·.1) = some (.ok (.ret t)) else turn asg ws body d ρ = some (.ok .nx, ρ)) →
    if ds.any p = true then ∃ ρ', LT.forD asg ws body ds ρ = some (.ok (.ret t), ρ') else LT.forD asg ws body ds ρ = some (.ok .nx, ρ)
  | [], _ => forD_nil hw
  | d :: ds, k => by
    have h := k d (by simp)
    have ih := for_any ρ t p hw ds (fun d' hd => k d' (by simp [hd]))
    rw [List.any_cons]
    cases q : p d with
    | true =>
      rw [if_pos q] at h
      exact forD_out hw h
    | false =>
      rw [if_neg (by simp [q])] at h
      rw [Bool.false_or, forD_go hw h]
      exact ih
/-- a state carried through, and a way out -/
def forR {S R : Type} (step : S → D → R ⊕ S) : S → List D → R ⊕ S
  | s, [] => .inr s
  | s, d :: ds => match step s d with
    | .inl r => .inl r
    | .inr s' => forR step s' ds
theorem for_ret {S : Type} (enc : S → Fr) (step : S → D → T ⊕ S) (I : Nat → S → Prop) (hw : ∀ s, (enc s).wipe ws = enc s) : ∀ (ds : List D) (s : S), I ds.length s → (∀ n, ∀ d ∈ ds, ∀ s, I (n + 1) s → match step s d with
    | .inl t => (turn asg ws body d (enc s)).map (·.1) = some (.ok (.ret t))
    | .inr s' => turn asg ws body d (enc s) = some (.ok .nx, enc s') ∧ I n s') → match forR step s ds with
    | .inl t => ∃ ρ', LT.forD asg ws body ds (enc s) = some (.ok (.ret t), ρ')
    | .inr s' => LT.forD asg ws body ds (enc s) = some (.ok .nx, enc s') ∧ I 0 s'
  | [], s, h, _ => ⟨forD_nil (hw s), h⟩
  | d :: ds, s, h, k => by
    have h1 := k ds.length d (by simp) s h
    unfold forR
    cases q : step s d with
    | inl t =>
      rw [q] at h1
      exact forD_out (hw s) h1
    | inr s' =>
      rw [q] at h1
      simp only at h1 ⊢
      rw [forD_go (hw s) h1.1]
      exact for_ret enc step I hw ds s' h1.2 (fun n d' hd => k n d' (by simp [hd]))
end
/-! comprehensions -/
/-- one turn of a comprehension -/
def lturn (asg : D → Fr → Option Fr) (vs : List Nat) (fc : M Bool) (fe : M EV) (d : D) (ρ : Fr) : Option (Option T × Fr) := match asg d ρ with
  | none => none
  | some ρ1 => match fc ρ1 with
    | some (.ok true, ρ2) => match fe ρ2 with
      | some (.ok (.val t), ρ3) => some (some t, ρ3.wipe vs)
      | _ => none
    | some (.ok false, ρ2) => some (none, ρ2.wipe vs)
    | _ => none
section
variable {asg : D → Fr → Option Fr} {vs : List Nat} {fc : M Bool} {fe : M EV}
theorem lc_in {d : D} {ds : List D} {acc : List T} {ρ ρ' : Fr} {t : T} (h : lturn asg vs fc fe d ρ = some (some t, ρ')) (ha : acc.length < sizeLine) : lcD asg vs fc fe (d :: ds) acc ρ = lcD asg vs fc fe ds (acc ++ [t]) ρ' := by
  unfold lturn at h
  rw [lcD]
  cases q1 : asg d ρ with
  | none => rw [q1] at h; cases h
  | some ρ1 =>
    rw [q1] at h
    simp only at h ⊢
    cases q2 : fc ρ1 with
    | none => rw [q2] at h; cases h
    | some y =>
      obtain ⟨b, ρ2⟩ := y
      rw [q2] at h
      cases b with
      | error e => cases h
      | ok b =>
        cases b with
        | false => cases h
        | true =>
          simp only at h ⊢
          cases q3 : fe ρ2 with
          | none => rw [q3] at h; cases h
          | some z =>
            obtain ⟨r, ρ3⟩ := z
            rw [q3] at h
            cases r with
            | error e => cases h
            | ok ev =>
              cases ev with
              | ptr j p => cases h
              | val x =>
                cases h
                simp only [if_pos ha]
theorem lc_out {d : D} {ds : List D} {acc : List T} {ρ ρ' : Fr} (h : lturn asg vs fc fe d ρ = some (none, ρ')) : lcD asg vs fc fe (d :: ds) acc ρ = lcD asg vs fc fe ds acc ρ' := by
  unfold lturn at h
  rw [lcD]
  cases q1 : asg d ρ with
  | none => rw [q1] at h; cases h
  | some ρ1 =>
    rw [q1] at h
    simp only at h ⊢
    cases q2 : fc ρ1 with
    | none => rw [q2] at h; cases h
    | some y =>
      obtain ⟨b, ρ2⟩ := y
      rw [q2] at h
      cases b with
      | error e => cases h
      | ok b =>
        cases b with
        | false => cases h; rfl
        | true =>
          simp only at h
          cases q3 : fe ρ2 with
          | none => rw [q3] at h; cases h
          | some z =>
            obtain ⟨r, ρ3⟩ := z
            rw [q3] at h
            cases r with
            | error e => cases h
            | ok ev => cases ev <;> cases h
/-- items by a function -/
theorem lc_fm0 (ρ : Fr) (g : D → Option T) : ∀ (ds : List D) (acc : List T), acc.length + ds.length ≤ sizeLine → (∀ d ∈ ds, lturn asg vs fc fe d ρ = some (g d, ρ)) → lcD asg vs fc fe ds acc ρ = some (.ok (.val (nodeL (acc ++ ds.filterMap g))), ρ)
  | [], acc, _, _ => by simp [lcD, nodeL]
  | d :: ds, acc, hl, h => by
    have h1 := h d (by simp)
    rw [List.length_cons] at hl
    rw [List.filterMap_cons]
    cases q : g d with
    | none =>
      rw [q] at h1
      rw [lc_out h1, lc_fm0 ρ g ds acc (by omega) (fun d' hd => h d' (by simp [hd]))]
    | some t =>
      rw [q] at h1
      rw [lc_in h1 (by omega), lc_fm0 ρ g ds (acc ++ [t]) (by rw [List.length_append, List.length_singleton]; omega) (fun d' hd => h d' (by simp [hd]))]
      simp
theorem lc_fm (ρ : Fr) (g : D → Option T) (ds : List D) (hl : ds.length ≤ sizeLine) (h : ∀ d ∈ ds, lturn asg vs fc fe d ρ = some (g d, ρ)) : lcD asg vs fc fe ds [] ρ = some (.ok (.val (nodeL (ds.filterMap g))), ρ) := by
  have := lc_fm0 ρ g ds [] (by simpa using hl) h
  simpa using this
theorem lc_map (ρ : Fr) (g : D → T) (ds : List D) (hl : ds.length ≤ sizeLine) (h : ∀ d ∈ ds, lturn asg vs fc fe d ρ = some (some (g d), ρ)) : lcD asg vs fc fe ds [] ρ = some (.ok (.val (nodeL (ds.map g))), ρ) := by
  have := lc_fm ρ (fun d => some (g d)) ds hl h
  rw [List.filterMap_eq_map'] at this
  exact this
/-- pairs -/
inductive All2 {α β : Type} (R : α → β → Prop) : List α → List β → Prop where
  | nil : All2 R [] []
  | cons {a b as bs} : R a b → All2 R as bs → All2 R (a :: as) (b :: bs)
theorem All2.length {α β : Type} {R : α → β → Prop} : ∀ {as : List α} {bs : List β}, All2 R as bs → as.length = bs.length
  | _, _, .nil => rfl
  | _, _, .cons _ h => by simp [All2.length h]
theorem All2.right {α β : Type} {R : α → β → Prop} {P : β → Prop} (k : ∀ a b, R a b → P b) : ∀ {as : List α} {bs : List β}, All2 R as bs → ∀ b ∈ bs, P b
  | _, _, .nil, b, h => by simp at h
  | _, _, .cons r h, b, hb => by
    rcases List.mem_cons.mp hb with e | e
    · rw [e]; exact k _ _ r
    · exact All2.right k h b e
theorem All2.imp {α β : Type} {R S : α → β → Prop} (k : ∀ a b, R a b → S a b) : ∀ {as : List α} {bs : List β}, All2 R as bs → All2 S as bs
  | _, _, .nil => .nil
  | _, _, .cons r h => .cons (k _ _ r) (All2.imp k h)
/-- items drawn: what P says of the frame is kept, what R says holds of each item -/
theorem lc_inv0 (P : Fr → Prop) (R : D → T → Prop) : ∀ (ds : List D) (acc : List T) (ρ : Fr), acc.length + ds.length ≤ sizeLine → P ρ → (∀ d ∈ ds, ∀ ρ, P ρ → ∃ t ρ', lturn asg vs fc fe d ρ = some (some t, ρ') ∧ P ρ' ∧ R d t) → ∃ ts ρ', lcD asg vs fc fe ds acc ρ = some (.ok (.val (nodeL (acc ++ ts))), ρ') ∧ P ρ' ∧ All2 R ds ts
  | [], acc, ρ, _, h, _ => ⟨[], ρ, by simp [lcD, nodeL], h, .nil⟩
  | d :: ds, acc, ρ, hl, h, k => by
    obtain ⟨t, ρ1, e, h1, r⟩ := k d (by simp) ρ h
    rw [List.length_cons] at hl
    obtain ⟨ts, ρ2, e2, h2, r2⟩ := lc_inv0 P R ds (acc ++ [t]) ρ1 (by rw [List.length_append, List.length_singleton]; omega) h1 (fun d' hd => k d' (by simp [hd]))
    refine ⟨t :: ts, ρ2, ?_, h2, .cons r r2⟩
    rw [lc_in e (by omega), e2]
    simp
theorem lc_inv (P : Fr → Prop) (R : D → T → Prop) (ds : List D) (ρ : Fr) (hl : ds.length ≤ sizeLine) (h : P ρ) (k : ∀ d ∈ ds, ∀ ρ, P ρ → ∃ t ρ', lturn asg vs fc fe d ρ = some (some t, ρ') ∧ P ρ' ∧ R d t) : ∃ ts ρ', lcD asg vs fc fe ds [] ρ = some (.ok (.val (nodeL ts)), ρ') ∧ P ρ' ∧ All2 R ds ts := by
  have := lc_inv0 P R ds [] ρ (by simpa using hl) h k
  simpa using this
end
/-- .. items that stay -/
theorem lc_mapD {asg : D → Fr → Option Fr} {vs : List Nat} {fc : M Bool} {fe : M EV} (ρ : Fr) (g : D → D) (ds : List D) (hl : ds.length ≤ sizeLine) (h : ∀ d ∈ ds, lturn asg vs fc fe d ρ = some (some (.leaf (some (g d))), ρ)) : lcD asg vs fc fe ds [] ρ = some (.ok (.val (listT (ds.map g))), ρ) := by
  rw [lc_map ρ (fun d => .leaf (some (g d))) ds hl h, ← nodeL_lf, List.map_map]
  rfl
theorem lc_fmD {asg : D → Fr → Option Fr} {vs : List Nat} {fc : M Bool} {fe : M EV} (ρ : Fr) (g : D → Option D) (ds : List D) (hl : ds.length ≤ sizeLine) (h : ∀ d ∈ ds, lturn asg vs fc fe d ρ = some ((g d).map fun x => .leaf (some x), ρ)) : lcD asg vs fc fe ds [] ρ = some (.ok (.val (listT (ds.filterMap g))), ρ) := by
  rw [lc_fm ρ (fun d => (g d).map fun x => .leaf (some x)) ds hl h, ← nodeL_lf, List.map_filterMap]
theorem All2.leaves {α : Type} {R : α → D → Prop} : ∀ {as : List α} {ts : List T}, All2 (fun a t => ∃ d, t = .leaf (some d) ∧ R a d) as ts → ∃ ds : List D, ts = ds.map (fun d => .leaf (some d)) ∧ All2 R as ds
  | _, _, .nil => ⟨[], rfl, .nil⟩
  | _, _, .cons ⟨d, e, r⟩ h => by
    obtain ⟨ds, e2, h2⟩ := All2.leaves h
    exact ⟨d :: ds, by rw [e, e2, List.map_cons], .cons r h2⟩
/-- items drawn, each a value that stays -/
theorem lc_invD {asg : D → Fr → Option Fr} {vs : List Nat} {fc : M Bool} {fe : M EV} (P : Fr → Prop) (R : D → D → Prop) (ds : List D) (ρ : Fr) (hl : ds.length ≤ sizeLine) (h : P ρ) (k : ∀ d ∈ ds, ∀ ρ, P ρ → ∃ x ρ', lturn asg vs fc fe d ρ = some (some (.leaf (some x)), ρ') ∧ P ρ' ∧ R d x) : ∃ xs ρ', lcD asg vs fc fe ds [] ρ = some (.ok (.val (listT xs)), ρ') ∧ P ρ' ∧ All2 R ds xs := by
  obtain ⟨ts, ρ', e, hp, al⟩ := lc_inv (asg := asg) (vs := vs) (fc := fc) (fe := fe) P (fun d t => ∃ x, t = .leaf (some x) ∧ R d x) ds ρ hl h (fun d hd ρ hρ => by
    obtain ⟨x, ρ', e, h1, h2⟩ := k d hd ρ hρ
    exact ⟨_, ρ', e, h1, x, rfl, h2⟩)
  obtain ⟨xs, rfl, al2⟩ := al.leaves
  exact ⟨xs, ρ', e, hp, al2⟩
end LT

namespace CC
open PySem PySem.Spec L2 LT
def b__law_tape_1  : M SO := (M.fin (mop [(mop [(mop [(mop [(M.var 3), (M.cst (.int 31))] (dop opMul)), (M.var 2)] gAdd)] (dop opInt)), (M.cst (.int 2147483647))] (dop opMod)) (gSet1 3))
def d__law_tape : M SO := (M.seq (M.fin (M.cst (.int 7)) (gSet1 3))
  (M.seq (M.pre (gFz 1) (M.forU (sVar 1) (M.forD (M.items (M.ghost gFrz (M.var 1))) (asg1 2) [2] (b__law_tape_1)) (asg1 2) [2] (b__law_tape_1)))
  (M.fin (M.disp [.str "cells", .str "at", .str "left", .str "seed", .str "salt"] [(M.ghost gFrz (M.var 1)), (M.cst (.int 0)), (M.cst (.int 0)), (M.ghost gFrz (M.var 3)), (M.cst (.int 0))]) gRet)))
def e__law_tape : M EV := (mop [(mop [(M.var 2)] (dop opInt))] (dop opAbs))
@[simp] def r__law_take_1  : M SO := (M.seq (M.setItem (mop [(mop [(M.var 0), (M.cst (.str "salt"))] (g2 gIx)), (M.cst (.int 1))] gAdd) (M.var 0) (M.cst (.str "salt")))
  (M.seq (M.fin (mop [(mop [(mop [(mop [(mop [(M.var 0), (M.cst (.str "seed"))] (g2 gIx)), (M.cst (.int 48271))] (dop opMul)), (mop [(mop [(M.var 0), (M.cst (.str "salt"))] (g2 gIx)), (M.cst (.int 69621))] (dop opMul))] gAdd)] (dop opInt)), (M.cst (.int 2147483647))] (dop opMod)) (gSet1 3))
  (M.seq (M.fin (mop [(mop [(mop [(mop [(mop [(M.var 3), (M.var 3)] (dop opMul)), (mop [(mop [(M.var 0), (M.cst (.str "salt"))] (g2 gIx)), (M.cst (.int 40692))] (dop opMul))] gAdd), (M.cst (.int 12345))] gAdd)] (dop opInt)), (M.cst (.int 2147483399))] (dop opMod)) (gSet1 3))
  (M.fin (mop [(mop [(M.var 3)] (dop opInt)), (M.var 1)] (dop opMod)) gRet))))
@[simp] def r__law_take_2  : M SO := (M.seq (M.ite (M.asBool (mop [(mop [(M.var 0), (M.cst (.str "left"))] (g2 gIx)), (M.cst (.int 0))] (dop (opOrd (fun i j => decide (j < i)) (fun a b => decide (b < a)))))) (M.seq (M.fin (mop [(mop [(mop [(M.var 0), (M.cst (.str "left"))] (g2 gIx))] (dop opInt)), (M.var 1)] (dop opMod)) (gSet1 2))
  (M.seq (M.setItem (mop [(mop [(M.var 0), (M.cst (.str "left"))] (g2 gIx)), (M.var 1)] (dop opDiv)) (M.var 0) (M.cst (.str "left")))
  (M.fin (M.ghost gMove (M.var 2)) gRet))) (M.ret .nx))
  (r__law_take_1))
def d__law_take : M SO := (M.seq (M.ite (M.andB (M.asBool (mop [(mop [(M.var 0), (M.cst (.str "left"))] (g2 gIx)), (M.cst (.int 0))] (dop opEq))) (M.asBool (mop [(mop [(M.var 0), (M.cst (.str "at"))] (g2 gIx)), (mop [(mop [(M.var 0), (M.cst (.str "cells"))] (g2 gIx))] (dop opLen))] (dop (opOrd (fun i j => decide (i < j)) (fun a b => decide (a < b))))))) (M.seq (M.setItem (M.ghost gFrz (mop [(mop [(M.var 0), (M.cst (.str "cells"))] (g2 gIx)), (mop [(M.var 0), (M.cst (.str "at"))] (g2 gIx))] (g2 gIx))) (M.var 0) (M.cst (.str "left")))
  (M.setItem (mop [(mop [(M.var 0), (M.cst (.str "at"))] (g2 gIx)), (M.cst (.int 1))] gAdd) (M.var 0) (M.cst (.str "at")))) (M.ret .nx))
  (r__law_take_2))
def F__law_take : FD := mkF 2 [0] d__law_take
def d__law_is_integer : M SO := (M.fin (M.andV (mop [(M.var 0)] (dop (opIsi "int"))) (M.notV (mop [(M.var 0)] (dop (opIsi "bool"))))) gRet)
def F__law_is_integer : FD := mkF 0 [] d__law_is_integer
def b__law_same_items_1 (f__law_same_items : FD) (f__law_same : FD) : M SO := (M.ite (M.notB (M.tru (M.call f__law_same [] [(M.ghost gFrz (mop [(M.var 0), (M.var 2)] (g2 gIx))), (M.ghost gFrz (mop [(M.var 1), (M.var 2)] (g2 gIx)))]))) (M.fin (M.cst (.bool false)) gRet) (M.ret .nx))
@[simp] def r__law_same_items_1 (f__law_same_items : FD) (f__law_same : FD) : M SO := (M.seq (M.forD (M.range1 (mop [(M.var 1)] (dop opLen))) (asg1 2) [2] (b__law_same_items_1 f__law_same_items f__law_same))
  (M.fin (M.cst (.bool true)) gRet))
def d__law_same_items (f__law_same_items : FD) (f__law_same : FD) : M SO := (M.seq (M.ite (M.asBool (mop [(mop [(M.var 0)] (dop opLen)), (mop [(M.var 1)] (dop opLen))] (dop opNe))) (M.fin (M.cst (.bool false)) gRet) (M.ret .nx))
  (r__law_same_items_1 f__law_same_items f__law_same))
def b__law_same_1 (f__law_same_items : FD) (f__law_same : FD) : M SO := (M.ite (M.orB (M.asBool (mop [(M.var 2), (M.var 0)] (dop (opIn true)))) (M.notB (M.tru (M.call f__law_same [] [(M.ghost gFrz (mop [(M.var 0), (M.var 2)] (g2 gIx))), (M.ghost gFrz (mop [(M.var 1), (M.var 2)] (g2 gIx)))])))) (M.fin (M.cst (.bool false)) gRet) (M.ret .nx))
def b__law_same_2 (f__law_same_items : FD) (f__law_same : FD) : M SO := (M.ite (M.tru (mop [(M.var 2)] (dop (opIsi "bool")))) (M.fin (M.cst (.bool false)) gRet) (M.ret .nx))
@[simp] def r__law_same_1 (f__law_same_items : FD) (f__law_same : FD) : M SO := (M.seq (M.forU (sVar 0) (M.forD (M.items (M.ghost gFrz (M.var 0))) (asg1 2) [2] (b__law_same_2 f__law_same_items f__law_same)) (asg1 2) [2] (b__law_same_2 f__law_same_items f__law_same))
  (M.fin (M.cst (.bool true)) gRet))
@[simp] def r__law_same_2 (f__law_same_items : FD) (f__law_same : FD) : M SO := (M.seq (M.forU (sVar 1) (M.forD (M.items (M.ghost gFrz (M.var 1))) (asg1 2) [2] (b__law_same_1 f__law_same_items f__law_same)) (asg1 2) [2] (b__law_same_1 f__law_same_items f__law_same))
  (r__law_same_1 f__law_same_items f__law_same))
@[simp] def r__law_same_3 (f__law_same_items : FD) (f__law_same : FD) : M SO := (M.seq (M.ite (M.orB (M.notB (M.tru (mop [(M.var 0)] (dop (opIsi "dict"))))) (M.asBool (mop [(mop [(M.var 0)] (dop opLen)), (mop [(M.var 1)] (dop opLen))] (dop opNe)))) (M.fin (M.cst (.bool false)) gRet) (M.ret .nx))
  (r__law_same_2 f__law_same_items f__law_same))
@[simp] def r__law_same_4 (f__law_same_items : FD) (f__law_same : FD) : M SO := (M.seq (M.ite (M.tru (mop [(M.var 1)] (dop (opIsi "list")))) (M.fin (M.andV (mop [(M.var 0)] (dop (opIsi "list"))) (M.call f__law_same_items [] [(M.ghost gFrz (M.var 0)), (M.ghost gFrz (M.var 1))])) gRet) (M.ret .nx))
  (r__law_same_3 f__law_same_items f__law_same))
@[simp] def r__law_same_5 (f__law_same_items : FD) (f__law_same : FD) : M SO := (M.seq (M.ite (M.tru (mop [(M.var 1)] (dop (opIsi "tuple")))) (M.fin (M.andV (mop [(M.var 0)] (dop (opIsi "tuple"))) (M.call f__law_same_items [] [(M.ghost gFrz (M.var 0)), (M.ghost gFrz (M.var 1))])) gRet) (M.ret .nx))
  (r__law_same_4 f__law_same_items f__law_same))
@[simp] def r__law_same_6 (f__law_same_items : FD) (f__law_same : FD) : M SO := (M.seq (M.ite (M.tru (mop [(M.var 1)] (dop (opIsi "str")))) (M.fin (M.andV (mop [(M.var 0)] (dop (opIsi "str"))) (mop [(M.var 0), (M.var 1)] (dop opEq))) gRet) (M.ret .nx))
  (r__law_same_5 f__law_same_items f__law_same))
@[simp] def r__law_same_7 (f__law_same_items : FD) (f__law_same : FD) : M SO := (M.seq (M.ite (M.tru (mop [(M.var 1)] (dop (opIsi "int")))) (M.fin (M.andV (M.call F__law_is_integer [] [(M.ghost gFrz (M.var 0))]) (mop [(M.var 0), (M.var 1)] (dop opEq))) gRet) (M.ret .nx))
  (r__law_same_6 f__law_same_items f__law_same))
@[simp] def r__law_same_8 (f__law_same_items : FD) (f__law_same : FD) : M SO := (M.seq (M.ite (M.tru (mop [(M.var 1)] (dop (opIsi "bool")))) (M.fin (M.andV (mop [(M.var 0)] (dop (opIsi "bool"))) (mop [(M.var 0), (M.var 1)] (dop opEq))) gRet) (M.ret .nx))
  (r__law_same_7 f__law_same_items f__law_same))
def d__law_same (f__law_same_items : FD) (f__law_same : FD) : M SO := (M.seq (M.ite (M.asBool (mop [(M.var 1), (M.cst .none)] (dop opIsN))) (M.fin (mop [(M.var 0), (M.cst .none)] (dop opIsN)) gRet) (M.ret .nx))
  (r__law_same_8 f__law_same_items f__law_same))
def R_law_same_items__law_same : Nat → FD × FD
  | 0 => (fun _ => none, fun _ => none)
  | n + 1 => (mkF 1 [] (d__law_same_items ((R_law_same_items__law_same n).1) ((R_law_same_items__law_same n).2)), mkF 1 [] (d__law_same ((R_law_same_items__law_same n).1) ((R_law_same_items__law_same n).2)))
def F__law_same_items : FD := (R_law_same_items__law_same 30).1
def F__law_same : FD := (R_law_same_items__law_same 30).2
def d__law_char : M SO := (M.seq (M.fin (M.cst (.str " !\"#$&'()*+,-./0123456789:;<=>?@ABCDEFGHIJKLMNOPQRSTUVWXYZ[\\]^")) (gSet1 1))
  (M.seq (M.fin (mop [(M.var 1), (M.cst (.str "_`abcdefghijklmnopqrstuvwxyz{|}~"))] gAdd) (gSet1 1))
  (M.seq (M.ite (M.asBool (mop [(M.call F__law_take [0] [(M.var 0), (M.cst (.int 3))]), (M.cst (.int 0))] (dop opEq))) (M.fin (M.ghost gFrz (mop [(M.var 1), (M.call F__law_take [0] [(M.var 0), (M.cst (.int 94))])] (g2 gIx))) gRet) (M.ret .nx))
  (M.fin (M.ghost gFrz (mop [(M.cst (.str "ab -07")), (M.call F__law_take [0] [(M.var 0), (M.cst (.int 6))])] (g2 gIx))) gRet))))
def F__law_char : FD := mkF 1 [0] d__law_char
def e__law_text_1  : M EV := (M.call F__law_char [0] [(M.var 0)])
def d__law_text : M SO := (M.seq (M.fin (M.ghost gFrz (M.call F__law_take [0] [(M.var 0), (M.cst (.int 6))])) (gSet1 1))
  (M.seq (M.ite (M.asBool (mop [(M.call F__law_take [0] [(M.var 0), (M.cst (.int 12))]), (M.cst (.int 5))] (dop opEq))) (M.fin (mop [(M.cst (.int 25)), (M.call F__law_take [0] [(M.var 0), (M.cst (.int 6))])] gAdd) (gSet1 1)) (M.ret .nx))
  (M.fin (mop [M.chk isStrE (M.cst (.str "")), (M.lc (M.range1 (M.var 1)) (asg1 2) [2] (M.ret true) (e__law_text_1))] (dop opJoin)) gRet)))
def F__law_text : FD := mkF 2 [0] d__law_text
@[simp] def r__law_integer_1  : M SO := (M.seq (M.ite (M.asBool (mop [(M.var 1), (M.cst (.int 2))] (dop opEq))) (M.fin (mop [(M.call F__law_take [0] [(M.var 0), (M.cst (.int 12))])] (dop opNeg)) gRet) (M.ret .nx))
  (M.fin (M.call F__law_take [0] [(M.var 0), (M.cst (.int 6))]) gRet))
@[simp] def r__law_integer_2  : M SO := (M.seq (M.ite (M.asBool (mop [(M.var 1), (M.cst (.int 1))] (dop opEq))) (M.fin (M.ghost gFrz (mop [(mop [(M.cst (.int 999999999)), (mop [(M.cst (.int 999999999))] (dop opNeg)), (M.cst (.int 999999998)), (M.cst (.int 0))] (mkNode .lst)), (M.call F__law_take [0] [(M.var 0), (M.cst (.int 4))])] (g2 gIx))) gRet) (M.ret .nx))
  (r__law_integer_1))
def d__law_integer : M SO := (M.seq (M.fin (M.ghost gFrz (M.call F__law_take [0] [(M.var 0), (M.cst (.int 8))])) (gSet1 1))
  (M.seq (M.ite (M.asBool (mop [(M.var 1), (M.cst (.int 0))] (dop opEq))) (M.fin (mop [(M.call F__law_take [0] [(M.var 0), (M.cst (.int 1999999999))]), (M.cst (.int 999999999))] (dop opSub)) gRet) (M.ret .nx))
  (r__law_integer_2)))
def F__law_integer : FD := mkF 1 [0] d__law_integer
@[simp] def r__law_value_1  : M SO := (M.seq (M.ite (M.asBool (mop [(M.call F__law_take [0] [(M.var 0), (M.cst (.int 3))]), (M.cst (.int 0))] (dop opEq))) (M.fin (mop [(mop [(mop [(M.cst (.str "")), (M.cst (.str "0")), (M.cst (.str "-")), (M.cst (.str "+"))] (mkNode .lst)), (M.call F__law_take [0] [(M.var 0), (M.cst (.int 4))])] (g2 gIx)), (mop [(M.call F__law_integer [0] [(M.var 0)])] (dop opStr))] gAdd) gRet) (M.ret .nx))
  (M.fin (M.call F__law_text [0] [(M.var 0)]) gRet))
@[simp] def r__law_value_2  : M SO := (M.seq (M.ite (M.asBool (mop [(M.var 1), (M.cst (.str "int"))] (dop opEq))) (M.fin (M.call F__law_integer [0] [(M.var 0)]) gRet) (M.ret .nx))
  (r__law_value_1))
def d__law_value : M SO := (M.seq (M.ite (M.andB (M.tru (M.var 2)) (M.asBool (mop [(M.call F__law_take [0] [(M.var 0), (M.cst (.int 4))]), (M.cst (.int 0))] (dop opEq)))) (M.fin (M.cst .none) gRet) (M.ret .nx))
  (r__law_value_2))
def F__law_value : FD := mkF 0 [0] d__law_value
def e__law_name_1  : M EV := (M.ghost gFrz (mop [(M.var 3), (M.call F__law_take [0] [(M.var 0), (M.cst (.int 37))])] (g2 gIx)))
def b__law_name_1  : M SO := (M.ite (M.asBool (mop [(M.var 5), (M.var 1)] (dop (opIn false)))) (M.fin (M.ghost gFrz (mop [(mop [(M.var 2), (M.var 6)] (g2 gIx)), (mop [(M.var 5), M.chkInt (M.cst (.int 19))] (g2 gSlH))] gAdd)) (gSet1 5)) (M.ret .nx))
@[simp] def r__law_name_1  : M SO := (M.seq (M.fin (mop [M.chk isLstE (M.var 1), (M.ghost gFrz (M.var 5))] (g2 gAppend)) gDrop)
  (M.fin (M.ghost gMove (M.var 5)) gRet))
@[simp] def r__law_name_2  : M SO := (M.seq (M.fin (mop [(mop [(M.var 2), (M.call F__law_take [0] [(M.var 0), (M.cst (.int 26))])] (g2 gIx)), (mop [M.chk isStrE (M.cst (.str "")), (M.lc (M.range1 (M.var 4)) (asg1 6) [6] (M.ret true) (e__law_name_1))] (dop opJoin))] gAdd) (gSet1 5))
  (M.seq (M.forD (M.range1 (M.cst (.int 26))) (asg1 6) [6] (b__law_name_1))
  (r__law_name_1)))
def d__law_name : M SO := (M.seq (M.fin (M.cst (.str "abcdefghijklmnopqrstuvwxyz")) (gSet1 2))
  (M.seq (M.fin (mop [(M.var 2), (M.cst (.str "0123456789_"))] gAdd) (gSet1 3))
  (M.seq (M.fin (M.ghost gFrz (M.call F__law_take [0] [(M.var 0), (M.cst (.int 4))])) (gSet1 4))
  (M.seq (M.ite (M.asBool (mop [(M.call F__law_take [0] [(M.var 0), (M.cst (.int 9))]), (M.cst (.int 4))] (dop opEq))) (M.fin (M.cst (.int 19)) (gSet1 4)) (M.ret .nx))
  (r__law_name_2)))))
def F__law_name : FD := mkF 5 [0, 1] d__law_name
def b__law_columns_1  : M SO := (M.fin (mop [M.chk isLstE (M.var 4), (mop [(M.ghost gFrz (M.call F__law_name [0, 1] [(M.var 0), (M.var 1)])), (M.ghost gFrz (mop [(M.var 3), (M.call F__law_take [0] [(M.var 0), (M.cst (.int 2))])] (g2 gIx))), (mop [(M.call F__law_take [0] [(M.var 0), (M.cst (.int 2))]), (M.cst (.int 1))] (dop opEq))] gTupD)] (g2 gAppend)) gDrop)
def d__law_columns : M SO := (M.seq (M.fin (M.ghost gFrz (mop [(M.cst (.str "int")), (M.cst (.str "text"))] (mkNode .lst))) (gSet1 3))
  (M.seq (M.fin (mop [(mop [(M.ghost gFrz (M.call F__law_name [0, 1] [(M.var 0), (M.var 1)])), (M.ghost gFrz (mop [(M.var 3), (M.call F__law_take [0] [(M.var 0), (M.cst (.int 2))])] (g2 gIx))), (M.cst (.bool false))] gTupD)] (mkNode .lst)) (gSet1 4))
  (M.seq (M.forD (M.range1 (M.var 2)) (asg1 5) [5] (b__law_columns_1))
  (M.fin (M.ghost gMove (M.var 4)) gRet))))
def F__law_columns : FD := mkF 3 [0, 1] d__law_columns
def e__law_names_1  : M EV := (M.ghost gFrz (mop [(M.var 1), (M.cst (.int 0))] (g2 gIx)))
def d__law_names : M SO := (M.fin (M.lcU (sVar 0) (M.lc (M.items (M.ghost gFrz (M.var 0))) (asg1 1) [1] (M.ret true) (e__law_names_1)) (asg1 1) [1] (M.ret true) (e__law_names_1)) gRet)
def F__law_names : FD := mkF 1 [] d__law_names
def e__law_rest_1  : M EV := (M.call F__law_value [0] [(M.var 0), (M.ghost gFrz (mop [(M.var 2), (M.cst (.int 1))] (g2 gIx))), (M.ghost gFrz (mop [(M.var 2), (M.cst (.int 2))] (g2 gIx)))])
def d__law_rest : M SO := (M.fin (mop [(M.lc (M.items (M.ghost gFrz (mop [(M.var 1), M.chkInt (M.cst (.int 1))] (g2 gSlL)))) (asg1 2) [2] (M.ret true) (e__law_rest_1))] (mkT tupOp)) gRet)
def F__law_rest : FD := mkF 1 [0] d__law_rest
def d__law_clause : M SO := (M.seq (M.fin (M.ghost gFrz (mop [(M.var 1), (M.call F__law_take [0] [(M.var 0), (mop [(M.var 1)] (dop opLen))])] (g2 gIx))) (gSet1 2))
  (M.seq (M.fin (M.ghost gFrz (mop [(mop [(M.cst (.str "=")), (M.cst (.str "!=")), (M.cst (.str "<")), (M.cst (.str "<=")), (M.cst (.str ">")), (M.cst (.str ">=")), (M.cst (.str "null")), (M.cst (.str "given"))] (mkNode .lst)), (M.call F__law_take [0] [(M.var 0), (M.cst (.int 8))])] (g2 gIx))) (gSet1 3))
  (M.seq (M.ite (M.orB (M.asBool (mop [(M.var 3), (M.cst (.str "null"))] (dop opEq))) (M.asBool (mop [(M.var 3), (M.cst (.str "given"))] (dop opEq)))) (M.fin (mop [(M.ghost gFrz (mop [(M.var 2), (M.cst (.int 0))] (g2 gIx))), (M.ghost gFrz (M.var 3)), (M.cst .none)] gTupD) gRet) (M.ret .nx))
  (M.fin (mop [(M.ghost gFrz (mop [(M.var 2), (M.cst (.int 0))] (g2 gIx))), (M.ghost gFrz (M.var 3)), (M.ghost gFrz (M.call F__law_value [0] [(M.var 0), (M.ghost gFrz (mop [(M.var 2), (M.cst (.int 1))] (g2 gIx))), (M.cst (.bool false))]))] gTupD) gRet))))
def F__law_clause : FD := mkF 2 [0] d__law_clause
def e__law_condition_1  : M EV := (M.call F__law_clause [0] [(M.var 0), (M.ghost gFrz (M.var 1))])
def b__law_condition_1  : M SO := (M.seq (M.fin (M.ghost gFrz (mop [(mop [(M.cst (.int 1)), (M.cst (.int 2)), (M.cst (.int 0)), (M.cst (.int 1)), (M.cst (.int 4))] (mkNode .lst)), (M.call F__law_take [0] [(M.var 0), (M.cst (.int 5))])] (g2 gIx))) (gSet1 4))
  (M.fin (mop [M.chk isLstE (M.var 2), (mop [(M.lc (M.range1 (M.var 4)) (asg1 5) [5] (M.ret true) (e__law_condition_1))] (mkT tupOp))] (g2 gAppend)) gDrop))
def d__law_condition : M SO := (M.seq (M.fin (mop [] (mkNode .lst)) (gSet1 2))
  (M.seq (M.forD (M.range1 (mop [(mop [(M.cst (.int 1)), (M.cst (.int 0)), (M.cst (.int 2)), (M.cst (.int 1)), (M.cst (.int 4))] (mkNode .lst)), (M.call F__law_take [0] [(M.var 0), (M.cst (.int 5))])] (g2 gIx))) (asg1 3) [3, 4] (b__law_condition_1))
  (M.fin (mop [(M.ghost gMove (M.var 2))] (mkT tupOp)) gRet)))
def F__law_condition : FD := mkF 4 [0] d__law_condition
end CC

namespace CC
open PySem PySem.Spec L2 LT
def d_is_integer : M SO := (M.fin (M.andV (mop [(M.var 0)] (dop (opIsi "int"))) (M.notV (mop [(M.var 0)] (dop (opIsi "bool"))))) gRet)
def F_is_integer : FD := mkF 0 [] d_is_integer
def b_is_plain_text_1  : M SO := (M.ite (M.asBool (mop [(M.var 1), (M.cst (.str " !\"#$&'()*+,-./0123456789:;<=>?@ABCDEFGHIJKLMNOPQRSTUVWXYZ[\\]^_`abcdefghijklmnopqrstuvwxyz{|}~"))] (dop (opIn true)))) (M.fin (M.cst (.bool false)) gRet) (M.ret .nx))
@[simp] def r_is_plain_text_1  : M SO := (M.seq (M.forU (sVar 0) (M.forD (M.items (M.ghost gFrz (M.var 0))) (asg1 1) [1] (b_is_plain_text_1)) (asg1 1) [1] (b_is_plain_text_1))
  (M.fin (M.cst (.bool true)) gRet))
def d_is_plain_text : M SO := (M.seq (M.ite (M.notB (M.tru (mop [(M.var 0)] (dop (opIsi "str"))))) (M.fin (M.cst (.bool false)) gRet) (M.ret .nx))
  (r_is_plain_text_1))
def F_is_plain_text : FD := mkF 1 [] d_is_plain_text
@[simp] def r_is_value_1  : M SO := (M.seq (M.ite (M.tru (M.call F_is_integer [] [(M.ghost gFrz (M.var 0))])) (M.fin (M.chain (M.cst (.int (-999999999))) (M.var 0) (M.cst (.int 999999999)) (opOrd (fun i j => decide (i ≤ j)) (fun a b => !decide (b < a))) (opOrd (fun i j => decide (i ≤ j)) (fun a b => !decide (b < a)))) gRet) (M.ret .nx))
  (M.fin (M.andV (M.call F_is_plain_text [] [(M.ghost gFrz (M.var 0))]) (mop [(mop [(M.var 0)] (dop opLen)), (M.cst (.int 30))] (dop (opOrd (fun i j => decide (i ≤ j)) (fun a b => !decide (b < a)))))) gRet))
def d_is_value : M SO := (M.seq (M.ite (M.asBool (mop [(M.var 0), (M.cst .none)] (dop opIsN))) (M.fin (M.cst (.bool true)) gRet) (M.ret .nx))
  (r_is_value_1))
def F_is_value : FD := mkF 0 [] d_is_value
@[simp] def r_kind_of_1  : M SO := (M.seq (M.ite (M.tru (mop [(M.var 0)] (dop (opIsi "str")))) (M.fin (M.cst (.str "text")) gRet) (M.ret .nx))
  (M.fin (M.cst (.str "int")) gRet))
def d_kind_of : M SO := (M.seq (M.ite (M.asBool (mop [(M.var 0), (M.cst .none)] (dop opIsN))) (M.fin (M.cst (.str "")) gRet) (M.ret .nx))
  (r_kind_of_1))
def F_kind_of : FD := mkF 0 [] d_kind_of
def b_kind_in_1  : M SO := (M.ite (M.asBool (mop [(mop [(M.var 2), (M.cst (.int 0))] (g2 gIx)), (M.var 1)] (dop opEq))) (M.fin (M.ghost gFrz (mop [(M.var 2), (M.cst (.int 1))] (g2 gIx))) gRet) (M.ret .nx))
def d_kind_in : M SO := (M.seq (M.forU (sVar 0) (M.forD (M.items (M.ghost gFrz (M.var 0))) (asg1 2) [2] (b_kind_in_1)) (asg1 2) [2] (b_kind_in_1))
  (M.fin (M.cst (.str "")) gRet))
def F_kind_in : FD := mkF 1 [] d_kind_in
def d_clause_fits : M SO := (M.seq (M.fin (M.ghost gFrz (M.var 0)) (asgS (asgT (asgC (asg1 2) (asgC (asg1 3) (asgC (asg1 4) asgN))))))
  (M.seq (M.fin (M.ghost gFrz (M.call F_kind_in [] [(M.ghost gFrz (M.var 1)), (M.ghost gFrz (M.var 2))])) (gSet1 5))
  (M.seq (M.ite (M.asBool (mop [(M.var 5), (M.cst (.str ""))] (dop opEq))) (M.fin (M.cst (.bool false)) gRet) (M.ret .nx))
  (M.fin (M.orV (mop [(M.var 4), (M.cst .none)] (dop opIsN)) (M.andV (M.call F_is_value [] [(M.ghost gFrz (M.var 4))]) (mop [(M.call F_kind_of [] [(M.ghost gFrz (M.var 4))]), (M.var 5)] (dop opEq)))) gRet))))
def F_clause_fits : FD := mkF 4 [] d_clause_fits
def b_fits_1  : M SO := (M.ite (M.notB (M.tru (M.call F_clause_fits [] [(M.ghost gFrz (M.var 3)), (M.ghost gFrz (M.var 1))]))) (M.fin (M.cst (.bool false)) gRet) (M.ret .nx))
def b_fits_2  : M SO := (M.pre (gFz 2) (M.forU (sVar 2) (M.forD (M.items (M.ghost gFrz (M.var 2))) (asg1 3) [3] (b_fits_1)) (asg1 3) [3] (b_fits_1)))
def d_fits : M SO := (M.seq (M.forU (sVar 0) (M.forD (M.items (M.ghost gFrz (M.var 0))) (asg1 2) [2, 3] (b_fits_2)) (asg1 2) [2, 3] (b_fits_2))
  (M.fin (M.cst (.bool true)) gRet))
def F_fits : FD := mkF 2 [] d_fits
def b_mentions_1  : M SO := (M.ite (M.asBool (mop [(mop [(M.var 3), (M.cst (.int 0))] (g2 gIx)), (M.var 1)] (dop opEq))) (M.fin (M.cst (.bool true)) gRet) (M.ret .nx))
def b_mentions_2  : M SO := (M.pre (gFz 2) (M.forU (sVar 2) (M.forD (M.items (M.ghost gFrz (M.var 2))) (asg1 3) [3] (b_mentions_1)) (asg1 3) [3] (b_mentions_1)))
def d_mentions : M SO := (M.seq (M.forU (sVar 0) (M.forD (M.items (M.ghost gFrz (M.var 0))) (asg1 2) [2, 3] (b_mentions_2)) (asg1 2) [2, 3] (b_mentions_2))
  (M.fin (M.cst (.bool false)) gRet))
def F_mentions : FD := mkF 2 [] d_mentions
def d_renamed_clause : M SO := (M.seq (M.ite (M.asBool (mop [(mop [(M.var 0), (M.cst (.int 0))] (g2 gIx)), (M.var 1)] (dop opEq))) (M.fin (mop [(M.ghost gFrz (M.var 2)), (M.ghost gFrz (mop [(M.var 0), (M.cst (.int 1))] (g2 gIx))), (M.ghost gFrz (mop [(M.var 0), (M.cst (.int 2))] (g2 gIx)))] gTupD) gRet) (M.ret .nx))
  (M.fin (M.ghost gFrz (M.var 0)) gRet))
def F_renamed_clause : FD := mkF 0 [] d_renamed_clause
def e_renamed_1  : M EV := (M.call F_renamed_clause [] [(M.ghost gFrz (M.var 5)), (M.ghost gFrz (M.var 1)), (M.ghost gFrz (M.var 2))])
def b_renamed_1  : M SO := (M.fin (mop [M.chk isLstE (M.var 3), (mop [(M.preE (gFz 4) (M.lcU (sVar 4) (M.lc (M.items (M.ghost gFrz (M.var 4))) (asg1 5) [5] (M.ret true) (e_renamed_1)) (asg1 5) [5] (M.ret true) (e_renamed_1)))] (mkT tupOp))] (g2 gAppend)) gDrop)
def d_renamed : M SO := (M.seq (M.fin (mop [] (mkNode .lst)) (gSet1 3))
  (M.seq (M.forU (sVar 0) (M.forD (M.items (M.ghost gFrz (M.var 0))) (asg1 4) [4] (b_renamed_1)) (asg1 4) [4] (b_renamed_1))
  (M.fin (mop [(M.ghost gMove (M.var 3))] (mkT tupOp)) gRet)))
def F_renamed : FD := mkF 3 [] d_renamed
end CC

namespace CC
open PySem PySem.Spec L2 LT
@[simp] def r_compares_1  : M SO := (M.seq (M.ite (M.asBool (mop [(M.var 1), (M.cst (.str ">"))] (dop opEq))) (M.fin (mop [(M.var 0), (M.var 2)] (dop (opOrd (fun i j => decide (j < i)) (fun a b => decide (b < a))))) gRet) (M.ret .nx))
  (M.fin (mop [(M.var 0), (M.var 2)] (dop (opOrd (fun i j => decide (j ≤ i)) (fun a b => !decide (a < b))))) gRet))
@[simp] def r_compares_2  : M SO := (M.seq (M.ite (M.asBool (mop [(M.var 1), (M.cst (.str "<="))] (dop opEq))) (M.fin (mop [(M.var 0), (M.var 2)] (dop (opOrd (fun i j => decide (i ≤ j)) (fun a b => !decide (b < a))))) gRet) (M.ret .nx))
  (r_compares_1))
@[simp] def r_compares_3  : M SO := (M.seq (M.ite (M.asBool (mop [(M.var 1), (M.cst (.str "<"))] (dop opEq))) (M.fin (mop [(M.var 0), (M.var 2)] (dop (opOrd (fun i j => decide (i < j)) (fun a b => decide (a < b))))) gRet) (M.ret .nx))
  (r_compares_2))
@[simp] def r_compares_4  : M SO := (M.seq (M.ite (M.asBool (mop [(M.var 1), (M.cst (.str "!="))] (dop opEq))) (M.fin (mop [(M.var 0), (M.var 2)] (dop opNe)) gRet) (M.ret .nx))
  (r_compares_3))
def d_compares : M SO := (M.seq (M.ite (M.asBool (mop [(M.var 1), (M.cst (.str "="))] (dop opEq))) (M.fin (mop [(M.var 0), (M.var 2)] (dop opEq)) gRet) (M.ret .nx))
  (r_compares_4))
def F_compares : FD := mkF 0 [] d_compares
@[simp] def r_clause_holds_1  : M SO := (M.seq (M.ite (M.asBool (mop [(M.var 6), (M.cst .none)] (dop opIsN))) (M.fin (M.cst (.bool false)) gRet) (M.ret .nx))
  (M.fin (M.orV (mop [(M.var 4), (M.cst (.str "given"))] (dop opEq)) (M.call F_compares [] [(M.ghost gFrz (M.var 6)), (M.ghost gFrz (M.var 4)), (M.ghost gFrz (M.var 5))])) gRet))
def d_clause_holds : M SO := (M.seq (M.fin (M.ghost gFrz (M.var 0)) (asgS (asgT (asgC (asg1 3) (asgC (asg1 4) (asgC (asg1 5) asgN))))))
  (M.seq (M.fin (M.ghost gFrz (mop [(M.var 2), (mop [M.chk isLstE (M.var 1), (M.var 3)] (dop opLIndex))] (g2 gIx))) (gSet1 6))
  (M.seq (M.ite (M.asBool (mop [(M.var 4), (M.cst (.str "null"))] (dop opEq))) (M.fin (mop [(M.var 6), (M.cst .none)] (dop opIsN)) gRet) (M.ret .nx))
  (r_clause_holds_1))))
def F_clause_holds : FD := mkF 4 [] d_clause_holds
def e_holds_1  : M EV := (M.call F_clause_holds [] [(M.ghost gFrz (M.var 4)), (M.ghost gFrz (M.var 1)), (M.ghost gFrz (M.var 2))])
def b_holds_1  : M SO := (M.ite (M.tru (mop [(M.preE (gFz 3) (M.lcU (sVar 3) (M.lc (M.items (M.ghost gFrz (M.var 3))) (asg1 4) [4] (M.ret true) (e_holds_1)) (asg1 4) [4] (M.ret true) (e_holds_1)))] (dop opAll))) (M.fin (M.cst (.bool true)) gRet) (M.ret .nx))
def d_holds : M SO := (M.seq (M.forU (sVar 0) (M.forD (M.items (M.ghost gFrz (M.var 0))) (asg1 3) [3] (b_holds_1)) (asg1 3) [3] (b_holds_1))
  (M.fin (M.cst (.bool false)) gRet))
def F_holds : FD := mkF 2 [] d_holds
end CC

namespace CC
open PySem PySem.Spec L2 LT
def e__law_copy_1 (f__law_copy : FD) : M EV := (M.call f__law_copy [] [(M.ghost gFrz (M.var 1))])
def e__law_copy_2 (f__law_copy : FD) : M EV := (M.call f__law_copy [] [(M.ghost gFrz (M.var 1))])
def b__law_copy_1 (f__law_copy : FD) : M SO := (M.setItem (M.call f__law_copy [] [(M.ghost gFrz (mop [(M.var 0), (M.var 3)] (g2 gIx)))]) (M.var 2) (M.var 3))
@[simp] def r__law_copy_1 (f__law_copy : FD) : M SO := (M.seq (M.ite (M.tru (mop [(M.var 0)] (dop (opIsi "dict")))) (M.seq (M.fin M.dict0 (gSet1 2))
  (M.seq (M.forU (sVar 0) (M.forD (M.items (M.ghost gFrz (M.var 0))) (asg1 3) [3] (b__law_copy_1 f__law_copy)) (asg1 3) [3] (b__law_copy_1 f__law_copy))
  (M.fin (M.ghost gMove (M.var 2)) gRet))) (M.ret .nx))
  (M.fin (M.ghost gFrz (M.var 0)) gRet))
@[simp] def r__law_copy_2 (f__law_copy : FD) : M SO := (M.seq (M.ite (M.tru (mop [(M.var 0)] (dop (opIsi "tuple")))) (M.fin (mop [(M.lcU (sVar 0) (M.lc (M.items (M.ghost gFrz (M.var 0))) (asg1 1) [1] (M.ret true) (e__law_copy_2 f__law_copy)) (asg1 1) [1] (M.ret true) (e__law_copy_2 f__law_copy))] (mkT tupOp)) gRet) (M.ret .nx))
  (r__law_copy_1 f__law_copy))
def d__law_copy (f__law_copy : FD) : M SO := (M.seq (M.ite (M.tru (mop [(M.var 0)] (dop (opIsi "list")))) (M.fin (M.lcU (sVar 0) (M.lc (M.items (M.ghost gFrz (M.var 0))) (asg1 1) [1] (M.ret true) (e__law_copy_1 f__law_copy)) (asg1 1) [1] (M.ret true) (e__law_copy_1 f__law_copy)) gRet) (M.ret .nx))
  (r__law_copy_2 f__law_copy))
def R_law_copy : Nat → FD
  | 0 => (fun _ => none)
  | n + 1 => (mkF 3 [] (d__law_copy (R_law_copy n)))
def F__law_copy : FD := (R_law_copy 30)
def d__law_table : M SO := (M.fin (M.disp [.str "columns", .str "checks", .str "uniques", .str "references"] [(mop [(M.ghost gFrz (M.var 0))] (mkL lstOp)), (mop [] (mkNode .lst)), (mop [] (mkNode .lst)), (mop [] (mkNode .lst))]) gRet)
def F__law_table : FD := mkF 0 [] d__law_table
def c__law_limits_1  : M Bool := (M.asBool (mop [(M.var 6), (M.var 2)] (dop opNe)))
def e__law_limits_1  : M EV := (M.ghost gFrz (M.var 6))
def b__law_limits_1  : M SO := (M.fin (mop [M.chk isLstE (mop [(mop [(M.var 1), (M.var 2)] (g2 gIx)), (M.cst (.str "checks"))] (g2 gIx)), (M.call F__law_condition [0] [(M.var 0), (M.ghost gFrz (M.var 3))])] (g2 gAppend)) gDrop)
def b__law_limits_2  : M SO := (M.ite (M.andB (M.asBool (mop [(M.call F__law_take [0] [(M.var 0), (M.cst (.int 4))]), (M.cst (.int 0))] (dop opEq))) (M.asBool (mop [(mop [(mop [(mop [(M.var 1), (M.var 2)] (g2 gIx)), (M.cst (.str "uniques"))] (g2 gIx))] (dop opLen)), (M.cst (.int 4))] (dop (opOrd (fun i j => decide (i < j)) (fun a b => decide (a < b))))))) (M.fin (mop [M.chk isLstE (mop [(mop [(M.var 1), (M.var 2)] (g2 gIx)), (M.cst (.str "uniques"))] (g2 gIx)), (M.ghost gFrz (M.var 6))] (g2 gAppend)) gDrop) (M.ret .nx))
def b__law_limits_3  : M SO := (M.ite (M.andB (M.asBool (mop [(M.var 5), (mop [] (mkNode .lst))] (dop opNe))) (M.andB (M.asBool (mop [(M.call F__law_take [0] [(M.var 0), (M.cst (.int 3))]), (M.cst (.int 0))] (dop opEq))) (M.asBool (mop [(mop [(mop [(mop [(M.var 1), (M.var 2)] (g2 gIx)), (M.cst (.str "references"))] (g2 gIx))] (dop opLen)), (M.cst (.int 4))] (dop (opOrd (fun i j => decide (i < j)) (fun a b => decide (a < b)))))))) (M.seq (M.fin (M.ghost gFrz (mop [(M.var 5), (M.call F__law_take [0] [(M.var 0), (mop [(M.var 5)] (dop opLen))])] (g2 gIx))) (gSet1 9))
  (M.ite (M.asBool (mop [(mop [(mop [(mop [(mop [(M.var 1), (M.var 9)] (g2 gIx)), (M.cst (.str "columns"))] (g2 gIx)), (M.cst (.int 0))] (g2 gIx)), (M.cst (.int 1))] (g2 gIx)), (mop [(M.var 8), (M.cst (.int 1))] (g2 gIx))] (dop opEq))) (M.fin (mop [M.chk isLstE (mop [(mop [(M.var 1), (M.var 2)] (g2 gIx)), (M.cst (.str "references"))] (g2 gIx)), (mop [(M.ghost gFrz (mop [(M.var 8), (M.cst (.int 0))] (g2 gIx))), (M.ghost gFrz (M.var 9))] gTupD)] (g2 gAppend)) gDrop) (M.ret .nx))) (M.ret .nx))
@[simp] def r__law_limits_1  : M SO := (M.seq (M.pre (gFz 4) (M.forU (sVar 4) (M.forD (M.items (M.ghost gFrz (M.var 4))) (asg1 6) [6] (b__law_limits_2)) (asg1 6) [6] (b__law_limits_2)))
  (M.forD (M.items (M.ghost gFrz (mop [(M.var 3), M.chkInt (M.cst (.int 1))] (g2 gSlL)))) (asg1 8) [8, 9] (b__law_limits_3)))
def d__law_limits : M SO := (M.seq (M.fin (M.ghost gFrz (mop [(mop [(M.var 1), (M.var 2)] (g2 gIx)), (M.cst (.str "columns"))] (g2 gIx))) (gSet1 3))
  (M.seq (M.fin (M.ghost gFrz (mop [(M.call F__law_names [] [(M.ghost gFrz (M.var 3))]), M.chkInt (M.cst (.int 1))] (g2 gSlL))) (gSet1 4))
  (M.seq (M.fin (M.lc (M.items (M.ghost gFrz (mop [(M.var 1)] (mkL sortOp)))) (asg1 6) [6] (c__law_limits_1) (e__law_limits_1)) (gSet1 5))
  (M.seq (M.forD (M.range1 (mop [(mop [(M.cst (.int 0)), (M.cst (.int 0)), (M.cst (.int 1)), (M.cst (.int 2))] (mkNode .lst)), (M.call F__law_take [0] [(M.var 0), (M.cst (.int 4))])] (g2 gIx))) (asg1 7) [7] (b__law_limits_1))
  (r__law_limits_1)))))
def F__law_limits : FD := mkF 7 [0, 1] d__law_limits
def b__law_schema_1  : M SO := (M.setItem (M.call F__law_table [] [(M.ghost gFrz (M.call F__law_columns [0, 1] [(M.var 0), (mop [] (mkNode .lst)), (M.ghost gFrz (M.call F__law_take [0] [(M.var 0), (M.cst (.int 5))]))]))]) (M.var 4) (M.call F__law_name [0, 1] [(M.var 0), (M.var 3)]))
def b__law_schema_2  : M SO := (M.fin (M.call F__law_limits [0, 1] [(M.var 0), (M.var 4), (M.ghost gFrz (M.var 6))]) gDrop)
@[simp] def r__law_schema_1  : M SO := (M.seq (M.forD (M.items (M.ghost gFrz (mop [(M.var 4)] (mkL sortOp)))) (asg1 6) [6] (b__law_schema_2))
  (M.fin (M.ghost gMove (M.var 4)) gRet))
def d__law_schema : M SO := (M.seq (M.fin (mop [] (mkNode .lst)) (gSet1 3))
  (M.seq (M.fin M.dict0 (gSet1 4))
  (M.seq (M.forD (M.range1 (mop [(M.var 1), (M.call F__law_take [0] [(M.var 0), (mop [(mop [(M.var 2), (M.var 1)] (dop opSub)), (M.cst (.int 1))] gAdd)])] gAdd)) (asg1 5) [5] (b__law_schema_1))
  (r__law_schema_1))))
def F__law_schema : FD := mkF 4 [0] d__law_schema
end CC

namespace Ck07
open PySem PySem.Spec L2 LT CC
def e_column_names_1  : M EV := (M.ghost gFrz (mop [(M.var 1), (M.cst (.int 0))] (g2 gIx)))
def d_column_names : M SO := (M.fin (M.lcU (sIx (sVar 0) (fun _ => some (.str "columns"))) (M.lc (M.items (M.ghost gFrz (mop [(M.var 0), (M.cst (.str "columns"))] (g2 gIx)))) (asg1 1) [1] (M.ret true) (e_column_names_1)) (asg1 1) [1] (M.ret true) (e_column_names_1)) gRet)
def F_column_names : FD := mkF 1 [] d_column_names
def d_copy_description : M SO := (M.fin (M.disp [.str "columns", .str "checks", .str "uniques", .str "references"] [(mop [(M.ghost gFrz (mop [(M.var 0), (M.cst (.str "columns"))] (g2 gIx)))] (mkL lstOp)), (mop [(M.ghost gFrz (mop [(M.var 0), (M.cst (.str "checks"))] (g2 gIx)))] (mkL lstOp)), (mop [(M.ghost gFrz (mop [(M.var 0), (M.cst (.str "uniques"))] (g2 gIx)))] (mkL lstOp)), (mop [(M.ghost gFrz (mop [(M.var 0), (M.cst (.str "references"))] (g2 gIx)))] (mkL lstOp))]) gRet)
def F_copy_description : FD := mkF 0 [] d_copy_description
def k_copy_schema_1  : M EV := (M.ghost gFrz (M.var 1))
def e_copy_schema_1  : M EV := (M.call F_copy_description [] [(M.ghost gFrz (mop [(M.var 0), (M.var 1)] (g2 gIx)))])
def d_copy_schema : M SO := (M.fin (M.dcU (sVar 0) (M.dc (M.items (M.ghost gFrz (M.var 0))) (asg1 1) [1] (M.ret true) (k_copy_schema_1) (e_copy_schema_1)) (asg1 1) [1] (M.ret true) (k_copy_schema_1) (e_copy_schema_1)) gRet)
def F_copy_schema : FD := mkF 1 [] d_copy_schema
def b_is_used_1  : M SO := (M.ite (M.tru (M.callR F_mentions [(M.var 2), (M.var 1)])) (M.fin (M.cst (.bool true)) gRet) (M.ret .nx))
def e_is_used_1  : M EV := (M.ghost gFrz (M.var 3))
@[simp] def r_is_used_1  : M SO := (M.seq (M.ite (M.asBool (mop [(M.var 1), (mop [(M.var 0), (M.cst (.str "uniques"))] (g2 gIx))] (dop (opIn false)))) (M.fin (M.cst (.bool true)) gRet) (M.ret .nx))
  (M.fin (mop [(M.var 1), (M.lc (M.items (M.ghost gFrz (mop [(M.var 0), (M.cst (.str "references"))] (g2 gIx)))) (asgT (asgC (asg1 3) (asgC (asg1 4) asgN))) [3, 4] (M.ret true) (e_is_used_1))] (dop (opIn false))) gRet))
def d_is_used : M SO := (M.seq (M.forU (sIx (sVar 0) (fun _ => some (.str "checks"))) (M.forD (M.items (M.ghost gFrz (mop [(M.var 0), (M.cst (.str "checks"))] (g2 gIx)))) (asg1 2) [2] (b_is_used_1)) (asg1 2) [2] (b_is_used_1))
  (r_is_used_1))
def F_is_used : FD := mkF 3 [] d_is_used
def b_is_referenced_1  : M SO := (M.ite (M.asBool (mop [(M.var 4), (M.var 1)] (dop opEq))) (M.fin (M.cst (.bool true)) gRet) (M.ret .nx))
def b_is_referenced_2  : M SO := (M.forD (M.items (M.ghost gFrz (mop [(mop [(M.var 0), (M.var 2)] (g2 gIx)), (M.cst (.str "references"))] (g2 gIx)))) (asgT (asgC (asg1 3) (asgC (asg1 4) asgN))) [3, 4] (b_is_referenced_1))
def d_is_referenced : M SO := (M.seq (M.forU (sVar 0) (M.forD (M.items (M.ghost gFrz (M.var 0))) (asg1 2) [2, 3, 4] (b_is_referenced_2)) (asg1 2) [2, 3, 4] (b_is_referenced_2))
  (M.fin (M.cst (.bool false)) gRet))
def F_is_referenced : FD := mkF 3 [] d_is_referenced
def b__law_uses_1  : M SO := (M.ite (M.asBool (mop [(mop [(M.var 4), (M.cst (.int 0))] (g2 gIx)), (M.var 1)] (dop opEq))) (M.fin (M.cst (.bool true)) gRet) (M.ret .nx))
def b__law_uses_2  : M SO := (M.pre (gFz 3) (M.forU (sVar 3) (M.forD (M.items (M.ghost gFrz (M.var 3))) (asg1 4) [4] (b__law_uses_1)) (asg1 4) [4] (b__law_uses_1)))
def b__law_uses_3  : M SO := (M.pre (gFz 2) (M.forU (sVar 2) (M.forD (M.items (M.ghost gFrz (M.var 2))) (asg1 3) [3, 4] (b__law_uses_2)) (asg1 3) [3, 4] (b__law_uses_2)))
def b__law_uses_4  : M SO := (M.ite (M.asBool (mop [(mop [(M.var 5), (M.cst (.int 0))] (g2 gIx)), (M.var 1)] (dop opEq))) (M.fin (M.cst (.bool true)) gRet) (M.ret .nx))
@[simp] def r__law_uses_1  : M SO := (M.seq (M.forU (sIx (sVar 0) (fun _ => some (.str "references"))) (M.forD (M.items (M.ghost gFrz (mop [(M.var 0), (M.cst (.str "references"))] (g2 gIx)))) (asg1 5) [5] (b__law_uses_4)) (asg1 5) [5] (b__law_uses_4))
  (M.fin (mop [(M.var 1), (mop [(M.var 0), (M.cst (.str "uniques"))] (g2 gIx))] (dop (opIn false))) gRet))
def d__law_uses : M SO := (M.seq (M.forU (sIx (sVar 0) (fun _ => some (.str "checks"))) (M.forD (M.items (M.ghost gFrz (mop [(M.var 0), (M.cst (.str "checks"))] (g2 gIx)))) (asg1 2) [2, 3, 4] (b__law_uses_3)) (asg1 2) [2, 3, 4] (b__law_uses_3))
  (r__law_uses_1))
def F__law_uses : FD := mkF 4 [] d__law_uses
def b__law_leads_1  : M SO := (M.ite (M.asBool (mop [(mop [(M.var 3), (M.cst (.int 1))] (g2 gIx)), (M.var 1)] (dop opEq))) (M.fin (M.cst (.bool true)) gRet) (M.ret .nx))
def b__law_leads_2  : M SO := (M.forU (sIx (sIx (sVar 0) (sVar 2)) (fun _ => some (.str "references"))) (M.forD (M.items (M.ghost gFrz (mop [(mop [(M.var 0), (M.var 2)] (g2 gIx)), (M.cst (.str "references"))] (g2 gIx)))) (asg1 3) [3] (b__law_leads_1)) (asg1 3) [3] (b__law_leads_1))
def d__law_leads : M SO := (M.seq (M.forU (sVar 0) (M.forD (M.items (M.ghost gFrz (M.var 0))) (asg1 2) [2, 3] (b__law_leads_2)) (asg1 2) [2, 3] (b__law_leads_2))
  (M.fin (M.cst (.bool false)) gRet))
def F__law_leads : FD := mkF 2 [] d__law_leads
def b_law_1  : M SO := (M.ite (M.notB (M.tru (M.callR F__law_same [(M.callR F_is_used [(M.var 6), (M.var 8)]), (M.callR F__law_uses [(M.var 6), (M.var 8)])]))) (M.fin (M.cst (.bool false)) gRet) (M.ret .nx))
def b_law_2  : M SO := (M.seq (M.fin (M.ghost gFrz (mop [(M.var 2), (M.var 5)] (g2 gIx))) (gSet1 6))
  (M.seq (M.fin (M.ghost gFrz (M.call F__law_names [] [(M.ghost gFrz (mop [(M.var 6), (M.cst (.str "columns"))] (g2 gIx)))])) (gSet1 7))
  (M.seq (M.ite (M.notB (M.tru (M.callR F__law_same [(M.call F_column_names [] [(M.ghost gFrz (M.var 6))]), (M.var 7)]))) (M.fin (M.cst (.bool false)) gRet) (M.ret .nx))
  (M.forD (M.items (M.ghost gFrz (mop [(M.var 7), (mop [(M.cst (.str "nowhere"))] (mkNode .lst))] gAdd))) (asg1 8) [8] (b_law_1)))))
def b_law_3  : M SO := (M.ite (M.notB (M.tru (M.callR F__law_same [(M.callR F_is_referenced [(M.var 2), (M.var 5)]), (M.callR F__law_leads [(M.var 2), (M.var 5)])]))) (M.fin (M.cst (.bool false)) gRet) (M.ret .nx))
def b_law_4  : M SO := (M.fin (mop [M.chk isLstE (mop [(mop [(M.var 4), (M.var 5)] (g2 gIx)), (M.var 9)] (g2 gIx)), (M.ghost gFrz (M.var 9))] (g2 gAppend)) gDrop)
def b_law_5  : M SO := (M.seq (M.forD (M.items (M.ghost gFrz (mop [(M.cst (.str "columns")), (M.cst (.str "checks")), (M.cst (.str "uniques")), (M.cst (.str "references"))] (mkNode .lst)))) (asg1 9) [9] (b_law_4))
  (M.setItem (mop [] (mkNode .lst)) (mop [(M.var 4), (M.var 5)] (g2 gIx)) (M.cst (.str "columns"))))
@[simp] def r_law_1  : M SO := (M.seq (M.setItem M.dict0 (M.var 4) (M.cst (.str "nowhere")))
  (M.fin (M.callR F__law_same [(M.var 2), (M.var 3)]) gRet))
@[simp] def r_law_2  : M SO := (M.seq (M.forD (M.items (M.ghost gFrz (mop [(M.var 4)] (mkL sortOp)))) (asg1 5) [5, 9] (b_law_5))
  (r_law_1))
@[simp] def r_law_3  : M SO := (M.seq (M.forD (M.items (M.ghost gFrz (mop [(mop [(M.var 2)] (mkL sortOp)), (mop [(M.cst (.str "nowhere"))] (mkNode .lst))] gAdd))) (asg1 5) [5] (b_law_3))
  (r_law_2))
@[simp] def r_law_4  : M SO := (M.seq (M.forD (M.items (M.ghost gFrz (mop [(M.var 2)] (mkL sortOp)))) (asg1 5) [5, 6, 7, 8] (b_law_2))
  (r_law_3))
def d_law : M SO := (M.seq (M.fin (M.ghost gFrz (M.call F__law_schema [0] [(M.var 1), (M.cst (.int 0)), (M.cst (.int 5))])) (gSet1 2))
  (M.seq (M.fin (M.ghost gFrz (M.call F__law_copy [] [(M.ghost gFrz (M.var 2))])) (gSet1 3))
  (M.seq (M.fin (M.call F_copy_schema [] [(M.ghost gFrz (M.var 2))]) (gSet1 4))
  (M.seq (M.ite (M.notB (M.tru (M.callR F__law_same [(M.var 4), (M.var 3)]))) (M.fin (M.cst (.bool false)) gRet) (M.ret .nx))
  (r_law_4)))))
end Ck07

namespace CC
open PySem PySem.Spec L2 LT
/-! the tape -/
theorem tape_fe (n : Nat) (z : Int) (h : 2 < n) : e__law_tape (cellF n 2 z).er = some (.ok (.d (.int (iabs z))), (cellF n 2 z).er) := by
  have hs : (cellF n 2 z).er.sl[2]? = some (.own (.leaf (some (.int z)))) := by
    rw [sl_er]
    unfold cellF
    rw [List.getElem?_set_self (by simpa using h)]
    rfl
  simp [e__law_tape, hs]
theorem tape_for : ∀ (zs : List Int) (s : Int) (x : SV) (a b : T), (∀ z ∈ zs, 0 ≤ z) → LT.forD (asg1 2) [2] b__law_tape_1
      (zs.map .int) ⟨[.own a, .own b, x, .own (lf (.int s))], [], []⟩ = some (.ok .nx, ⟨[.own a, .own b, .emp, .own (lf (.int (zs.foldl (fun s z => (s * 31 + z) % 2147483647) s)))], [], []⟩)
  | [], s, x, a, b, _ => by simp [LT.forD]
  | z :: zs, s, x, a, b, h => by
    have ih := tape_for zs ((s * 31 + z) % 2147483647) (.own (lf (.int z))) a b (fun y hy => h y (by simp [hy]))
    simp [LT.forD, b__law_tape_1] at ih ⊢
    exact ih
theorem toDs_cells (zs : List Int) : toDs (zs.map fun z => ((.none : D), lf (.int z))) = some (zs.map fun z => (.none, .int z)) := by
  induction zs with
  | nil => rfl
  | cons z zs ih => simp [toDs, TR.toD, ih]
theorem tape_den0 (zs : List Int) (s : Int) (h0 : ∀ z ∈ zs, 0 ≤ z) (hs : zs.foldl (fun s z => (s * 31 + z) % 2147483647) 7 = s) : (d__law_tape ⟨[.own (.leaf none), .own (.node () .lst (zs.map fun z => (.none, lf (.int z)))), .emp, .emp], [], []⟩).map (·.1) = some (.ok (.ret (tapeT zs 0 0 s 0))) := by
  have hd := toDs_cells zs
  have hf := tape_for zs 7 .emp (.leaf none) (lf (.list (zs.map .int))) h0
  rw [hs] at hf
  simp [d__law_tape, hd, Function.comp_def, hf, tapeT, kCells, kAt, kLeft, kSeed, kSalt]
theorem tape_den (ns : List Int) (h : Script ns) : ∃ ρ', d__law_tape ⟨[.own (.leaf none), .own (.node () .lst ((ns.map iabs).map fun z => (.none, lf (.int z))))] ++ List.replicate 2 .emp, [], []⟩ = some (.ok (.ret (tape0 ns)), ρ') :=
  ex_of (tape_den0 (ns.map iabs) (seedOf ns) (fun z hz => by
    obtain ⟨y, _, rfl⟩ := List.mem_map.mp hz
    unfold iabs; split <;> omega) (by unfold seedOf; rw [List.foldl_map]))
/-! what is taken of a tape -/
theorem cells_ix {cells : List Int} {k : Nat} {z : Int} (hz : cells[k]? = some z) : dIx (.list (cells.map .int)) (.int (k : Int)) = some (.int z) := by
  have hk := (List.getElem?_eq_some_iff.mp hz).1
  have e : ixN (cells.map PyData.int).length (k : Int) = some k := by
    unfold ixN
    simp [hk]
  unfold dIx atI
  simp only [e, Option.bind_some, List.getElem?_map, hz, Option.map_some]
theorem take_at {cells : List Int} {seed salt m z : Int} {k : Nat} (hz : cells[k]? = some z) (h3 : 0 < z) (hm : 0 < m) (hm2 : m < 1606938044258990275541962092341162602522202993782792835301376) :
   F__law_take [tapeT cells k 0 seed salt, lf (.int m)] = some (.ok (lf (.int (z % m))), [tapeT cells (k + 1) (z / m) seed salt]) := by
  have hk := (List.getElem?_eq_some_iff.mp hz).1
  have hlt : (k : Int) < cells.length := by omega
  have hix := cells_ix hz
  simp [F__law_take, mkF, d__law_take, tapeT, kLeft, kAt, kCells, kSeed, kSalt, sizeLine_eq, hlt, hix, h3, hm, hm2]
theorem take_left {cells : List Int} {pos left seed salt m : Int} (h3 : 0 < left) (hm : 0 < m) (hm2 : m < 1606938044258990275541962092341162602522202993782792835301376) :
   F__law_take [tapeT cells pos left seed salt, lf (.int m)] = some (.ok (lf (.int (left % m))), [tapeT cells pos (left / m) seed salt]) := by
  have hne : ¬ left = 0 := by omega
  simp [F__law_take, mkF, d__law_take, tapeT, kLeft, kAt, kCells, kSeed, kSalt, sizeLine_eq, h3, hm, hm2, hne]
def mix (seed salt m : Int) : Int := ((((seed * 48271 + (salt + 1) * 69621) % 2147483647) * ((seed * 48271 + (salt + 1) * 69621) % 2147483647) + (salt + 1) * 40692 + 12345) % 2147483399) % m
theorem mixed_ok (x : Int) : -18446744073709551616 < x % 2147483647 ∧ x % 2147483647 < 18446744073709551616 := by omega
theorem take_at0 {cells : List Int} {seed salt m : Int} {k : Nat} (hz : cells[k]? = some 0) (hm : 0 < m) (hm2 : m < 1606938044258990275541962092341162602522202993782792835301376) :
   F__law_take [tapeT cells k 0 seed salt, lf (.int m)] = some (.ok (lf (.int (mix seed salt m))), [tapeT cells (k + 1) 0 seed (salt + 1)]) := by
  have hk := (List.getElem?_eq_some_iff.mp hz).1
  have hlt : (k : Int) < cells.length := by omega
  have hix := cells_ix hz
  have hq := mixed_ok (seed * 48271 + (salt + 1) * 69621)
  simp [F__law_take, mkF, d__law_take, tapeT, kLeft, kAt, kCells, kSeed, kSalt, sizeLine_eq, hlt, hix, hm, hm2, hq, mix]
theorem take_end {cells : List Int} {pos seed salt m : Int} (h : ¬ pos < cells.length) (hm : 0 < m) (hm2 : m < 1606938044258990275541962092341162602522202993782792835301376) :
   F__law_take [tapeT cells pos 0 seed salt, lf (.int m)] = some (.ok (lf (.int (mix seed salt m))), [tapeT cells pos 0 seed (salt + 1)]) := by
  have hq := mixed_ok (seed * 48271 + (salt + 1) * 69621)
  simp [F__law_take, mkF, d__law_take, tapeT, kLeft, kAt, kCells, kSeed, kSalt, sizeLine_eq, h, hm, hm2, hq, mix]
theorem take_spec {t : T} (ht : IsTape t) (m : Int) (hm : 0 < m) (hm2 : m < 1606938044258990275541962092341162602522202993782792835301376) : ∃ r t', F__law_take [t, lf (.int m)] = some (.ok (lf (.int r)), [t']) ∧ IsTape t' ∧ 0 ≤ r ∧ r < m := by
  obtain ⟨cells, pos, left, seed, salt, rfl, hc, hp, hl⟩ := ht.ex
  by_cases h0 : left = 0
  · subst h0
    by_cases hlt : pos < cells.length
    · obtain ⟨k, rfl⟩ := Int.eq_ofNat_of_zero_le hp
      have hk : k < cells.length := by omega
      have hz := List.getElem?_eq_getElem hk
      have h1 := hc _ (List.getElem_mem hk)
      by_cases h2 : cells[k] = 0
      · rw [h2] at hz
        exact ⟨_, _, take_at0 hz hm hm2, ⟨_, _, _, _, _, rfl, hc, by omega, by omega⟩, Int.emod_nonneg _ (by omega), Int.emod_lt_of_pos _ hm⟩
      · exact ⟨_, _, take_at hz (by omega) hm hm2, ⟨_, _, _, _, _, rfl, hc, by omega, Int.ediv_nonneg h1 (by omega)⟩, Int.emod_nonneg _ (by omega), Int.emod_lt_of_pos _ hm⟩
    · exact ⟨_, _, take_end hlt hm hm2, ⟨_, _, _, _, _, rfl, hc, hp, by omega⟩, Int.emod_nonneg _ (by omega), Int.emod_lt_of_pos _ hm⟩
  · exact ⟨_, _, take_left (by omega) hm hm2, ⟨_, _, _, _, _, rfl, hc, hp, Int.ediv_nonneg hl (by omega)⟩, Int.emod_nonneg _ (by omega), Int.emod_lt_of_pos _ hm⟩
/-! signs -/
abbrev zA : Str := " !\"#$&'()*+,-./0123456789:;<=>?@ABCDEFGHIJKLMNOPQRSTUVWXYZ[\\]^"
abbrev zB : Str := "_`abcdefghijklmnopqrstuvwxyz{|}~"
abbrev zC : Str := "ab -07"
theorem zA_len : (Str.ofString " !\"#$&'()*+,-./0123456789:;<=>?@ABCDEFGHIJKLMNOPQRSTUVWXYZ[\\]^").length = 62 := by decide +kernel
theorem zB_len : (Str.ofString "_`abcdefghijklmnopqrstuvwxyz{|}~").length = 32 := by decide +kernel
theorem dIx_str {z : Str} {r : Int} (hz : z.length ≤ sizeLine) (h0 : 0 ≤ r) (h1 : r < z.length) : ∃ c, dIx (.str z) (.int r) = some (.str (chr1 c)) ∧ c ∈ chs z := by
  obtain ⟨k, rfl⟩ := Int.eq_ofNat_of_zero_le h0
  have hk : k < (chs z).length := by rw [← len_chs]; omega
  refine ⟨(chs z)[k], ?_, List.getElem_mem hk⟩
  have e : ixN z.cps.toList.length (k : Int) = some k := by
    unfold ixN
    have h2 : k < z.cps.size := by simpa [chs] using hk
    simp [h2]
  unfold dIx atI
  simp only [hz, if_true, e, Option.bind_some]
  show Option.map _ ((chs z)[k]?) = _
  rw [List.getElem?_eq_getElem hk]
  rfl
/-- a sign of a text -/
def Sign (c : Nat) : Prop := 32 ≤ c ∧ c ≤ 126 ∧ c ≠ 37
instance (c : Nat) : Decidable (Sign c) := inferInstanceAs (Decidable (_ ∧ _))
theorem zAB_ok : ∀ c ∈ chs (zA ++ zB), Sign c := by decide +kernel
theorem zC_ok : ∀ c ∈ chs zC, Sign c := by decide +kernel
theorem char_spec {t : T} (ht : IsTape t) : ∃ c t', F__law_char [t] = some (.ok (lf (.str (chr1 c))), [t']) ∧ IsTape t' ∧ Sign c := by
  obtain ⟨r1, t1, e1, ht1, a1, b1⟩ := take_spec ht 3 (by omega) (by omega)
  have n0 := ht.node
  have n1 := ht1.node
  by_cases h : r1 = 0
  · subst h
    obtain ⟨r2, t2, e2, ht2, a2, b2⟩ := take_spec ht1 94 (by omega) (by omega)
    have hl : (zA ++ zB).length = 94 := by rw [len_append, zA_len, zB_len]
    obtain ⟨c, hc, hm⟩ := dIx_str (z := zA ++ zB) (r := r2) (by rw [hl, sizeLine_eq]; omega) a2 (by rw [hl]; exact b2)
    refine ⟨c, t2, ?_, ht2, zAB_ok c hm⟩
    simp [F__law_char, mkF, d__law_char, zA_len, zB_len, sizeLine_eq, n0, n1, e1, e2, hc]
  · obtain ⟨r2, t2, e2, ht2, a2, b2⟩ := take_spec ht1 6 (by omega) (by omega)
    have hl : zC.length = 6 := by decide +kernel
    obtain ⟨c, hc, hm⟩ := dIx_str (z := zC) (r := r2) (by rw [hl, sizeLine_eq]; omega) a2 (by rw [hl]; exact b2)
    refine ⟨c, t2, ?_, ht2, zC_ok c hm⟩
    simp [F__law_char, mkF, d__law_char, zA_len, zB_len, sizeLine_eq, n0, n1, e1, e2, hc, h]
end CC

namespace CC
open PySem PySem.Spec L2 LT
/-! texts, numbers, values -/
theorem pick {α β : Type} (f : β → α) (P : β → Prop) : ∀ (l : List α), (∀ x ∈ l, ∃ b, x = f b ∧ P b) → ∃ bs : List β, l = bs.map f ∧ ∀ b ∈ bs, P b
  | [], _ => ⟨[], rfl, by simp⟩
  | x :: l, h => by
    obtain ⟨b, e, p⟩ := h x (by simp)
    obtain ⟨bs, e2, p2⟩ := pick f P l (fun y hy => h y (by simp [hy]))
    exact ⟨b :: bs, by rw [e, e2, List.map_cons], by
      intro y hy
      rcases List.mem_cons.mp hy with z | z
      · rw [z]; exact p
      · exact p2 y z⟩
structure IsText (s : Str) : Prop where
  len : s.length ≤ 30
  sgn : ∀ c ∈ chs s, Sign c
def chD (c : Nat) : D := .str (chr1 c)
theorem strsOf_chars (cs : List Nat) : strsOf (cs.map chD) = some (cs.map chr1) := by
  induction cs with
  | nil => rfl
  | cons c cs ih => simp [strsOf, chD] at ih ⊢; simp [ih]
theorem sum_chars (cs : List Nat) : ((cs.map chr1).map (·.length)).sum = cs.length := by
  induction cs with
  | nil => rfl
  | cons c cs ih =>
    simp only [List.map_cons, List.sum_cons, ih, List.length_cons]
    rw [show (chr1 c).length = 1 from rfl]
    omega
theorem opJoin_chars (cs : List Nat) (h : cs.length ≤ 1000) : opJoin [PyData.str "", .list (cs.map chD)] = some (PyData.str ⟨cs.toArray⟩) := by
  show (match seqOf (.list (cs.map chD)) with
    | none => none
    | some xs => match strsOf xs with
      | none => none
      | some ss => if (ss.map (fun (s : Str) => s.length)).sum + ss.length * (Str.ofString "").length ≤ 16777216 then some (PyData.str (Txt.join "" ss)) else none) = _
  simp only [seqOf, strsOf_chars, sum_chars]
  have e : (Str.ofString "").length = 0 := by decide +kernel
  rw [e, join_chars, if_pos (by omega)]
theorem all2_right {α β : Type} {R : α → β → Prop} {P : β → Prop} {as : List α} {bs : List β} (h : All2 R as bs) (k : ∀ a b, R a b → P b) : ∀ b ∈ bs, P b := h.right k
theorem rangeD_len (n : Int) (h : 0 ≤ n) : (rangeD 0 n).length = n.toNat := by simp [rangeD]
theorem all2_pick {α β γ : Type} {R : α → β → Prop} (f : γ → β) (P : γ → Prop) {as : List α} {bs : List β} (h : All2 R as bs) (k : ∀ a b, R a b → ∃ c, b = f c ∧ P c) : ∃ cs : List γ, bs = cs.map f ∧ cs.length = as.length ∧ ∀ c ∈ cs, P c := by
  obtain ⟨cs, e, p⟩ := pick f P bs (h.right fun a b r => k a b r)
  exact ⟨cs, e, by rw [h.length, e, List.length_map], p⟩
theorem text_lc (n : Int) (hn : 0 ≤ n) (hn2 : n ≤ 1000) (t a : T) (ht : IsTape t) : ∃ (cs : List Nat) (t' : T), lcD (asg1 2) [2] (M.ret true) e__law_text_1 (rangeD 0 n) [] ⟨[.own t, .own a, .emp], [], [0]⟩ = some (.ok (.val (listT (cs.map chD))), ⟨[.own t', .own a, .emp], [], [0]⟩) ∧ IsTape t' ∧ cs.length = n.toNat ∧ ∀ c ∈ cs, Sign c := by
  obtain ⟨xs, ρ', e, ⟨t', ht', rfl⟩, al⟩ := lc_invD (asg := asg1 2) (vs := [2]) (fc := M.ret true) (fe := e__law_text_1) (fun ρ => ∃ t, IsTape t ∧ ρ = ⟨[.own t, .own a, .emp], [], [0]⟩) (fun _ x => ∃ c, x = chD c ∧ Sign c) (rangeD 0 n) _ (by rw [rangeD_len n hn, sizeLine_eq]; omega) ⟨t, ht, rfl⟩ (by
    rintro d _ ρ ⟨t, ht, rfl⟩
    obtain ⟨c, t1, e1, ht1, hc⟩ := char_spec ht
    exact ⟨chD c, ⟨[.own t1, .own a, .emp], [], [0]⟩, by simp [lturn, e__law_text_1, ht.node, e1, chD], ⟨t1, ht1, rfl⟩, c, rfl, hc⟩)
  obtain ⟨cs, rfl, hl, hcs⟩ := all2_pick chD Sign al (fun _ _ h => h)
  exact ⟨cs, t', e, ht', by rw [hl, rangeD_len n hn], hcs⟩
theorem text_spec {t : T} (ht : IsTape t) : ∃ s t', F__law_text [t] = some (.ok (lf (.str s)), [t']) ∧ IsTape t' ∧ IsText s := by
  obtain ⟨r1, t1, e1, ht1, a1, b1⟩ := take_spec ht 6 (by omega) (by omega)
  obtain ⟨r2, t2, e2, ht2, a2, b2⟩ := take_spec ht1 12 (by omega) (by omega)
  have n0 := ht.node
  have n1 := ht1.node
  have n2 := ht2.node
  by_cases h : r2 = 5
  · subst h
    obtain ⟨r3, t3, e3, ht3, a3, b3⟩ := take_spec ht2 6 (by omega) (by omega)
    obtain ⟨cs, t4, e4, ht4, hn, hcs⟩ := text_lc (25 + r3) (by omega) (by omega) t3 (lf (.int (25 + r3))) ht3
    have hr1 : (-4611686018427387904 : Int) ≤ 25 + r3 := by omega
    have hr2 : 25 + r3 < (4611686018427387904 : Int) := by omega
    have hj := opJoin_chars cs (by omega)
    refine ⟨⟨cs.toArray⟩, t4, ?_, ht4, by rw [len_chs, chs_of]; omega, by rw [chs_of]; exact hcs⟩
    simp [F__law_text, mkF, d__law_text, n0, n1, n2, e1, e2, e3, hr1, hr2, e4, hj]
  · obtain ⟨cs, t4, e4, ht4, hn, hcs⟩ := text_lc r1 (by omega) (by omega) t2 (lf (.int r1)) ht2
    have hr1 : (-4611686018427387904 : Int) ≤ r1 := by omega
    have hr2 : r1 < (4611686018427387904 : Int) := by omega
    have hj := opJoin_chars cs (by omega)
    refine ⟨⟨cs.toArray⟩, t4, ?_, ht4, by rw [len_chs, chs_of]; omega, by rw [chs_of]; exact hcs⟩
    simp [F__law_text, mkF, d__law_text, n0, n1, n2, e1, e2, h, hr1, hr2, e4, hj]
/-- an integer value -/
def IsInt (i : Int) : Prop := -999999999 ≤ i ∧ i ≤ 999999999
theorem integer_spec {t : T} (ht : IsTape t) : ∃ i t', F__law_integer [t] = some (.ok (lf (.int i)), [t']) ∧ IsTape t' ∧ IsInt i := by
  obtain ⟨r1, t1, e1, ht1, a1, b1⟩ := take_spec ht 8 (by omega) (by omega)
  have n0 := ht.node
  have n1 := ht1.node
  by_cases h0 : r1 = 0
  · subst h0
    obtain ⟨r2, t2, e2, ht2, a2, b2⟩ := take_spec ht1 1999999999 (by omega) (by omega)
    exact ⟨r2 - 999999999, t2, by simp [F__law_integer, mkF, d__law_integer, n0, n1, e1, e2], ht2, by unfold IsInt; omega⟩
  by_cases h1 : r1 = 1
  · subst h1
    obtain ⟨r2, t2, e2, ht2, a2, b2⟩ := take_spec ht1 4 (by omega) (by omega)
    obtain h | h | h | h : r2 = 0 ∨ r2 = 1 ∨ r2 = 2 ∨ r2 = 3 := by omega
    · subst h; exact ⟨999999999, t2, by simp [F__law_integer, mkF, d__law_integer, n0, n1, e1, e2], ht2, by unfold IsInt; omega⟩
    · subst h; exact ⟨-999999999, t2, by simp [F__law_integer, mkF, d__law_integer, n0, n1, e1, e2], ht2, by unfold IsInt; omega⟩
    · subst h; exact ⟨999999998, t2, by simp [F__law_integer, mkF, d__law_integer, n0, n1, e1, e2], ht2, by unfold IsInt; omega⟩
    · subst h; exact ⟨0, t2, by simp [F__law_integer, mkF, d__law_integer, n0, n1, e1, e2], ht2, by unfold IsInt; omega⟩
  by_cases h2 : r1 = 2
  · subst h2
    obtain ⟨r2, t2, e2, ht2, a2, b2⟩ := take_spec ht1 12 (by omega) (by omega)
    exact ⟨-r2, t2, by simp [F__law_integer, mkF, d__law_integer, n0, n1, e1, e2], ht2, by unfold IsInt; omega⟩
  · obtain ⟨r2, t2, e2, ht2, a2, b2⟩ := take_spec ht1 6 (by omega) (by omega)
    exact ⟨r2, t2, by simp [F__law_integer, mkF, d__law_integer, n0, n1, e1, e2, h0, h1, h2], ht2, by unfold IsInt; omega⟩
/-! numbers as texts -/
theorem nat_text (n : Nat) : chs (Str.ofString (toString ((n : Nat) : Int))) = TL.numL n := TL.tl_num n
theorem neg_text (n : Nat) (h : 0 < n) : chs (Str.ofString (toString (-((n : Nat) : Int)))) = 45 :: TL.numL n := by
  obtain ⟨m, rfl⟩ : ∃ m, n = m + 1 := ⟨n - 1, by omega⟩
  have e1 : toString (-((m + 1 : Nat) : Int)) = "-" ++ toString ((m + 1 : Nat) : Int) := by
    rfl
  have key : ∀ s : String, chs (Str.ofString s) = s.toList.map Char.toNat := fun s => by
    rw [Str.ofString_eq_byList]
    unfold Str.ofStringByList
    simp [chs]
  rw [key, e1, String.toList_append, List.map_append, ← key ("-"), ← key (toString ((m + 1 : Nat) : Int)), nat_text]
  rfl
end CC

namespace CC
open PySem PySem.Spec L2 LT
/-! the program's values -/
abbrev zP : Str := " !\"#$&'()*+,-./0123456789:;<=>?@ABCDEFGHIJKLMNOPQRSTUVWXYZ[\\]^_`abcdefghijklmnopqrstuvwxyz{|}~"
theorem zP_eq : chs zP = chs (zA ++ zB) := by decide +kernel
theorem zP_sign (c : Nat) : c ∈ chs zP ↔ Sign c := by
  have h1 : ∀ c ∈ chs zP, Sign c := by decide +kernel
  have h2 : ∀ c ∈ List.range 127, Sign c → c ∈ chs zP := by decide +kernel
  exact ⟨h1 c, fun h => h2 c (by have := h.2.1; simp; omega) h⟩
theorem tab_eq : Str.ofString "\t" = chr1 9 := by decide +kernel
theorem nl_eq : Str.ofString "\n" = chr1 10 := by decide +kernel
@[simp] theorem opIn_one (neg : Bool) (c : Nat) (p : Str) : opIn neg [.str (chr1 c), .str p] = some (.bool (neg ^^ decide (c ∈ chs p))) := by
  show some (PyData.bool (neg ^^ !(Builtin.Str.occurrences p (chr1 c) 0 p.length 1).isEmpty)) = _
  rw [in_one]
theorem strD_eq (s : Str) : strD s = (chs s).map chD := rfl
/-- a loop over the signs of a text that looks for one that is none of p's -/
theorem signs_any {asg : D → Fr → Option Fr} {ws : List Nat} {body : M SO} (ρ : Fr) (t : T) (p : Nat → Bool) (hw : ρ.wipe ws = ρ) (s : Str) (h : ∀ c ∈ chs s, if p c = true then (turn asg ws body (chD c) ρ).map (·.1) = some (.ok (.ret t)) else turn asg ws body (chD c) ρ = some (.ok .nx, ρ)) :
    if (chs s).any p = true then ∃ ρ', LT.forD asg ws body (strD s) ρ = some (.ok (.ret t), ρ') else LT.forD asg ws body (strD s) ρ = some (.ok .nx, ρ) := by
  have q : ∀ c : Nat, ((chD c).name.cps.getD 0 0) = c := fun c => rfl
  have := for_any (asg := asg) (ws := ws) (body := body) ρ t (fun d => p (d.name.cps.getD 0 0)) hw (strD s) (by
    intro d hd
    rw [strD_eq] at hd
    obtain ⟨c, hc, rfl⟩ := List.mem_map.mp hd
    rw [q]
    exact h c hc)
  rw [strD_eq, List.any_map] at this
  exact this
def signB (c : Nat) : Bool := decide (Sign c)
theorem plain_loop (s : Str) : if (chs s).any (fun c => !signB c) = true then ∃ ρ', LT.forD (asg1 1) [1] b_is_plain_text_1 (strD s) ⟨[.own (lf (.str s)), .emp], [], []⟩ = some (.ok (.ret (lf (.bool false))), ρ') else LT.forD (asg1 1) [1] b_is_plain_text_1 (strD s) ⟨[.own (lf (.str s)), .emp], [], []⟩ = some (.ok .nx, ⟨[.own (lf (.str s)), .emp], [], []⟩) := by
  refine signs_any _ _ _ (by simp) s fun c hc => ?_
  by_cases h : Sign c
  · have h2 := (zP_sign c).mpr h
    simp [turn, b_is_plain_text_1, signB, h, h2, chD]
  · have h2 : c ∉ chs zP := fun z => h ((zP_sign c).mp z)
    simp [turn, b_is_plain_text_1, signB, h, h2, chD]
def plainD (d : D) : Bool := match d with
  | .str s => (chs s).all signB
  | _ => false
theorem plain_eq (d : D) : F_is_plain_text [lf d] = some (.ok (lf (.bool (plainD d))), []) := by
  cases d with
  | str s =>
    have e := plain_loop s
    by_cases h : (chs s).any (fun c => !signB c) = true
    · rw [if_pos h] at e
      obtain ⟨ρ', e⟩ := e
      have hp : plainD (.str s) = false := by
        show (chs s).all signB = false
        rw [List.all_eq_not_any_not]
        simp [h]
      simp [F_is_plain_text, mkF, d_is_plain_text, e, hp]
    · rw [if_neg h] at e
      have hp : plainD (.str s) = true := by
        show (chs s).all signB = true
        rw [List.all_eq_not_any_not]
        simp [h]
      simp [F_is_plain_text, mkF, d_is_plain_text, e, hp]
  | _ => simp [F_is_plain_text, mkF, d_is_plain_text, plainD]
theorem is_int_eq (a : D) : F_is_integer [lf a] = some (.ok (lf (.bool (match a with | .int _ => true | _ => false))), []) := by
  cases a <;> simp [F_is_integer, mkF, d_is_integer]
def valueD (d : D) : Bool := match d with
  | .none => true
  | .int i => decide (-999999999 ≤ i) && decide (i ≤ 999999999)
  | .str s => plainD (.str s) && decide (s.length ≤ 30)
  | _ => false
def lenOk (d : D) : Prop := match d with
  | .str s => s.length ≤ 16777216
  | _ => True
theorem value_eq (d : D) (h : lenOk d) : F_is_value [lf d] = some (.ok (lf (.bool (valueD d))), []) := by
  cases d with
  | str s =>
    have h : s.length ≤ 16777216 := h
    have hp := plain_eq (.str s)
    cases q : plainD (.str s) with
    | true => rw [q] at hp; simp [F_is_value, mkF, d_is_value, is_int_eq, hp, valueD, q, h]; omega
    | false => rw [q] at hp; simp [F_is_value, mkF, d_is_value, is_int_eq, hp, valueD, q, h]
  | int i =>
    by_cases h1 : -999999999 ≤ i
    · simp [F_is_value, mkF, d_is_value, is_int_eq, valueD, h1]
    · simp [F_is_value, mkF, d_is_value, is_int_eq, valueD, h1]
  | none => simp [F_is_value, mkF, d_is_value, is_int_eq, valueD]
  | bool b => simp [F_is_value, mkF, d_is_value, is_int_eq, valueD, plain_eq, plainD]
  | list b => simp [F_is_value, mkF, d_is_value, is_int_eq, valueD, plain_eq, plainD]
  | tuple b => simp [F_is_value, mkF, d_is_value, is_int_eq, valueD, plain_eq, plainD]
  | dict b => simp [F_is_value, mkF, d_is_value, is_int_eq, valueD, plain_eq, plainD]
def kindD (d : D) : Str := match d with
  | .none => ""
  | .str _ => "text"
  | _ => "int"
theorem kind_eq (d : D) : F_kind_of [lf d] = some (.ok (lf (.str (kindD d))), []) := by
  cases d <;> simp [F_kind_of, mkF, d_kind_of, kindD]
end CC

namespace CC
open PySem PySem.Spec L2 LT
/-! _law_same of a value and itself -/
abbrev RR := R_law_same_items__law_same
theorem same_non (n : Nat) (a : D) : (RR (n + 1)).2 [lf a, lf .none] = some (.ok (lf (.bool (match a with | .none => true | _ => false))), []) := by
  cases a <;> simp [RR, R_law_same_items__law_same, mkF, d__law_same]
theorem same_bl (n : Nat) (a : D) (b : Bool) : (RR (n + 1)).2 [lf a, lf (.bool b)] = some (.ok (lf (.bool (match a with | .bool z => decide (z = b) | _ => false))), []) := by
  cases a <;> simp [RR, R_law_same_items__law_same, mkF, d__law_same]
theorem is_integer_eq (a : D) : F__law_is_integer [lf a] = some (.ok (lf (.bool (match a with | .int _ => true | _ => false))), []) := by
  cases a <;> simp [F__law_is_integer, mkF, d__law_is_integer]
theorem same_in (n : Nat) (a : D) (b : Int) : (RR (n + 1)).2 [lf a, lf (.int b)] = some (.ok (lf (.bool (match a with | .int z => decide (z = b) | _ => false))), []) := by
  cases a <;> simp [RR, R_law_same_items__law_same, mkF, d__law_same, is_integer_eq]
theorem same_st (n : Nat) (a : D) (b : Str) : (RR (n + 1)).2 [lf a, lf (.str b)] = some (.ok (lf (.bool (match a with | .str z => decide (z = b) | _ => false))), []) := by
  cases a <;> simp [RR, R_law_same_items__law_same, mkF, d__law_same]
theorem dIx_lnat {xs : List D} {k : Nat} {d : D} (h : xs[k]? = some d) : dIx (.list xs) (.int (k : Int)) = some d := by
  have hk := (List.getElem?_eq_some_iff.mp h).1
  have e : ixN xs.length (k : Int) = some k := by
    unfold ixN
    simp [hk]
  show atI xs (k : Int) = _
  unfold atI
  simp only [e, Option.bind_some, h]
theorem dIx_tnat {xs : List D} {k : Nat} {d : D} (h : xs[k]? = some d) : dIx (.tuple xs) (.int (k : Int)) = some d := dIx_lnat h
/-- a row of equal items -/
theorem same_for (f g : FD) (c : List D → D) (hc : c = PyData.list ∨ c = PyData.tuple) (xs : List D) (hg : ∀ d ∈ xs, g [lf d, lf d] = some (.ok (lf (.bool true)), [])) : ∀ (m k : Nat) (s : SV), k + m = xs.length →
    LT.forD (asg1 2) [2] (b__law_same_items_1 f g) ((List.range' k m).map fun (i : Nat) => PyData.int (i : Int)) ⟨[.own (lf (c xs)), .own (lf (c xs)), s], [], []⟩ = some (.ok .nx, ⟨[.own (lf (c xs)), .own (lf (c xs)), .emp], [], []⟩)
  | 0, k, s, _ => by simp [LT.forD]
  | m + 1, k, s, h => by
    have hk : k < xs.length := by omega
    have hx := List.getElem?_eq_getElem hk
    have hix : dIx (c xs) (.int (k : Int)) = some xs[k] := by
      rcases hc with e | e
      · rw [e]; exact dIx_lnat hx
      · rw [e]; exact dIx_tnat hx
    have hs := hg xs[k] (List.getElem_mem hk)
    have ih := same_for f g c hc xs hg m (k + 1) .emp (by omega)
    rw [List.range'_succ, List.map_cons]
    refine (forD_turn (ρ1 := ⟨[.own (lf (c xs)), .own (lf (c xs)), .own (lf (.int (k : Int)))], [], []⟩) (ρ2 := ⟨[.own (lf (c xs)), .own (lf (c xs)), .own (lf (.int (k : Int)))], [], []⟩) (ρ3 := ⟨[.own (lf (c xs)), .own (lf (c xs)), .emp], [], []⟩) (by simp) ?_ (by simp)).trans ih
    simp [b__law_same_items_1, hix, hs]
theorem len_c {c : List D → D} (hc : c = PyData.list ∨ c = PyData.tuple) (xs : List D) : opLen [c xs] = some (.int xs.length) := by
  rcases hc with e | e <;> (rw [e]; rfl)
theorem items_refl (n : Nat) (c : List D → D) (hc : c = PyData.list ∨ c = PyData.tuple) (xs : List D) (hl : xs.length ≤ 16777216) (hg : ∀ d ∈ xs, (RR n).2 [lf d, lf d] = some (.ok (lf (.bool true)), [])) : (RR (n + 1)).1 [lf (c xs), lf (c xs)] = some (.ok (lf (.bool true)), []) := by
  have hf := same_for (RR n).1 (RR n).2 c hc xs hg xs.length 0 .emp (by simp)
  rw [← List.range_eq_range', ← rangeD_nat] at hf
  have b1 : (-4611686018427387904 : Int) ≤ xs.length := by omega
  have b2 : (xs.length : Int) < 4611686018427387904 := by omega
  simp [RR, R_law_same_items__law_same, mkF, d__law_same_items, len_c hc, b1, b2]
  simp [RR] at hf
  simp [hf]

theorem opIn_dict (neg : Bool) (q : D) (kvs : List (D × D)) (h : q.isKey = true) : opIn neg [q, .dict kvs] = some (.bool (neg ^^ (dlook kvs q).isSome)) := by
  cases q <;> simp [PyData.isKey] at h <;> rfl
theorem dIx_dict (q : D) (kvs : List (D × D)) (h : q.isKey = true) : dIx (.dict kvs) q = dlook kvs q := by
  cases q <;> simp [PyData.isKey] at h <;> rfl
theorem dlook_mem : ∀ {kvs : List (D × D)}, keysOk (kvs.map (·.1)) = true → ∀ c ∈ kvs, dlook kvs c.1 = some c.2
  | [], _, c, h => by simp at h
  | (k, v) :: r, h, c, hc => by
    obtain ⟨h1, h2, h3⟩ := keysOk_cons h
    unfold dlook
    rw [List.find?_cons]
    rcases List.mem_cons.mp hc with e | hc
    · subst e
      simp [LT.same_refl h1]
    · have hk := keysOk_key h2 c.1 (List.mem_map.mpr ⟨c, hc, rfl⟩)
      have hne : ¬ k.key = c.1.key := fun z => h3 (by
        rw [z]
        exact List.mem_map.mpr ⟨c.1, List.mem_map.mpr ⟨c, hc, rfl⟩, rfl⟩)
      have e1 : k.same c.1 = false := by rw [same_iff h1 hk]; exact decide_eq_false hne
      simp only [e1]
      exact dlook_mem h2 c hc
mutual
/-- what _law_same compares well: lists of bounded length, dicts with good keys -/
def niceD : D → Bool
  | .list xs => decide (xs.length ≤ 16777216) && niceL xs
  | .tuple xs => decide (xs.length ≤ 16777216) && niceL xs
  | .dict kvs => keysOk (kvs.map (·.1)) && niceK kvs
  | _ => true
def niceL : List D → Bool
  | [] => true
  | x :: xs => niceD x && niceL xs
def niceK : List (D × D) → Bool
  | [] => true
  | c :: cs => niceD c.2 && niceK cs
end
theorem niceL_mem : ∀ {xs : List D}, niceL xs = true → ∀ d ∈ xs, niceD d = true
  | x :: xs, h, d, hd => by
    rw [niceL, Bool.and_eq_true] at h
    rcases List.mem_cons.mp hd with e | e
    · rw [e]; exact h.1
    · exact niceL_mem h.2 d e
theorem niceL_of : ∀ {xs : List D}, (∀ d ∈ xs, niceD d = true) → niceL xs = true
  | [], _ => rfl
  | x :: xs, h => by rw [niceL, h x (by simp), niceL_of fun d hd => h d (by simp [hd])]; rfl
theorem niceK_mem : ∀ {kvs : List (D × D)}, niceK kvs = true → ∀ c ∈ kvs, niceD c.2 = true
  | x :: xs, h, d, hd => by
    rw [niceK, Bool.and_eq_true] at h
    rcases List.mem_cons.mp hd with e | e
    · rw [e]; exact h.1
    · exact niceK_mem h.2 d e
theorem niceK_of : ∀ {kvs : List (D × D)}, (∀ c ∈ kvs, niceD c.2 = true) → niceK kvs = true
  | [], _ => rfl
  | x :: xs, h => by rw [niceK, h x (by simp), niceK_of fun d hd => h d (by simp [hd])]; rfl
theorem depth_mem : ∀ {xs : List D}, ∀ d ∈ xs, d.depth ≤ PyData.depthAll xs
  | x :: xs, d, hd => by
    rw [PyData.depthAll]
    rcases List.mem_cons.mp hd with e | e
    · rw [e]; omega
    · have := depth_mem d e; omega
/-- how deep _law_same goes -/
def deepD : D → Nat
  | .list xs => deepL xs + 1
  | .tuple xs => deepL xs + 1
  | .dict kvs => deepK kvs + 1
  | _ => 0
where
  deepL : List D → Nat
    | [] => 0
    | x :: xs => max (deepD x) (deepL xs)
  deepK : List (D × D) → Nat
    | [] => 0
    | c :: cs => max (deepD c.2) (deepK cs)
theorem deepL_mem : ∀ {xs : List D}, ∀ d ∈ xs, deepD d ≤ deepD.deepL xs
  | x :: xs, d, hd => by
    rw [deepD.deepL]
    rcases List.mem_cons.mp hd with e | e
    · rw [e]; omega
    · have := deepL_mem d e; omega
theorem deepK_mem : ∀ {kvs : List (D × D)}, ∀ c ∈ kvs, deepD c.2 ≤ deepD.deepK kvs
  | x :: xs, d, hd => by
    rw [deepD.deepK]
    rcases List.mem_cons.mp hd with e | e
    · rw [e]; omega
    · have := deepK_mem d e; omega
theorem dict_for1 (f g : FD) (kvs : List (D × D)) (hk : keysOk (kvs.map (·.1)) = true) (hg : ∀ c ∈ kvs, g [lf c.2, lf c.2] = some (.ok (lf (.bool true)), [])) :
    LT.forD (asg1 2) [2] (b__law_same_1 f g) (kvs.map (·.1)) ⟨[.own (lf (.dict kvs)), .own (lf (.dict kvs)), .emp], [], []⟩ = some (.ok .nx, ⟨[.own (lf (.dict kvs)), .own (lf (.dict kvs)), .emp], [], []⟩) := by
  have := for_any (asg := asg1 2) (ws := [2]) (body := b__law_same_1 f g) ⟨[.own (lf (.dict kvs)), .own (lf (.dict kvs)), .emp], [], []⟩ (lf .none) (fun _ => false) (by simp) (kvs.map (·.1)) (by
    intro d hd
    obtain ⟨c, hc, rfl⟩ := List.mem_map.mp hd
    have k := keysOk_key hk c.1 (List.mem_map.mpr ⟨c, hc, rfl⟩)
    have l := dlook_mem hk c hc
    have g1 := hg c hc
    simp [turn, b__law_same_1, opIn_dict, dIx_dict, k, l, g1])
  simpa using this
theorem dict_for2 (f g : FD) (kvs : List (D × D)) (hk : keysOk (kvs.map (·.1)) = true) :
    LT.forD (asg1 2) [2] (b__law_same_2 f g) (kvs.map (·.1)) ⟨[.own (lf (.dict kvs)), .own (lf (.dict kvs)), .emp], [], []⟩ = some (.ok .nx, ⟨[.own (lf (.dict kvs)), .own (lf (.dict kvs)), .emp], [], []⟩) := by
  have := for_any (asg := asg1 2) (ws := [2]) (body := b__law_same_2 f g) ⟨[.own (lf (.dict kvs)), .own (lf (.dict kvs)), .emp], [], []⟩ (lf .none) (fun _ => false) (by simp) (kvs.map (·.1)) (by
    intro d hd
    obtain ⟨c, hc, rfl⟩ := List.mem_map.mp hd
    have k := keysOk_key hk c.1 (List.mem_map.mpr ⟨c, hc, rfl⟩)
    obtain ⟨q, v⟩ := c
    cases q <;> simp [PyData.isKey] at k <;> simp [turn, b__law_same_2])
  simpa using this
theorem same_refl_n : ∀ (n : Nat) (d : D), niceD d = true → 2 * deepD d < n → (RR n).2 [lf d, lf d] = some (.ok (lf (.bool true)), [])
  | 0, d, _, h => by omega
  | n + 1, .none, _, _ => by rw [same_non]
  | n + 1, .bool b, _, _ => by rw [same_bl]; simp
  | n + 1, .int b, _, _ => by rw [same_in]; simp
  | n + 1, .str b, _, _ => by rw [same_st]; simp
  | 1, .list xs, _, h => by rw [deepD] at h; omega
  | 1, .tuple xs, _, h => by rw [deepD] at h; omega
  | n + 2, .list xs, hs, h => by
    rw [niceD, Bool.and_eq_true, decide_eq_true_eq] at hs
    have hi := items_refl n PyData.list (.inl rfl) xs hs.1 fun d hd => same_refl_n n d (niceL_mem hs.2 d hd) (by
      have := deepL_mem d hd
      rw [deepD] at h; omega)
    simp [RR] at hi
    simp [RR, R_law_same_items__law_same, mkF, d__law_same]
    simp [R_law_same_items__law_same, mkF] at hi
    simp [hi]
  | n + 2, .tuple xs, hs, h => by
    rw [niceD, Bool.and_eq_true, decide_eq_true_eq] at hs
    have hi := items_refl n PyData.tuple (.inr rfl) xs hs.1 fun d hd => same_refl_n n d (niceL_mem hs.2 d hd) (by
      have := deepL_mem d hd
      rw [deepD] at h; omega)
    simp [RR] at hi
    simp [RR, R_law_same_items__law_same, mkF, d__law_same]
    simp [R_law_same_items__law_same, mkF] at hi
    simp [hi]
  | n + 1, .dict kvs, hs, h => by
    rw [niceD, Bool.and_eq_true] at hs
    have hg : ∀ c ∈ kvs, (RR n).2 [lf c.2, lf c.2] = some (.ok (lf (.bool true)), []) := fun c hc => same_refl_n n c.2 (niceK_mem hs.2 c hc) (by
      have := deepK_mem c hc
      rw [deepD] at h; omega)
    have e1 := dict_for1 (RR n).1 (RR n).2 kvs hs.1 hg
    have e2 := dict_for2 (RR n).1 (RR n).2 kvs hs.1
    simp [RR] at e1 e2
    simp [RR, R_law_same_items__law_same, mkF, d__law_same, e1, e2]
theorem same_refl (d : D) (hs : niceD d = true) (hd : deepD d ≤ 14) : F__law_same [lf d, lf d] = some (.ok (lf (.bool true)), []) := same_refl_n 30 d hs (by omega)
theorem same_bool_eq (a : D) (b : Bool) : F__law_same [lf a, lf (.bool b)] = some (.ok (lf (.bool (match a with | .bool z => decide (z = b) | _ => false))), []) := same_bl 29 a b
theorem same_str_eq (a : D) (b : Str) : F__law_same [lf a, lf (.str b)] = some (.ok (lf (.bool (match a with | .str z => decide (z = b) | _ => false))), []) := same_st 29 a b
theorem same_int_eq (a : D) (b : Int) : F__law_same [lf a, lf (.int b)] = some (.ok (lf (.bool (match a with | .int z => decide (z = b) | _ => false))), []) := same_in 29 a b
theorem same_none_eq (a : D) : F__law_same [lf a, lf .none] = some (.ok (lf (.bool (match a with | .none => true | _ => false))), []) := same_non 29 a
end CC

namespace CC
open PySem PySem.Spec L2 LT
/-! digits -/
theorem signs_fold {asg : D → Fr → Option Fr} {ws : List Nat} {body : M SO} {S : Type} (enc : S → Fr) (step : S → Nat → S) (hw : ∀ s, (enc s).wipe ws = enc s) (z : Str) (s : S) (h : ∀ c ∈ chs z, ∀ s, turn asg ws body (chD c) (enc s) = some (.ok .nx, enc (step s c))) :
    LT.forD asg ws body (strD z) (enc s) = some (.ok .nx, enc ((chs z).foldl step s)) := by
  have q : ∀ c : Nat, ((chD c).name.cps.getD 0 0) = c := fun c => rfl
  have := (for_fold (asg := asg) (ws := ws) (body := body) enc (fun s d => step s (d.name.cps.getD 0 0)) (fun _ _ => True) hw (strD z) s trivial (by
    intro n d hd s _
    rw [strD_eq] at hd
    obtain ⟨c, hc, rfl⟩ := List.mem_map.mp hd
    rw [q]
    exact ⟨h c hc s, trivial⟩)).1
  rw [strD_eq, List.foldl_map] at this
  exact this
def digB (c : Nat) : Bool := decide (48 ≤ c) && decide (c ≤ 57)
abbrev zD : Str := "0123456789"
theorem zD_dig (c : Nat) : c ∈ chs zD ↔ digB c = true := by
  have h1 : ∀ c ∈ chs zD, digB c = true := by decide +kernel
  have h2 : ∀ c ∈ List.range 58, digB c = true → c ∈ chs zD := by decide +kernel
  exact ⟨h1 c, fun h => h2 c (by unfold digB at h; simp at h ⊢; omega) h⟩
theorem zD_index (c : Nat) (h : digB c = true) : opSIndex [.str "0123456789", .str (chr1 c)] = some (.int ((c : Int) - 48)) := by
  have h2 : ∀ c ∈ List.range 58, digB c = true → Builtin.Str.occurrences zD (chr1 c) 0 zD.length 1 = [c - 48] := by decide +kernel
  have h3 : 48 ≤ c ∧ c ≤ 57 := by unfold digB at h; simpa using h
  have e := h2 c (by simp; omega) h
  show (match Builtin.Str.occurrences zD (chr1 c) 0 zD.length 1 with
    | i :: _ => some (PyData.int (i : Nat))
    | [] => none) = _
  rw [e]
  simp only [Option.some.injEq, PyData.int.injEq]
  omega
abbrev dv (l : List Nat) : Nat := NumText.digitsVal l
theorem dv_snoc (l : List Nat) (c : Nat) : dv (l ++ [c]) = dv l * 10 + (c - 48) := by
  unfold dv NumText.digitsVal
  rw [List.foldl_append]
  rfl
theorem snoc_cases {α : Type} (l : List α) : l = [] ∨ ∃ m c, l = m ++ [c] := by
  rcases List.eq_nil_or_concat l with h | ⟨m, c, h⟩
  · exact .inl h
  · exact .inr ⟨m, c, by simpa using h⟩
/-- no leading zero -/
theorem num_back : ∀ (n : Nat) (l : List Nat), l.length = n → l ≠ [] → l.all digB = true → (l.head? ≠ some 48 ∨ l = [48]) → TL.numL (dv l) = l
  | 0, l, hn, hne, _, _ => absurd (List.length_eq_zero_iff.mp hn) hne
  | n + 1, l, hn, hne, hd, hz => by
    rcases snoc_cases l with h | ⟨m, c, rfl⟩
    · exact absurd h hne
    rw [List.all_append] at hd
    simp only [Bool.and_eq_true, List.all_cons, List.all_nil, and_true] at hd
    have hc : 48 ≤ c ∧ c ≤ 57 := by have := hd.2; unfold digB at this; simpa using this
    rw [dv_snoc]
    by_cases hm : m = []
    · subst hm
      show TL.numL (0 * 10 + (c - 48)) = [c]
      rw [TL.numL_lt (by omega)]
      congr 1; omega
    · have hz' : m.head? ≠ some 48 := by
        rcases hz with h | h
        · cases m with
          | nil => exact absurd rfl hm
          | cons x m => simpa using h
        · cases m with
          | nil => exact absurd rfl hm
          | cons x m => simp at h
      have ih := num_back n m (by simpa using hn) hm hd.1 (.inl hz')
      have hpos : 0 < dv m := by
        rcases Nat.eq_zero_or_pos (dv m) with z | z
        · rw [z, TL.numL_lt (by omega)] at ih
          rw [← ih] at hz'
          exact absurd rfl hz'
        · exact z
      rw [TL.numL_step (by omega)]
      rw [show (dv m * 10 + (c - 48)) / 10 = dv m by omega, show 48 + (dv m * 10 + (c - 48)) % 10 = c by omega, ih]
theorem numL_head : ∀ (n : Nat), 0 < n → (TL.numL n).head? ≠ some 48 := by
  intro n
  induction n using Nat.strongRecOn with
  | _ n ih =>
    intro h
    by_cases h10 : n < 10
    · rw [TL.numL_lt h10]
      simp; omega
    · rw [TL.numL_step (by omega)]
      have := ih (n / 10) (by omega) (by omega)
      have hne := TL.numL_ne (n / 10)
      cases e : TL.numL (n / 10) with
      | nil => exact absurd e hne
      | cons x r => rw [e] at this; simpa using this
theorem numL_zero : TL.numL 0 = [48] := TL.numL_lt (by omega)
def negB (cs : List Nat) : Bool := decide (cs.take 1 = [45])
def digs (cs : List Nat) : List Nat := if negB cs = true then cs.drop 1 else cs
def canonB (cs : List Nat) : Bool := decide (1 ≤ (digs cs).length) && (decide ((digs cs).length ≤ 9) && ((digs cs).all digB && (if (digs cs).head? = some 48 then decide (cs = [48]) else true)))
def numI (cs : List Nat) : Int := if negB cs = true then -((dv (digs cs) : Nat) : Int) else ((dv (digs cs) : Nat) : Int)
theorem neg_cons {cs : List Nat} (h : negB cs = true) : cs = 45 :: digs cs := by
  unfold digs
  rw [if_pos h]
  unfold negB at h
  have h := of_decide_eq_true h
  cases cs with
  | nil => simp at h
  | cons c r => simp at h; simp [h]
theorem digs_neg {l : List Nat} : negB (45 :: l) = true ∧ digs (45 :: l) = l := by
  have : negB (45 :: l) = true := by unfold negB; simp
  exact ⟨this, by unfold digs; rw [if_pos this]; rfl⟩
theorem digs_pos {l : List Nat} (h : l.all digB = true) : negB l = false ∧ digs l = l := by
  have : negB l = false := by
    unfold negB
    refine decide_eq_false fun e => ?_
    cases l with
    | nil => simp at e
    | cons c r =>
      simp at e
      subst e
      simp [digB] at h
  exact ⟨this, by unfold digs; rw [if_neg (by simp [this])]⟩
/-- what an integer's text is -/
theorem int_text (i : Int) : chs (iStr i) = if i < 0 then 45 :: TL.numL i.natAbs else TL.numL i.natAbs := by
  by_cases h : i < 0
  · rw [if_pos h]
    have : i = -((i.natAbs : Nat) : Int) := by omega
    have e := neg_text i.natAbs (by omega)
    rw [← this] at e
    exact e
  · rw [if_neg h]
    have : i = ((i.natAbs : Nat) : Int) := by omega
    have e := nat_text i.natAbs
    rw [← this] at e
    exact e
theorem numL_all (n : Nat) : (TL.numL n).all digB = true := by
  rw [List.all_eq_true]
  intro c hc
  have := TL.numL_digits n c hc
  unfold digB
  simpa using this
theorem int_canon {i : Int} (h : IsInt i) : canonB (chs (iStr i)) = true ∧ numI (chs (iStr i)) = i := by
  have hl : (TL.numL i.natAbs).length ≤ 9 := TL.numL_len (by decide) (by unfold IsInt at h; omega)
  have hn : 1 ≤ (TL.numL i.natAbs).length := by
    have := TL.numL_ne i.natAbs
    cases e : TL.numL i.natAbs with
    | nil => exact absurd e this
    | cons x r => simp
  rw [int_text]
  by_cases h0 : i < 0
  · rw [if_pos h0]
    obtain ⟨k1, k2⟩ := digs_neg (l := TL.numL i.natAbs)
    unfold canonB numI
    rw [k1, k2, numL_all]
    have := numL_head i.natAbs (by omega)
    rw [if_neg this]
    simp only [hl, hn, decide_true, Bool.and_true, if_true]
    refine ⟨trivial, ?_⟩
    show -((NumText.digitsVal (TL.numL i.natAbs) : Nat) : Int) = i
    rw [TL.numL_val]; omega
  · rw [if_neg h0]
    obtain ⟨k1, k2⟩ := digs_pos (numL_all i.natAbs)
    unfold canonB numI
    rw [k1, k2, numL_all]
    refine ⟨?_, ?_⟩
    · simp only [hl, hn, decide_true, Bool.true_and]
      by_cases hz : i.natAbs = 0
      · rw [hz, numL_zero]; rfl
      · rw [if_neg (numL_head i.natAbs (by omega))]
    · rw [if_neg Bool.false_ne_true]
      show ((NumText.digitsVal (TL.numL i.natAbs) : Nat) : Int) = i
      rw [TL.numL_val]; omega
theorem dv_lt : ∀ (n : Nat) (l : List Nat), l.length = n → l.all digB = true → dv l < 10 ^ n
  | 0, l, hn, _ => by
    have := List.length_eq_zero_iff.mp hn
    subst this
    decide
  | n + 1, l, hn, hd => by
    rcases snoc_cases l with h | ⟨m, c, rfl⟩
    · rw [h] at hn; simp at hn
    rw [List.all_append] at hd
    simp only [Bool.and_eq_true, List.all_cons, List.all_nil, and_true] at hd
    have hc : 48 ≤ c ∧ c ≤ 57 := by have := hd.2; unfold digB at this; simpa using this
    rw [dv_snoc, Nat.pow_succ]
    have := dv_lt n m (by simpa using hn) hd.1
    omega
/-- the text of a canonical text's number is the text -/
theorem canon_text (s : Str) (h1 : (digs (chs s)).length ≤ 9) (h0 : digs (chs s) ≠ []) (hd : (digs (chs s)).all digB = true) : (iStr (numI (chs s)) = s) ↔ canonB (chs s) = true := by
  have hl : 1 ≤ (digs (chs s)).length := by
    cases e : digs (chs s) with
    | nil => exact absurd e h0
    | cons x r => simp
  have hs : ∀ t : Str, t = s ↔ chs t = chs s := fun t => ⟨fun h => by rw [h], str_ext⟩
  rw [hs, int_text]
  unfold canonB numI
  cases hn : negB (chs s) with
  | true =>
    have ec := neg_cons hn
    generalize digs (chs s) = l at *
    simp only [hl, h1, hd, decide_true, Bool.true_and, if_true]
    have ne1 : ¬ chs s = [48] := fun z => by rw [z] at ec; simp at ec
    by_cases hh : l.head? = some 48
    · rw [if_pos hh]
      simp only [ne1, decide_false, Bool.false_eq_true, iff_false]
      intro e
      by_cases hz : dv l = 0
      · rw [hz] at e
        rw [if_neg (by omega), show (-((0 : Nat) : Int)).natAbs = 0 from rfl, numL_zero] at e
        exact ne1 e.symm
      · rw [if_pos (by omega)] at e
        rw [ec] at e
        simp only [List.cons.injEq, true_and] at e
        rw [show (-((dv l : Nat) : Int)).natAbs = dv l by omega] at e
        have := numL_head (dv l) (by omega)
        rw [e] at this
        exact this hh
    · rw [if_neg hh]
      have nb := num_back _ l rfl h0 hd (.inl hh)
      have hz : 0 < dv l := by
        rcases Nat.eq_zero_or_pos (dv l) with z | z
        · rw [z, numL_zero] at nb
          rw [← nb] at hh
          exact absurd rfl hh
        · exact z
      rw [if_pos (by omega), show (-((dv l : Nat) : Int)).natAbs = dv l by omega, nb]
      simp only [iff_true]
      exact ec.symm
  | false =>
    have ec : digs (chs s) = chs s := by unfold digs; rw [if_neg (by simp [hn])]
    rw [ec] at h1 h0 hd hl ⊢
    generalize chs s = l at *
    simp only [hl, h1, hd, decide_true, Bool.true_and, Bool.false_eq_true, if_false]
    rw [if_neg (by omega), show (((dv l : Nat) : Int)).natAbs = dv l by omega]
    by_cases hh : l.head? = some 48
    · rw [if_pos hh]
      by_cases e48 : l = [48]
      · simp only [e48, decide_true, iff_true]
        exact num_back _ [48] rfl (by simp) (by decide) (.inr rfl)
      · simp only [e48, decide_false, Bool.false_eq_true, iff_false]
        intro e
        by_cases hz : dv l = 0
        · rw [hz, numL_zero] at e
          exact e48 e.symm
        · have := numL_head (dv l) (by omega)
          rw [e] at this
          exact this hh
    · rw [if_neg hh]
      have nb := num_back _ l rfl h0 hd (.inl hh)
      rw [nb]
      simp
end CC

namespace CC
open PySem PySem.Spec L2 LT
/-! values of columns -/
def IsKind (k : Str) : Prop := k = "int" ∨ k = "text"
def IsVal (k : Str) (b : Bool) (d : D) : Prop := (b = true ∧ d = .none) ∨ (k = "int" ∧ ∃ i, d = .int i ∧ IsInt i) ∨ (k = "text" ∧ ∃ s, d = .str s ∧ IsText s)
theorem iStr_signs {i : Int} (h : IsInt i) : (iStr i).length ≤ 10 ∧ ∀ c ∈ chs (iStr i), Sign c := by
  have hl : (TL.numL i.natAbs).length ≤ 9 := TL.numL_len (by decide) (by unfold IsInt at h; omega)
  have hd : ∀ c ∈ TL.numL i.natAbs, Sign c := fun c hc => by
    have := TL.numL_digits _ c hc
    unfold Sign; omega
  rw [len_chs, int_text]
  split
  · refine ⟨by simp; omega, fun c hc => ?_⟩
    rcases List.mem_cons.mp hc with e | e
    · subst e; decide
    · exact hd c e
  · exact ⟨by omega, hd⟩
theorem one_len (c : String) (h : c.length ≤ 1) : (Str.ofString c).length ≤ 1 := by
  rw [Str.ofString_eq_byList]
  unfold Str.ofStringByList
  simpa [Str.length, String.length] using h
theorem pre_text {m : Str} {i : Int} (hm : m.length ≤ 1) (hs : ∀ c ∈ chs m, Sign c) (hi : IsInt i) : IsText (m ++ iStr i) := by
  obtain ⟨h1, h2⟩ := iStr_signs hi
  refine ⟨by rw [len_append]; omega, fun c hc => ?_⟩
  rw [chs_append, List.mem_append] at hc
  rcases hc with z | z
  · exact hs c z
  · exact h2 c z
theorem value_tail {k : Str} (hk : IsKind k) (b : Bool) {t : T} (ht : IsTape t) : ∃ d t', r__law_value_2 ⟨[.own t, .own (lf (.str k)), .own (lf (.bool b))], [], [0]⟩ = some (.ok (.ret (lf d)), ⟨[.own t', .own (lf (.str k)), .own (lf (.bool b))], [], [0]⟩) ∧ IsTape t' ∧ IsVal k b d := by
  have n0 := ht.node
  rcases hk with rfl | rfl
  · obtain ⟨i, t1, e1, ht1, hi⟩ := integer_spec ht
    exact ⟨.int i, t1, by simp [n0, e1], ht1, .inr (.inl ⟨rfl, i, rfl, hi⟩)⟩
  · obtain ⟨r, t1, e1, ht1, a1, b1⟩ := take_spec ht 3 (by omega) (by omega)
    have n1 := ht1.node
    by_cases h : r = 0
    · subst h
      obtain ⟨r2, t2, e2, ht2, a2, b2⟩ := take_spec ht1 4 (by omega) (by omega)
      have n2 := ht2.node
      obtain ⟨i, t3, e3, ht3, hi⟩ := integer_spec ht2
      have hb : i.natAbs < 1000000000000 := by unfold IsInt at hi; omega
      have li := (iStr_signs hi).1
      have fin : ∀ m : String, m.length ≤ 1 → (Str.ofString m).length + (iStr i).length ≤ 16777216 := fun m h => by
        have := one_len m h
        omega
      have k0 := fin "" (by decide)
      have k1 := fin "0" (by decide)
      have k2 := fin "-" (by decide)
      have k3 := fin "+" (by decide)
      obtain h | h | h | h : r2 = 0 ∨ r2 = 1 ∨ r2 = 2 ∨ r2 = 3 := by omega
      all_goals subst h
      · exact ⟨.str ("" ++ iStr i), t3, by simp [n0, n1, n2, e1, e2, e3, hb, k0], ht3, .inr (.inr ⟨rfl, _, rfl, pre_text (one_len _ (by decide)) (by decide +kernel) hi⟩)⟩
      · exact ⟨.str ("0" ++ iStr i), t3, by simp [n0, n1, n2, e1, e2, e3, hb, k1], ht3, .inr (.inr ⟨rfl, _, rfl, pre_text (one_len _ (by decide)) (by decide +kernel) hi⟩)⟩
      · exact ⟨.str ("-" ++ iStr i), t3, by simp [n0, n1, n2, e1, e2, e3, hb, k2], ht3, .inr (.inr ⟨rfl, _, rfl, pre_text (one_len _ (by decide)) (by decide +kernel) hi⟩)⟩
      · exact ⟨.str ("+" ++ iStr i), t3, by simp [n0, n1, n2, e1, e2, e3, hb, k3], ht3, .inr (.inr ⟨rfl, _, rfl, pre_text (one_len _ (by decide)) (by decide +kernel) hi⟩)⟩
    · obtain ⟨s, t2, e2, ht2, hs⟩ := text_spec ht1
      exact ⟨.str s, t2, by simp [n0, n1, e1, e2, h], ht2, .inr (.inr ⟨rfl, s, rfl, hs⟩)⟩
theorem value_spec {k : Str} (hk : IsKind k) (b : Bool) {t : T} (ht : IsTape t) : ∃ d t', F__law_value [t, lf (.str k), lf (.bool b)] = some (.ok (lf d), [t']) ∧ IsTape t' ∧ IsVal k b d := by
  have n0 := ht.node
  cases b with
  | false =>
    obtain ⟨d, t1, e1, ht1, hd⟩ := value_tail hk false ht
    exact ⟨d, t1, by simp [F__law_value, mkF, d__law_value, e1, -r__law_value_2], ht1, hd⟩
  | true =>
    obtain ⟨r, t1, e1, ht1, a1, b1⟩ := take_spec ht 4 (by omega) (by omega)
    have n1 := ht1.node
    by_cases h : r = 0
    · subst h
      exact ⟨.none, t1, by simp [F__law_value, mkF, d__law_value, n0, e1, -r__law_value_2], ht1, .inl ⟨rfl, rfl⟩⟩
    · obtain ⟨d, t2, e2, ht2, hd⟩ := value_tail hk true ht1
      exact ⟨d, t2, by simp [F__law_value, mkF, d__law_value, n0, e1, h, e2, -r__law_value_2], ht2, hd⟩
/-! names -/
abbrev zL : Str := "abcdefghijklmnopqrstuvwxyz"
abbrev zS : Str := "0123456789_"
def letB (c : Nat) : Bool := decide (97 ≤ c) && decide (c ≤ 122)
def nameB (c : Nat) : Bool := letB c || (digB c || decide (c = 95))
theorem zL_len : (Str.ofString "abcdefghijklmnopqrstuvwxyz").length = 26 := by decide +kernel
theorem zS_len : (Str.ofString "0123456789_").length = 11 := by decide +kernel
theorem zL_ok : ∀ c ∈ chs zL, letB c = true := by decide +kernel
theorem zLS_ok : ∀ c ∈ chs (zL ++ zS), nameB c = true := by decide +kernel
structure IsName (s : Str) : Prop where
  pos : 1 ≤ s.length
  len : s.length ≤ 20
  head : ∃ c r, chs s = c :: r ∧ letB c = true
  sgn : ∀ c ∈ chs s, nameB c = true
/-- texts used so far -/
def strsT (us : List Str) : T := listT (us.map PyData.str)
@[simp] theorem varT_strsT (i : Nat) (p : List D) (ρ : Fr) (us : List Str) : varT i p ρ (strsT us) = some (.ok (.ptr i p), ρ) := rfl
@[simp] theorem strsT_node (us : List Str) : isNodeB (strsT us) = true := rfl
@[simp] theorem strsT_toD (us : List Str) : TR.toD (strsT us) = some (.list (us.map PyData.str)) := listT_toD _
@[simp] theorem strsT_append (us : List Str) (s : Str) : appendT (strsT us) (.leaf (some (.str s))) = if us.length < sizeLine then some (strsT (us ++ [s])) else none := by
  unfold strsT
  rw [appendT_lf, List.length_map, List.map_append, List.map_cons, List.map_nil]
@[simp] theorem strsT_lst (us : List Str) : isLstT (strsT us) = true := rfl
theorem eqv_strs (a b : Str) : PyData.eqv (.str a) (.str b) = decide (a = b) := eqv_str a b
theorem memb_strs (s : Str) (us : List Str) : memb (.str s) (us.map PyData.str) = decide (s ∈ us) := by
  unfold memb
  rw [List.any_map]
  induction us with
  | nil => rfl
  | cons u us ih =>
    rw [List.any_cons, ih]
    by_cases h : u = s
    · subst h; simp
    · have : ¬ s = u := fun z => h z.symm
      simp [h, this]
theorem nds_strs (us : List Str) : nds (us.map PyData.str) = true := by
  induction us with
  | nil => rfl
  | cons u us ih => rw [List.map_cons, nds, ih]; rfl
@[simp] theorem opIn_strs (neg : Bool) (s : Str) (us : List Str) : opIn neg [.str s, .list (us.map PyData.str)] = some (.bool (neg ^^ decide (s ∈ us))) := by
  show (if deepOk (.str s) = true ∧ nds (us.map PyData.str) = true then some (PyData.bool (neg ^^ memb (.str s) (us.map PyData.str))) else none) = _
  rw [if_pos ⟨by simp, nds_strs us⟩, memb_strs]
/-- the name behind the looks for a free one -/
def freeNm (us : List Str) : List Int → Str → Str
  | [], s => s
  | k :: ks, s => freeNm us ks (if s ∈ us then chr1 ((97 + k).toNat) ++ cutS s none (some 19) else s)
theorem zL_ix (k : Int) (h0 : 0 ≤ k) (h1 : k < 26) : dIx (.str zL) (.int k) = some (.str (chr1 ((97 + k).toNat))) := by
  obtain ⟨n, rfl⟩ := Int.eq_ofNat_of_zero_le h0
  have hk : n < (chs zL).length := by rw [← len_chs, zL_len]; omega
  have e : ixN zL.cps.toList.length (n : Int) = some n := by
    unfold ixN
    have h2 : n < zL.cps.size := by simpa [chs] using hk
    simp [h2]
  have hx : (chs zL)[n]? = some (97 + n) := by
    have : ∀ n ∈ List.range 26, (chs zL)[n]? = some (97 + n) := by decide +kernel
    exact this n (by simp; omega)
  show (if zL.length ≤ sizeLine then Option.map (fun c => PyData.str { cps := #[c] }) ((ixN zL.cps.toList.length (n : Int)).bind fun j => zL.cps.toList[j]?) else none) = _
  rw [if_pos (by rw [sizeLine_eq, zL_len]; decide), e]
  show Option.map _ ((chs zL)[n]?) = _
  rw [hx, show (97 + (n : Int)).toNat = 97 + n by omega]
  rfl
theorem sub_len {α : Type} [DecidableEq α] : ∀ {l m : List α}, l.Nodup → (∀ x ∈ l, x ∈ m) → l.length ≤ m.length
  | [], m, _, _ => Nat.zero_le _
  | x :: l, m, hn, hs => by
    rw [List.nodup_cons] at hn
    have h1 : x ∈ m := hs x (by simp)
    have := sub_len (l := l) (m := m.erase x) hn.2 (fun y hy => by
      have hne : y ≠ x := fun z => hn.1 (z ▸ hy)
      rw [List.mem_erase_of_ne hne]
      exact hs y (by simp [hy]))
    rw [List.length_erase_of_mem h1] at this
    have : 0 < m.length := List.length_pos_of_mem h1
    simp; omega
theorem free_out (us : List Str) : ∀ (ks : List Int) (s : Str), s ∉ us → freeNm us ks s = s
  | [], s, _ => rfl
  | k :: ks, s, h => by rw [freeNm, if_neg h, free_out us ks s h]
theorem free_in (us : List Str) : ∀ (ks : List Int) (s : Str), freeNm us ks s ∈ us → ∀ k ∈ ks, ∃ x ∈ us, (chs x).head? = some ((97 + k).toNat)
  | [], s, _, k, hk => by simp at hk
  | k0 :: ks, s, h, k, hk => by
    rw [freeNm] at h
    by_cases hs : s ∈ us
    · rw [if_pos hs] at h
      rcases List.mem_cons.mp hk with e | e
      · subst e
        by_cases h2 : (chr1 ((97 + k).toNat) ++ cutS s none (some 19)) ∈ us
        · exact ⟨_, h2, by rw [chs_append, chs_chr]; rfl⟩
        · rw [free_out us ks _ h2] at h
          exact absurd h h2
      · exact free_in us ks _ h k e
    · rw [if_neg hs, free_out us ks s hs] at h
      exact absurd h hs
def ks26 : List Int := (List.range 26).map fun (i : Nat) => (i : Int)
theorem range26 : rangeD 0 26 = ks26.map PyData.int := by
  unfold rangeD ks26
  rw [List.map_map]
  simp
theorem free_new (us : List Str) (h : us.length ≤ 24) (s : Str) : freeNm us ks26 s ∉ us := fun hm => by
  have := free_in us ks26 s hm
  have hl := sub_len (l := (List.range 26).map fun i => 97 + i) (m := us.map fun x => ((chs x).head?.getD 0)) (by decide) (fun c hc => by
    obtain ⟨i, hi, rfl⟩ := List.mem_map.mp hc
    obtain ⟨x, hx, e⟩ := this (i : Int) (List.mem_map.mpr ⟨i, hi, rfl⟩)
    refine List.mem_map.mpr ⟨x, hx, ?_⟩
    rw [e]
    show (97 + (i : Int)).toNat = 97 + i
    omega)
  simp at hl
  omega
theorem name_step {s : Str} (h : IsName s) {k : Int} (h0 : 0 ≤ k) (h1 : k < 26) : IsName (chr1 ((97 + k).toNat) ++ cutS s none (some 19)) := by
  have ec : chs (chr1 ((97 + k).toNat) ++ cutS s none (some 19)) = (97 + k).toNat :: (chs s).take 19 := by
    rw [chs_append, chs_chr]
    have := cutS_hi s 19
    rw [show ((19 : Nat) : Int) = 19 from rfl] at this
    rw [this]; rfl
  have hl : letB ((97 + k).toNat) = true := by unfold letB; simp; omega
  refine ⟨?_, ?_, ⟨_, _, ec, hl⟩, fun c hc => ?_⟩
  · rw [len_chs, ec]; simp
  · rw [len_chs, ec]; simp; omega
  · rw [ec] at hc
    rcases List.mem_cons.mp hc with e | e
    · subst e; unfold nameB; rw [hl]; rfl
    · exact h.sgn c (List.mem_of_mem_take e)
theorem free_name (us : List Str) : ∀ (ks : List Int) (s : Str), IsName s → (∀ k ∈ ks, 0 ≤ k ∧ k < 26) → IsName (freeNm us ks s)
  | [], s, h, _ => h
  | k :: ks, s, h, hk => by
    rw [freeNm]
    refine free_name us ks _ ?_ (fun k' h' => hk k' (by simp [h']))
    split
    · exact name_step h (hk k (by simp)).1 (hk k (by simp)).2
    · exact h
theorem ks26_ok : ∀ k ∈ ks26, 0 ≤ k ∧ k < 26 := by
  intro k hk
  obtain ⟨i, hi, rfl⟩ := List.mem_map.mp hk
  simp at hi
  omega
def nmFr (t : T) (us : List Str) (sz : D) (s : Str) : Fr := ⟨[.own t, .own (strsT us), .own (lf (.str zL)), .own (lf (.str (zL ++ zS))), .own (lf sz), .own (lf (.str s)), .emp], [], [0, 1]⟩
theorem name_loop (t : T) (us : List Str) (sz : D) : ∀ (ks : List Int) (s : Str), IsName s → (∀ k ∈ ks, 0 ≤ k ∧ k < 26) → LT.forD (asg1 6) [6] b__law_name_1 (ks.map PyData.int) (nmFr t us sz s) = some (.ok .nx, nmFr t us sz (freeNm us ks s))
  | [], s, _, _ => forD_nil (by simp [nmFr])
  | k :: ks, s, h, hk => by
    obtain ⟨h0, h1⟩ := hk k (by simp)
    have hx := zL_ix k h0 h1
    have hl := h.len
    have hs : s.length ≤ 16777216 := by omega
    have hs2 : (chr1 ((97 + k).toNat)).length + (cutS s none (some 19)).length ≤ 16777216 := by
      have e := cutS_hi s 19
      rw [show ((19 : Nat) : Int) = 19 from rfl] at e
      rw [show (chr1 ((97 + k).toNat)).length = 1 from rfl, len_chs, e, List.length_take]
      omega
    have e : turn (asg1 6) [6] b__law_name_1 (.int k) (nmFr t us sz s) = some (.ok .nx, nmFr t us sz (if s ∈ us then chr1 ((97 + k).toNat) ++ cutS s none (some 19) else s)) := by
      by_cases hm : s ∈ us
      · simp [turn, b__law_name_1, nmFr, hm, hx, hs, hs2, gSlH]
      · simp [turn, b__law_name_1, nmFr, hm]
    rw [List.map_cons, forD_go (by simp [nmFr]) e, freeNm]
    exact name_loop t us sz ks _ (by
      split
      · exact name_step h h0 h1
      · exact h) (fun k' h' => hk k' (by simp [h']))
theorem name_lc (n : Int) (hn : 0 ≤ n) (hn2 : n ≤ 19) (t : T) (us : List Str) (b : SV) (sz : D) (ht : IsTape t) : ∃ (cs : List Nat) (t' : T), lcD (asg1 6) [6] (M.ret true) e__law_name_1 (rangeD 0 n) [] ⟨[.own t, .own (strsT us), .own (lf (.str zL)), .own (lf (.str (zL ++ zS))), .own (lf sz), .emp, .emp], [], [0, 1]⟩ =
    some (.ok (.val (listT (cs.map chD))), ⟨[.own t', .own (strsT us), .own (lf (.str zL)), .own (lf (.str (zL ++ zS))), .own (lf sz), .emp, .emp], [], [0, 1]⟩) ∧ IsTape t' ∧ cs.length = n.toNat ∧ ∀ c ∈ cs, nameB c = true := by
  obtain ⟨xs, ρ', e, ⟨t', ht', rfl⟩, al⟩ := lc_invD (asg := asg1 6) (vs := [6]) (fc := M.ret true) (fe := e__law_name_1) (fun ρ => ∃ t, IsTape t ∧ ρ = ⟨[.own t, .own (strsT us), .own (lf (.str zL)), .own (lf (.str (zL ++ zS))), .own (lf sz), .emp, .emp], [], [0, 1]⟩) (fun _ x => ∃ c, x = chD c ∧ nameB c = true) (rangeD 0 n) _ (by rw [rangeD_len n hn, sizeLine_eq]; omega) ⟨t, ht, rfl⟩ (by
    rintro d _ ρ ⟨t, ht, rfl⟩
    obtain ⟨r2, t1, e1, ht1, a2, b2⟩ := take_spec ht 37 (by omega) (by omega)
    have hl2 : (zL ++ zS).length = 37 := by rw [len_append, zL_len, zS_len]
    obtain ⟨c, hc, hm⟩ := dIx_str (z := zL ++ zS) (r := r2) (by rw [hl2, sizeLine_eq]; omega) a2 (by rw [hl2]; exact b2)
    exact ⟨chD c, _, by simp [lturn, e__law_name_1, ht.node, e1, hc, chD], ⟨t1, ht1, rfl⟩, c, rfl, zLS_ok c hm⟩)
  obtain ⟨cs, rfl, hl, hcs⟩ := all2_pick chD (fun c => nameB c = true) al (fun _ _ h => h)
  exact ⟨cs, t', e, ht', by rw [hl, rangeD_len n hn], hcs⟩
/-- a size of a name drawn -/
theorem name_rest (sz : Int) (h0 : 0 ≤ sz) (h1 : sz ≤ 19) {t : T} (ht : IsTape t) (us : List Str) (hu : us.length ≤ 1000) : ∃ s t' ρ', r__law_name_2 ⟨[.own t, .own (strsT us), .own (lf (.str zL)), .own (lf (.str (zL ++ zS))), .own (lf (.int sz)), .emp, .emp], [], [0, 1]⟩ = some (.ok (.ret (lf (.str s))), ⟨.own t' :: .own (strsT (us ++ [s])) :: ρ', [], [0, 1]⟩) ∧ IsTape t' ∧ IsName s ∧ (us.length ≤ 24 → s ∉ us) := by
  have n0 := ht.node
  obtain ⟨r, t1, e1, ht1, a1, b1⟩ := take_spec ht 26 (by omega) (by omega)
  have n1 := ht1.node
  have hx := zL_ix r a1 b1
  obtain ⟨cs, t2, e2, ht2, hn, hcs⟩ := name_lc sz h0 h1 t1 us .emp (.int sz) ht1
  have hr1 : (-4611686018427387904 : Int) ≤ sz := by omega
  have hr2 : sz < (4611686018427387904 : Int) := by omega
  have hj := opJoin_chars cs (by omega)
  have hl2 : (chr1 ((97 + r).toNat)).length + (⟨cs.toArray⟩ : Str).length ≤ 16777216 := by
    rw [show (chr1 ((97 + r).toNat)).length = 1 from rfl, len_chs, chs_of]; omega
  have ec : chs (chr1 ((97 + r).toNat) ++ ⟨cs.toArray⟩) = (97 + r).toNat :: cs := by rw [chs_append, chs_chr, chs_of]; rfl
  have hl : letB ((97 + r).toNat) = true := by unfold letB; simp; omega
  have nm : IsName (chr1 ((97 + r).toNat) ++ ⟨cs.toArray⟩) := by
    refine ⟨by rw [len_chs, ec]; simp, by rw [len_chs, ec]; simp; omega, ⟨_, _, ec, hl⟩, fun c hc => ?_⟩
    rw [ec] at hc
    rcases List.mem_cons.mp hc with e | e
    · subst e; unfold nameB; rw [hl]; rfl
    · exact hcs c e
  have e3 := name_loop t2 us (.int sz) ks26 _ nm ks26_ok
  rw [← range26] at e3
  simp only [nmFr] at e3
  have hu2 : us.length < 16777216 := by omega
  exact ⟨freeNm us ks26 (chr1 ((97 + r).toNat) ++ ⟨cs.toArray⟩), t2, _, by simp [n0, e1, hx, hr1, hr2, e2, hj, hl2, e3, hu2]; rfl, ht2, free_name us ks26 _ nm ks26_ok, fun h => free_new us h _⟩
theorem name_spec {t : T} (ht : IsTape t) (us : List Str) (hu : us.length ≤ 1000) : ∃ s t', F__law_name [t, strsT us] = some (.ok (lf (.str s)), [t', strsT (us ++ [s])]) ∧ IsTape t' ∧ IsName s ∧ (us.length ≤ 24 → s ∉ us) := by
  obtain ⟨r1, t1, e1, ht1, a1, b1⟩ := take_spec ht 4 (by omega) (by omega)
  obtain ⟨r2, t2, e2, ht2, a2, b2⟩ := take_spec ht1 9 (by omega) (by omega)
  have n0 := ht.node
  have n1 := ht1.node
  by_cases h : r2 = 4
  · subst h
    obtain ⟨s, t3, ρ', e3, ht3, hs, hs2⟩ := name_rest 19 (by omega) (by omega) ht2 us hu
    exact ⟨s, t3, by simp [F__law_name, mkF, d__law_name, zL_len, zS_len, n0, n1, e1, e2, e3, -r__law_name_2], ht3, hs, hs2⟩
  · obtain ⟨s, t3, ρ', e3, ht3, hs, hs2⟩ := name_rest r1 (by omega) (by omega) ht2 us hu
    exact ⟨s, t3, by simp [F__law_name, mkF, d__law_name, zL_len, zS_len, n0, n1, e1, e2, e3, h, -r__law_name_2], ht3, hs, hs2⟩
end CC

namespace CC
open PySem PySem.Spec L2 LT
/-! columns -/
structure Col where
  name : Str
  kind : Str
  nul : Bool
def Col.d (c : Col) : D := .tuple [.str c.name, .str c.kind, .bool c.nul]
structure IsCol (c : Col) : Prop where
  name : IsName c.name
  kind : IsKind c.kind
theorem kind_take {r : Int} (h0 : 0 ≤ r) (h1 : r < 2) : ∃ k : Str, dIx (.list [.str "int", .str "text"]) (.int r) = some (.str k) ∧ IsKind k := by
  obtain h | h : r = 0 ∨ r = 1 := by omega
  · subst h; exact ⟨"int", by simp, .inl rfl⟩
  · subst h; exact ⟨"text", by simp, .inr rfl⟩
def colFr (t : T) (us : List Str) (n : D) (cs : List Col) : Fr := ⟨[.own t, .own (strsT us), .own (lf n), .own (lf (.list [.str "int", .str "text"])), .own (listT (cs.map Col.d)), .emp], [], [0, 1]⟩
/-- what is drawn for one column more -/
def ColsOk (us : List Str) (us' : List Str) (cs : List Col) : Prop := us' = us ++ cs.map (·.name) ∧ (∀ c ∈ cs, IsCol c) ∧ (us'.length ≤ 25 → (cs.map (·.name)).Nodup ∧ ∀ c ∈ cs, c.name ∉ us)
theorem ColsOk.snoc {us us' : List Str} {cs : List Col} {c : Col} (h : ColsOk us us' cs) (hc : IsCol c) (hn : us'.length ≤ 24 → c.name ∉ us') : ColsOk us (us' ++ [c.name]) (cs ++ [c]) := by
  obtain ⟨h1, h2, h3⟩ := h
  refine ⟨by rw [h1]; simp, fun x hx => ?_, fun hl => ?_⟩
  · rcases List.mem_append.mp hx with z | z
    · exact h2 x z
    · rw [List.mem_singleton.mp z]; exact hc
  · have hl' : us'.length ≤ 24 := by simp at hl; omega
    obtain ⟨k1, k2⟩ := h3 (by omega)
    have hm := hn hl'
    rw [h1, List.mem_append, not_or] at hm
    refine ⟨?_, fun x hx => ?_⟩
    · rw [List.map_append, List.nodup_append]
      refine ⟨k1, by simp, fun a ha b hb => ?_⟩
      simp at hb
      subst hb
      intro e
      subst e
      exact hm.2 ha
    · rcases List.mem_append.mp hx with z | z
      · exact k2 x z
      · rw [List.mem_singleton.mp z]; exact hm.1
theorem columns_loop (us : List Str) (n : D) : ∀ (ds : List D) (t : T) (us' : List Str) (cs : List Col), IsTape t → ColsOk us us' cs → us'.length + ds.length ≤ 1000 → cs.length + ds.length ≤ 1000 →
    ∃ t' us'' cs', LT.forD (asg1 5) [5] b__law_columns_1 ds (colFr t us' n cs) = some (.ok .nx, colFr t' us'' n (cs ++ cs')) ∧ IsTape t' ∧ ColsOk us us'' (cs ++ cs') ∧ cs'.length = ds.length
  | [], t, us', cs, ht, hc, _, _ => ⟨t, us', [], by rw [List.append_nil]; exact forD_nil (by simp [colFr]), ht, by simpa using hc, rfl⟩
  | d :: ds, t, us', cs, ht, hc, hl, hl2 => by
    rw [List.length_cons] at hl hl2
    obtain ⟨s, t1, e1, ht1, hs, hs2⟩ := name_spec ht us' (by omega)
    obtain ⟨r2, t2, e2, ht2, a2, b2⟩ := take_spec ht1 2 (by omega) (by omega)
    obtain ⟨r3, t3, e3, ht3, a3, b3⟩ := take_spec ht2 2 (by omega) (by omega)
    obtain ⟨k, hk, ik⟩ := kind_take a2 b2
    have n0 := ht.node
    have n1 := ht1.node
    have n2 := ht2.node
    have hcs : cs.length < 16777216 := by omega
    have ok : ColsOk us (us' ++ [s]) (cs ++ [⟨s, k, decide (r3 = 1)⟩]) := ColsOk.snoc (c := ⟨s, k, decide (r3 = 1)⟩) hc ⟨hs, ik⟩ hs2
    obtain ⟨t', us'', cs', e, ht', hc', hn⟩ := columns_loop us n ds t3 _ _ ht3 ok (by simp; omega) (by simp; omega)
    refine ⟨t', us'', ⟨s, k, decide (r3 = 1)⟩ :: cs', ?_, ht', by simpa using hc', by simp [hn]⟩
    have tn : turn (asg1 5) [5] b__law_columns_1 d (colFr t us' n cs) = some (.ok .nx, colFr t3 (us' ++ [s]) n (cs ++ [⟨s, k, decide (r3 = 1)⟩])) := by
      simp [turn, b__law_columns_1, colFr, n0, n1, n2, e1, e2, e3, hk, hcs, Col.d]
    rw [forD_go (by simp [colFr]) tn, e]
    simp
theorem columns_spec {t : T} (ht : IsTape t) (us : List Str) (hu : us.length ≤ 500) (n : Int) (h0 : 0 ≤ n) (h1 : n ≤ 100) : ∃ (cs : List Col) (t' : T) (us' : List Str), F__law_columns [t, strsT us, lf (.int n)] = some (.ok (listT (cs.map Col.d)), [t', strsT us']) ∧ IsTape t' ∧ ColsOk us us' cs ∧ cs.length = n.toNat + 1 ∧ (∃ c r, cs = c :: r ∧ c.nul = false) := by
  obtain ⟨s, t1, e1, ht1, hs, hs2⟩ := name_spec ht us (by omega)
  obtain ⟨r2, t2, e2, ht2, a2, b2⟩ := take_spec ht1 2 (by omega) (by omega)
  obtain ⟨k, hk, ik⟩ := kind_take a2 b2
  have n0 := ht.node
  have n1 := ht1.node
  have ok : ColsOk us (us ++ [s]) ([] ++ [⟨s, k, false⟩]) := ColsOk.snoc (us' := us) (cs := []) (c := ⟨s, k, false⟩) ⟨by simp, by simp, by simp⟩ ⟨hs, ik⟩ hs2
  obtain ⟨t', us'', cs', e, ht', hc', hn⟩ := columns_loop us (.int n) (rangeD 0 n) t2 _ _ ht2 ok (by simp [rangeD]; omega) (by simp [rangeD]; omega)
  simp only [colFr, List.nil_append, List.map_cons, List.map_nil, Col.d, List.cons_append] at e
  have hr1 : (-4611686018427387904 : Int) ≤ n := by omega
  have hr2 : n < (4611686018427387904 : Int) := by omega
  refine ⟨⟨s, k, false⟩ :: cs', t', us'', ?_, ht', by simpa using hc', by rw [List.length_cons, hn, rangeD_len n h0], _, _, rfl, rfl⟩
  simp [F__law_columns, mkF, d__law_columns, n0, n1, e1, e2, hk, hr1, hr2, e, Col.d]
/-- the columns as they are handed over -/
abbrev colsD (cs : List Col) : D := .list (cs.map Col.d)
theorem names_eq (cs : List Col) (h : cs.length ≤ 1000) : F__law_names [lf (colsD cs)] = some (.ok (strsT (cs.map (·.name))), []) := by
  have e := lc_mapD (asg := asg1 1) (vs := [1]) (fc := M.ret true) (fe := e__law_names_1) ⟨[.own (lf (colsD cs)), .emp], [], []⟩ (fun d => (dIx d (.int 0)).getD .none) (cs.map Col.d) (by simp; omega) (by
    intro d hd
    obtain ⟨c, _, rfl⟩ := List.mem_map.mp hd
    simp [lturn, e__law_names_1, Col.d])
  have e2 : (cs.map Col.d).map (fun d => (dIx d (.int 0)).getD .none) = (cs.map (·.name)).map PyData.str := by
    rw [List.map_map, List.map_map]
    refine List.map_congr_left fun c _ => ?_
    simp [Col.d]
  rw [e2] at e
  simp [F__law_names, mkF, d__law_names, e, strsT]
theorem all2_map_left {α β γ : Type} {R : β → γ → Prop} {f : α → β} : ∀ {as : List α} {cs : List γ}, All2 R (as.map f) cs → All2 (fun a c => R (f a) c) as cs
  | [], _, .nil => .nil
  | a :: as, _, .cons h t => .cons h (all2_map_left t)
theorem cutD_tail (xs : List D) (h : xs.length ≤ 1000) : cutD xs (some 1) none = xs.tail := by
  rw [← List.drop_one]
  unfold cutD
  rw [show (1 : Int) = ((1 : Nat) : Int) from rfl, HT.sIx_nat, HT.sIx_none]
  rw [List.drop_eq_drop_iff.mpr (show min (min 1 xs.length) xs.length = min 1 xs.length by omega)]
  exact List.take_of_length_le (by simp; omega)
theorem rest_spec {t : T} (ht : IsTape t) (cs : List Col) (hl : cs.length ≤ 1000) (hc : ∀ c ∈ cs, IsKind c.kind) : ∃ (ds : List D) (t' : T), F__law_rest [t, lf (colsD cs)] = some (.ok (lf (.tuple ds)), [t']) ∧ IsTape t' ∧ All2 (fun c d => IsVal c.kind c.nul d) cs.tail ds := by
  have n0 := ht.node
  obtain ⟨xs, ρ', e, ⟨t', ht', rfl⟩, al⟩ := lc_invD (asg := asg1 2) (vs := [2]) (fc := M.ret true) (fe := e__law_rest_1) (fun ρ => ∃ t, IsTape t ∧ ρ = ⟨[.own t, .own (lf (colsD cs)), .emp], [], [0]⟩) (fun x d => ∃ c ∈ cs, x = Col.d c ∧ IsVal c.kind c.nul d) ((cs.map Col.d).tail) _ (by simp; omega) ⟨t, ht, rfl⟩ (by
    rintro d hd ρ ⟨t, ht, rfl⟩
    obtain ⟨c, hm, rfl⟩ := List.mem_map.mp (List.mem_of_mem_tail hd)
    obtain ⟨v, t1, e1, ht1, hv⟩ := value_spec (hc c hm) c.nul ht
    exact ⟨v, _, by simp [lturn, e__law_rest_1, Col.d, ht.node, e1], ⟨t1, ht1, rfl⟩, c, hm, rfl, hv⟩)
  have al' : All2 (fun x d => ∃ c ∈ cs, x = Col.d c ∧ IsVal c.kind c.nul d) (cs.tail.map Col.d) xs := by
    rw [List.map_tail]
    exact al
  have al2 : All2 (fun c d => IsVal c.kind c.nul d) cs.tail xs := (all2_map_left al').imp fun c d ⟨c', _, e, h⟩ => by
    unfold Col.d at e
    simp at e
    obtain ⟨e1, e2, e3⟩ := e
    rw [e2, e3]; exact h
  refine ⟨xs, t', ?_, ht', al2⟩
  have ed := cutD_tail (cs.map Col.d) (by simpa using hl)
  simp [F__law_rest, mkF, d__law_rest, gSlL, ed, e]
end CC

namespace CC
open PySem PySem.Spec L2 LT
/-! conditions -/
structure Cl where
  name : Str
  op : Str
  val : D
def Cl.d (c : Cl) : D := .tuple [.str c.name, .str c.op, c.val]
def opsC : List Str := ["=", "!=", "<", "<=", ">", ">="]
structure IsCl (cs : List Col) (c : Cl) : Prop where
  ex : ∃ col ∈ cs, c.name = col.name ∧ (((c.op = "null" ∨ c.op = "given") ∧ c.val = .none) ∨ (c.op ∈ opsC ∧ IsVal col.kind false c.val))
abbrev altD (a : List Cl) : D := .tuple (a.map Cl.d)
abbrev condD (c : List (List Cl)) : D := .tuple (c.map fun a => altD a)
theorem dIx_map {α : Type} (f : α → D) (xs : List α) {r : Int} (h0 : 0 ≤ r) (h1 : r < xs.length) : ∃ x ∈ xs, dIx (.list (xs.map f)) (.int r) = some (f x) := by
  obtain ⟨k, rfl⟩ := Int.eq_ofNat_of_zero_le h0
  have hk : k < xs.length := by omega
  exact ⟨xs[k], List.getElem_mem hk, dIx_lnat (by rw [List.getElem?_map, List.getElem?_eq_getElem hk]; rfl)⟩
theorem ops_take {r : Int} (h0 : 0 ≤ r) (h1 : r < 8) : ∃ o : Str, dIx (.list [.str "=", .str "!=", .str "<", .str "<=", .str ">", .str ">=", .str "null", .str "given"]) (.int r) = some (.str o) ∧ (o = "null" ∨ o = "given" ∨ (o ∈ opsC ∧ ¬ o = "null" ∧ ¬ o = "given")) := by
  obtain h | h | h | h | h | h | h | h : r = 0 ∨ r = 1 ∨ r = 2 ∨ r = 3 ∨ r = 4 ∨ r = 5 ∨ r = 6 ∨ r = 7 := by omega
  all_goals subst h
  · exact ⟨"=", by simp, .inr (.inr ⟨by simp [opsC], by simp, by simp⟩)⟩
  · exact ⟨"!=", by simp, .inr (.inr ⟨by simp [opsC], by simp, by simp⟩)⟩
  · exact ⟨"<", by simp, .inr (.inr ⟨by simp [opsC], by simp, by simp⟩)⟩
  · exact ⟨"<=", by simp, .inr (.inr ⟨by simp [opsC], by simp, by simp⟩)⟩
  · exact ⟨">", by simp, .inr (.inr ⟨by simp [opsC], by simp, by simp⟩)⟩
  · exact ⟨">=", by simp, .inr (.inr ⟨by simp [opsC], by simp, by simp⟩)⟩
  · exact ⟨"null", by simp, .inl rfl⟩
  · exact ⟨"given", by simp, .inr (.inl rfl)⟩
theorem clause_spec {t : T} (ht : IsTape t) (cs : List Col) (hl : 1 ≤ cs.length) (hl2 : cs.length ≤ 1000) (hc : ∀ c ∈ cs, IsCol c) : ∃ (c : Cl) (t' : T), F__law_clause [t, lf (colsD cs)] = some (.ok (lf c.d), [t']) ∧ IsTape t' ∧ IsCl cs c := by
  obtain ⟨r1, t1, e1, ht1, a1, b1⟩ := take_spec ht cs.length (by omega) (by omega)
  obtain ⟨r2, t2, e2, ht2, a2, b2⟩ := take_spec ht1 8 (by omega) (by omega)
  have n0 := ht.node
  have n1 := ht1.node
  have n2 := ht2.node
  obtain ⟨col, hm, hx⟩ := dIx_map Col.d cs a1 b1
  obtain ⟨o, ho, hk⟩ := ops_take a2 b2
  rcases hk with h | h | ⟨h, h2, h3⟩
  · subst h
    exact ⟨⟨col.name, "null", .none⟩, t2, by simp [F__law_clause, mkF, d__law_clause, n0, n1, e1, e2, hx, ho, Col.d, Cl.d], ht2, ⟨col, hm, rfl, .inl ⟨.inl rfl, rfl⟩⟩⟩
  · subst h
    exact ⟨⟨col.name, "given", .none⟩, t2, by simp [F__law_clause, mkF, d__law_clause, n0, n1, e1, e2, hx, ho, Col.d, Cl.d], ht2, ⟨col, hm, rfl, .inl ⟨.inr rfl, rfl⟩⟩⟩
  · obtain ⟨v, t3, e3, ht3, hv⟩ := value_spec (hc col hm).kind false ht2
    exact ⟨⟨col.name, o, v⟩, t3, by simp [F__law_clause, mkF, d__law_clause, n0, n1, n2, e1, e2, e3, hx, ho, h2, h3, Col.d, Cl.d], ht3, ⟨col, hm, rfl, .inr ⟨h, hv⟩⟩⟩
theorem many_take {r : Int} (h0 : 0 ≤ r) (h1 : r < 5) : (∃ n : Int, dIx (.list [.int 1, .int 2, .int 0, .int 1, .int 4]) (.int r) = some (.int n) ∧ 0 ≤ n ∧ n ≤ 4) ∧ (∃ n : Int, dIx (.list [.int 1, .int 0, .int 2, .int 1, .int 4]) (.int r) = some (.int n) ∧ 0 ≤ n ∧ n ≤ 4) := by
  obtain h | h | h | h | h : r = 0 ∨ r = 1 ∨ r = 2 ∨ r = 3 ∨ r = 4 := by omega
  all_goals subst h
  · exact ⟨⟨1, by simp, by omega, by omega⟩, ⟨1, by simp, by omega, by omega⟩⟩
  · exact ⟨⟨2, by simp, by omega, by omega⟩, ⟨0, by simp, by omega, by omega⟩⟩
  · exact ⟨⟨0, by simp, by omega, by omega⟩, ⟨2, by simp, by omega, by omega⟩⟩
  · exact ⟨⟨1, by simp, by omega, by omega⟩, ⟨1, by simp, by omega, by omega⟩⟩
  · exact ⟨⟨4, by simp, by omega, by omega⟩, ⟨4, by simp, by omega, by omega⟩⟩
def condFr (t : T) (cs : List Col) (x : List (List Cl)) : Fr := ⟨[.own t, .own (lf (colsD cs)), .own (listT (x.map fun a => altD a)), .emp, .emp, .emp], [], [0]⟩
def condIn (t : T) (cs : List Col) (x : List (List Cl)) (a b : D) : Fr := ⟨[.own t, .own (lf (colsD cs)), .own (listT (x.map fun a => altD a)), .own (lf a), .own (lf b), .emp], [some (2, [])], [0]⟩
theorem cond_lc (n : Int) (hn : 0 ≤ n) (hn2 : n ≤ 4) (t : T) (cs : List Col) (hl : 1 ≤ cs.length) (hl2 : cs.length ≤ 1000) (hc : ∀ c ∈ cs, IsCol c) (acc : List (List Cl)) (a b : D) (ht : IsTape t) : ∃ (x : List Cl) (t' : T), lcD (asg1 5) [5] (M.ret true) e__law_condition_1 (rangeD 0 n) [] (condIn t cs acc a b) =
    some (.ok (.val (listT (x.map Cl.d))), condIn t' cs acc a b) ∧ IsTape t' ∧ x.length = n.toNat ∧ ∀ c ∈ x, IsCl cs c := by
  obtain ⟨xs, ρ', e, ⟨t', ht', rfl⟩, al⟩ := lc_invD (asg := asg1 5) (vs := [5]) (fc := M.ret true) (fe := e__law_condition_1) (fun ρ => ∃ t, IsTape t ∧ ρ = condIn t cs acc a b) (fun _ x => ∃ c, x = Cl.d c ∧ IsCl cs c) (rangeD 0 n) _ (by rw [rangeD_len n hn, sizeLine_eq]; omega) ⟨t, ht, rfl⟩ (by
    rintro d _ ρ ⟨t, ht, rfl⟩
    obtain ⟨c, t1, e1, ht1, hc⟩ := clause_spec ht cs hl hl2 hc
    exact ⟨c.d, condIn t1 cs acc a b, by simp [lturn, e__law_condition_1, condIn, ht.node, e1], ⟨t1, ht1, rfl⟩, c, rfl, hc⟩)
  obtain ⟨x, rfl, hl, hcs⟩ := all2_pick Cl.d (IsCl cs) al (fun _ _ h => h)
  exact ⟨x, t', e, ht', by rw [hl, rangeD_len n hn], hcs⟩
structure IsCond (cs : List Col) (x : List (List Cl)) : Prop where
  len : x.length ≤ 4
  alt : ∀ a ∈ x, a.length ≤ 4 ∧ ∀ c ∈ a, IsCl cs c
theorem cond_loop (cs : List Col) (hl : 1 ≤ cs.length) (hl2 : cs.length ≤ 1000) (hc : ∀ c ∈ cs, IsCol c) : ∀ (ds : List D) (t : T) (acc : List (List Cl)), IsTape t → (∀ a ∈ acc, a.length ≤ 4 ∧ ∀ c ∈ a, IsCl cs c) → acc.length + ds.length ≤ 1000 →
    ∃ t' x, LT.forD (asg1 3) [3, 4] b__law_condition_1 ds (condFr t cs acc) = some (.ok .nx, condFr t' cs x) ∧ IsTape t' ∧ (∀ a ∈ x, a.length ≤ 4 ∧ ∀ c ∈ a, IsCl cs c) ∧ x.length = acc.length + ds.length
  | [], t, acc, ht, ha, _ => ⟨t, acc, forD_nil (by simp [condFr]), ht, ha, rfl⟩
  | d :: ds, t, acc, ht, ha, hn => by
    rw [List.length_cons] at hn
    obtain ⟨r, t1, e1, ht1, a1, b1⟩ := take_spec ht 5 (by omega) (by omega)
    obtain ⟨⟨n, hm, h0, h4⟩, _⟩ := many_take a1 b1
    obtain ⟨x, t2, e2, ht2, hx, hcx⟩ := cond_lc n h0 h4 t1 cs hl hl2 hc acc d (.int n) ht1
    have n0 := ht.node
    have hr1 : (-4611686018427387904 : Int) ≤ n := by omega
    have hr2 : n < (4611686018427387904 : Int) := by omega
    have ha2 : acc.length < 16777216 := by omega
    obtain ⟨t', y, e3, ht', hy, hl3⟩ := cond_loop cs hl hl2 hc ds t2 (acc ++ [x]) ht2 (by
      intro a h
      rcases List.mem_append.mp h with z | z
      · exact ha a z
      · rw [List.mem_singleton.mp z]; exact ⟨by omega, hcx⟩) (by simp; omega)
    refine ⟨t', y, ?_, ht', hy, by rw [hl3]; simp; omega⟩
    simp only [condIn] at e2
    have tn : turn (asg1 3) [3, 4] b__law_condition_1 d (condFr t cs acc) = some (.ok .nx, condFr t2 cs (acc ++ [x])) := by
      simp [turn, b__law_condition_1, condFr, n0, e1, hm, hr1, hr2, e2, ha2]
    rw [forD_go (by simp [condFr]) tn, e3]
theorem condition_spec {t : T} (ht : IsTape t) (cs : List Col) (hl : 1 ≤ cs.length) (hl2 : cs.length ≤ 1000) (hc : ∀ c ∈ cs, IsCol c) : ∃ (x : List (List Cl)) (t' : T), F__law_condition [t, lf (colsD cs)] = some (.ok (lf (condD x)), [t']) ∧ IsTape t' ∧ IsCond cs x := by
  obtain ⟨r, t1, e1, ht1, a1, b1⟩ := take_spec ht 5 (by omega) (by omega)
  obtain ⟨_, n, hm, h0, h4⟩ := many_take a1 b1
  obtain ⟨t2, x, e2, ht2, hx, hl3⟩ := cond_loop cs hl hl2 hc (rangeD 0 n) t1 [] ht1 (by simp) (by simp [rangeD_len n h0]; omega)
  have n0 := ht.node
  have hr1 : (-4611686018427387904 : Int) ≤ n := by omega
  have hr2 : n < (4611686018427387904 : Int) := by omega
  refine ⟨x, t2, ?_, ht2, ⟨by rw [hl3, rangeD_len n h0]; simp; omega, hx⟩⟩
  simp only [condFr, List.map_nil] at e2
  simp [F__law_condition, mkF, d__law_condition, n0, e1, hm, hr1, hr2, e2]
end CC

/-! ME: dicts with text keys as trees. -/
namespace LT
open PySem PySem.Spec L2
def lk {β : Type} : List (Str × β) → Str → Option β
  | [], _ => none
  | (k, b) :: r, n => if k = n then some b else lk r n
def up {β : Type} : List (Str × β) → Str → (β → β) → List (Str × β)
  | [], _, _ => []
  | (k, b) :: r, n, h => if k = n then (k, h b) :: r else (k, b) :: up r n h
section
variable {β : Type}
theorem lk_mem : ∀ {ts : List (Str × β)} {n : Str} {b : β}, lk ts n = some b → (n, b) ∈ ts
  | (k, c) :: r, n, b, h => by
    unfold lk at h
    split at h
    · rename_i e; cases h; rw [e]; simp
    · simp [lk_mem h]
theorem lk_some : ∀ {ts : List (Str × β)} {n : Str}, n ∈ ts.map (·.1) → ∃ b, lk ts n = some b
  | (k, c) :: r, n, h => by
    unfold lk
    by_cases e : k = n
    · exact ⟨c, by rw [if_pos e]⟩
    · rw [if_neg e]
      rw [List.map_cons, List.mem_cons] at h
      rcases h with h | h
      · exact absurd h.symm e
      · exact lk_some h
theorem lk_of_mem : ∀ {ts : List (Str × β)}, (ts.map (·.1)).Nodup → ∀ {x : Str × β}, x ∈ ts → lk ts x.1 = some x.2
  | (k, c) :: r, hn, x, h => by
    rw [List.map_cons, List.nodup_cons] at hn
    unfold lk
    rcases List.mem_cons.mp h with e | h
    · subst e; rw [if_pos rfl]
    · rw [if_neg (fun e => hn.1 (List.mem_map.mpr ⟨x, h, e.symm⟩))]
      exact lk_of_mem hn.2 h
theorem up_keys (n : Str) (h : β → β) : ∀ ts : List (Str × β), (up ts n h).map (·.1) = ts.map (·.1)
  | [] => rfl
  | (k, b) :: r => by
    unfold up
    split
    · rfl
    · rw [List.map_cons, up_keys n h r]; rfl
theorem up_len (n : Str) (h : β → β) (ts : List (Str × β)) : (up ts n h).length = ts.length := by
  have := congrArg List.length (up_keys n h ts)
  simpa using this
theorem up_mem (n : Str) (h : β → β) : ∀ {ts : List (Str × β)} {x : Str × β}, x ∈ up ts n h → x ∈ ts ∨ ∃ b, (n, b) ∈ ts ∧ x = (n, h b)
  | (k, b) :: r, x, hx => by
    unfold up at hx
    split at hx
    · rename_i e
      subst e
      rcases List.mem_cons.mp hx with e | hx
      · exact .inr ⟨b, by simp, e⟩
      · exact .inl (by simp [hx])
    · rcases List.mem_cons.mp hx with e | hx
      · exact .inl (by simp [e])
      · rcases up_mem n h hx with q | ⟨c, q, e⟩
        · exact .inl (by simp [q])
        · exact .inr ⟨c, by simp [q], e⟩
theorem lk_up (n m : Str) (h : β → β) : ∀ ts : List (Str × β), lk (up ts n h) m = if n = m then (lk ts m).map h else lk ts m
  | [] => by unfold up lk; split <;> rfl
  | (k, b) :: r => by
    unfold up
    by_cases e : k = n
    · rw [if_pos e]
      subst e
      by_cases e2 : k = m
      · subst e2; rw [if_pos rfl]; unfold lk; rw [if_pos rfl, if_pos rfl]; rfl
      · rw [if_neg e2]; unfold lk; rw [if_neg e2, if_neg e2]
    · rw [if_neg e]
      by_cases e2 : k = m
      · have : n ≠ m := fun z => e (e2.trans z.symm)
        rw [if_neg this]; unfold lk; rw [if_pos e2, if_pos e2]
      · unfold lk; rw [if_neg e2, if_neg e2]; exact lk_up n m h r
variable (f : β → T)
def dctT (ts : List (Str × β)) : T := .node () .dct (ts.map fun x => (.str x.1, f x.2))
theorem getD_strs (n : Str) : ∀ ts : List (Str × β), LT.getD (ts.map fun x => ((.str x.1 : D), f x.2)) (.str n) = (lk ts n).map f
  | [] => rfl
  | (k, b) :: r => by
    have ih := getD_strs n r
    rw [List.map_cons, getD_cons]
    unfold lk
    by_cases e : k = n
    · simp [e]
    · simp [e, ih]
theorem updD_map (n : Str) (g : T → T) (h : β → β) : ∀ ts : List (Str × β), (∀ b, lk ts n = some b → f (h b) = g (f b)) → updD (ts.map fun x => ((.str x.1 : D), f x.2)) (.str n) g = (up ts n h).map fun x => (.str x.1, f x.2)
  | [], _ => rfl
  | (k, b) :: r, hh => by
    rw [List.map_cons]
    unfold updD up
    unfold lk at hh
    by_cases e : k = n
    · have := hh b (by rw [if_pos e])
      simp [e, this]
    · have ih := updD_map n g h r (fun c hc => hh c (by rw [if_neg e]; exact hc))
      simp [e, ih]
theorem putD_map_new (n : Str) (t : T) : ∀ ts : List (Str × β), n ∉ ts.map (·.1) → putD (ts.map fun x => ((.str x.1 : D), f x.2)) (.str n) t = (ts.map fun x => ((.str x.1 : D), f x.2)) ++ [(.str n, t)]
  | [], _ => rfl
  | (k, b) :: r, h => by
    rw [List.map_cons, List.mem_cons, not_or] at h
    rw [List.map_cons]
    unfold putD
    have e : ¬ k = n := fun z => h.1 z.symm
    have ih := putD_map_new n t r h.2
    simp [e, ih]
@[simp] theorem varT_dctT (i : Nat) (p : List D) (ρ : Fr) (ts : List (Str × β)) : varT i p ρ (dctT f ts) = some (.ok (.ptr i p), ρ) := rfl
@[simp] theorem isNodeB_dctT (ts : List (Str × β)) : isNodeB (dctT f ts) = true := rfl
@[simp] theorem seqTr_dctT (ts : List (Str × β)) : seqTr (dctT f ts) = none := rfl
@[simp] theorem kidP_dctT (j : Nat) (p : List D) (ρ : Fr) (ts : List (Str × β)) : kidP j p ρ (dctT f ts) = some (.ok (.ptr j p), ρ) := rfl
@[simp] theorem ixP_dctT (j : Nat) (p : List D) (n : Str) (ρ : Fr) (ts : List (Str × β)) : ixP j p (.str n) ρ (dctT f ts) = match lk ts n with
    | some b => kidP j (p ++ [.str n]) ρ (f b)
    | none => none := by
  unfold dctT
  rw [ixP_dct, getD_strs]
  cases lk ts n <;> rfl
@[simp] theorem at_dctT (n : Str) (p : List D) (ts : List (Str × β)) : TR.at (dctT f ts) (.str n :: p) = match lk ts n with
    | some b => (f b).at p
    | none => none := by
  unfold dctT
  rw [at_dct, getD_strs]
  cases lk ts n <;> rfl
theorem set_dctT (n : Str) (p : List D) (x : T) (h : β → β) (ts : List (Str × β)) (hh : ∀ b, lk ts n = some b → f (h b) = (f b).set p x) : TR.set (dctT f ts) (.str n :: p) x = dctT f (up ts n h) := by
  unfold dctT
  rw [set_dct, updD_map f n _ h ts hh]
theorem setTr_dctT (n : Str) (b : β) (ts : List (Str × β)) (h : n ∉ ts.map (·.1)) (hl : ts.length < 16777216) : setTr (dctT f ts) (.str n) (f b) = some (dctT f (ts ++ [(n, b)])) := by
  unfold dctT
  rw [setTr_dct, putD_map_new f n _ ts h]
  have : (ts.map fun x => ((.str x.1 : D), f x.2)).length < sizeLine := by rw [sizeLine_eq]; simpa using hl
  rw [if_pos (show (PyData.str n).isKey = true from rfl), if_pos this]
  simp
theorem toD_dctT (g : β → D) : ∀ (ts : List (Str × β)), (∀ x ∈ ts, TR.toD (f x.2) = some (g x.2)) → TR.toD (dctT f ts) = some (.dict (ts.map fun x => (.str x.1, g x.2))) := by
  intro ts h
  have e : toDs (ts.map fun x => ((.str x.1 : D), f x.2)) = some (ts.map fun x => (.str x.1, g x.2)) := by
    induction ts with
    | nil => rfl
    | cons x r ih =>
      have h1 := h x (by simp)
      have h2 := ih fun y hy => h y (by simp [hy])
      rw [List.map_cons, toDs, h1, h2]
      rfl
  unfold dctT
  rw [TR.toD, e]
def keysT : T → Option (List D)
  | .leaf (some (.dict kvs)) => some (kvs.map (·.1))
  | .node _ .dct cs => some (cs.map (·.1))
  | _ => none
@[simp] theorem keysT_dctT (ts : List (Str × β)) : keysT (dctT f ts) = some ((ts.map (·.1)).map PyData.str) := by
  show some ((ts.map fun x => ((.str x.1 : D), f x.2)).map (·.1)) = _
  rw [List.map_map, List.map_map]; rfl
end
@[simp] theorem keysT_leaf (kvs : List (D × D)) : keysT (.leaf (some (.dict kvs))) = some (kvs.map (·.1)) := rfl
@[simp] theorem keysT_dct (u : Unit) (cs : List (D × T)) : keysT (.node u .dct cs) = some (cs.map (·.1)) := rfl
@[simp 2000] theorem dctKeys_ptr' (j : Nat) (p : List D) (ρ : Fr) : LT.dctKeys (.ptr j p) ρ = match look (.ptr j p) ρ with
  | some t => keysT t
  | none => none := by
  rw [dctKeys_ptr]
  cases look (.ptr j p) ρ with
  | none => rfl
  | some t =>
    cases t with
    | leaf o => cases o with
      | none => rfl
      | some d => cases d <;> rfl
    | node u k cs => cases k <;> rfl
end LT

namespace CC
open PySem PySem.Spec L2 LT
/-! schemas -/
structure Tb where
  fz : Bool
  cols : List D
  checks : List D
  uniqs : List D
  refs : List D
def colT (b : Tb) : T := if b.fz = true then lf (.list b.cols) else listT b.cols
def tbT (b : Tb) : T := .node () .dct [(.str "columns", colT b), (.str "checks", listT b.checks), (.str "uniques", listT b.uniqs), (.str "references", listT b.refs)]
def tbD (b : Tb) : D := .dict [(.str "columns", .list b.cols), (.str "checks", .list b.checks), (.str "uniques", .list b.uniqs), (.str "references", .list b.refs)]
def schD (ts : List (Str × Tb)) : D := .dict (ts.map fun x => (.str x.1, tbD x.2))
theorem colT_toD (b : Tb) : TR.toD (colT b) = some (.list b.cols) := by
  unfold colT
  split
  · rfl
  · exact listT_toD _
@[simp] theorem tbT_toD (b : Tb) : TR.toD (tbT b) = some (tbD b) := by
  unfold tbT
  simp only [TR.toD, toDs, colT_toD, listT_toD]
  rfl
@[simp] theorem schT_toD (ts : List (Str × Tb)) : TR.toD (dctT tbT ts) = some (schD ts) := toD_dctT tbT tbD ts fun x _ => tbT_toD x.2
@[simp] theorem kidP_tbT (j : Nat) (p : List D) (ρ : Fr) (b : Tb) : kidP j p ρ (tbT b) = some (.ok (.ptr j p), ρ) := rfl
@[simp] theorem varT_tbT (i : Nat) (p : List D) (ρ : Fr) (b : Tb) : varT i p ρ (tbT b) = some (.ok (.ptr i p), ρ) := rfl
theorem kidP_listT (j : Nat) (p : List D) (ρ : Fr) (l : List D) : kidP j p ρ (listT l) = some (.ok (.ptr j p), ρ) := rfl
@[simp] theorem kidP_colT (j : Nat) (p : List D) (ρ : Fr) (b : Tb) : kidP j p ρ (colT b) = if b.fz = true then some (.ok (.d (.list b.cols)), ρ) else some (.ok (.ptr j p), ρ) := by
  unfold colT
  split <;> rfl
theorem nm1 : ¬ ("columns" : Str) = "checks" ∧ ¬ ("columns" : Str) = "uniques" ∧ ¬ ("columns" : Str) = "references" ∧ ¬ ("checks" : Str) = "uniques" ∧ ¬ ("checks" : Str) = "references" ∧ ¬ ("uniques" : Str) = "references" := by decide +kernel
@[simp] theorem ixP_columns (j : Nat) (p : List D) (ρ : Fr) (b : Tb) : ixP j p (.str "columns") ρ (tbT b) = if b.fz = true then some (.ok (.d (.list b.cols)), ρ) else some (.ok (.ptr j (p ++ [.str "columns"])), ρ) := by
  unfold tbT
  rw [ixP_dct]
  simp
@[simp] theorem ixP_checks (j : Nat) (p : List D) (ρ : Fr) (b : Tb) : ixP j p (.str "checks") ρ (tbT b) = some (.ok (.ptr j (p ++ [.str "checks"])), ρ) := by
  unfold tbT
  rw [ixP_dct]
  simp [nm1, kidP_listT]
@[simp] theorem ixP_uniques (j : Nat) (p : List D) (ρ : Fr) (b : Tb) : ixP j p (.str "uniques") ρ (tbT b) = some (.ok (.ptr j (p ++ [.str "uniques"])), ρ) := by
  unfold tbT
  rw [ixP_dct]
  simp [nm1, kidP_listT]
@[simp] theorem ixP_references (j : Nat) (p : List D) (ρ : Fr) (b : Tb) : ixP j p (.str "references") ρ (tbT b) = some (.ok (.ptr j (p ++ [.str "references"])), ρ) := by
  unfold tbT
  rw [ixP_dct]
  simp [nm1, kidP_listT]
@[simp] theorem at_columns (b : Tb) : TR.at (tbT b) [.str "columns"] = some (colT b) := by unfold tbT; rw [at_dct]; simp [TR.at_nil]
@[simp] theorem at_checks (b : Tb) : TR.at (tbT b) [.str "checks"] = some (listT b.checks) := by unfold tbT; rw [at_dct]; simp [TR.at_nil, nm1]
@[simp] theorem at_uniques (b : Tb) : TR.at (tbT b) [.str "uniques"] = some (listT b.uniqs) := by unfold tbT; rw [at_dct]; simp [TR.at_nil, nm1]
@[simp] theorem at_references (b : Tb) : TR.at (tbT b) [.str "references"] = some (listT b.refs) := by unfold tbT; rw [at_dct]; simp [TR.at_nil, nm1]
def addCk (l : List D) (b : Tb) : Tb := { b with checks := l }
def addUn (l : List D) (b : Tb) : Tb := { b with uniqs := l }
def addRf (l : List D) (b : Tb) : Tb := { b with refs := l }
def fzTb (b : Tb) : Tb := { b with fz := true }
@[simp] theorem set_checks (ts : List (Str × Tb)) (n : Str) (l : List D) : TR.set (dctT tbT ts) [.str n, .str "checks"] (listT l) = dctT tbT (up ts n (addCk l)) := by
  refine set_dctT tbT n _ _ _ _ fun b _ => ?_
  unfold tbT
  rw [set_dct]
  simp [updD, nm1, addCk, colT]; rfl
@[simp] theorem set_uniques (ts : List (Str × Tb)) (n : Str) (l : List D) : TR.set (dctT tbT ts) [.str n, .str "uniques"] (listT l) = dctT tbT (up ts n (addUn l)) := by
  refine set_dctT tbT n _ _ _ _ fun b _ => ?_
  unfold tbT
  rw [set_dct]
  simp [updD, nm1, addUn, colT]; rfl
@[simp] theorem set_references (ts : List (Str × Tb)) (n : Str) (l : List D) : TR.set (dctT tbT ts) [.str n, .str "references"] (listT l) = dctT tbT (up ts n (addRf l)) := by
  refine set_dctT tbT n _ _ _ _ fun b _ => ?_
  unfold tbT
  rw [set_dct]
  simp [updD, nm1, addRf, colT]; rfl
theorem set_columns {ts : List (Str × Tb)} {n : Str} {b : Tb} (h : lk ts n = some b) : TR.set (dctT tbT ts) [.str n, .str "columns"] (lf (.list b.cols)) = dctT tbT (up ts n fzTb) := by
  refine set_dctT tbT n _ _ _ _ fun c hc => ?_
  rw [h] at hc
  cases hc
  unfold tbT
  rw [set_dct]
  simp [updD, nm1, fzTb, colT]
@[simp] theorem ixP_colT (j : Nat) (p : List D) (i : Int) (ρ : Fr) (b : Tb) : ixP j p (.int i) ρ (colT b) = match dIx (.list b.cols) (.int i) with
    | some r => some (.ok (.d r), ρ)
    | none => none := by
  unfold colT
  split
  · exact ixP_leaf _ _ _ _ _
  · exact ixP_list _ _ _ _ _
def refD (p : Str × Str) : D := .tuple [.str p.1, .str p.2]
structure TbIs (B : Nat) (b : Tb) (cs : List Col) (cks : List (List (List Cl))) (us : List Str) (rs : List (Str × Str)) : Prop where
  cols : b.cols = cs.map Col.d
  len1 : 1 ≤ cs.length
  len5 : cs.length ≤ 5
  ok : ∀ c ∈ cs, IsCol c
  nd : (cs.map (·.name)).Nodup
  checks : b.checks = cks.map fun x => condD x
  clen : cks.length ≤ B
  cok : ∀ x ∈ cks, IsCond cs x
  uniqs : b.uniqs = us.map .str
  ulen : us.length ≤ 4
  uok : ∀ u ∈ us, u ∈ cs.map (·.name)
  refs : b.refs = rs.map refD
  rlen : rs.length ≤ 4
  rok : ∀ r ∈ rs, r.1 ∈ cs.map (·.name)
def TbOk (B : Nat) (b : Tb) : Prop := ∃ cs cks us rs, TbIs B b cs cks us rs
structure SOk (B : Nat) (ts : List (Str × Tb)) : Prop where
  nd : (ts.map (·.1)).Nodup
  nm : ∀ x ∈ ts, IsName x.1
  tb : ∀ x ∈ ts, TbOk B x.2
theorem TbOk.mono {B C : Nat} {b : Tb} (h : TbOk B b) (l : B ≤ C) : TbOk C b := by
  obtain ⟨cs, cks, us, rs, i⟩ := h
  exact ⟨cs, cks, us, rs, { i with clen := Nat.le_trans i.clen l }⟩
theorem SOk.mono {B C : Nat} {ts : List (Str × Tb)} (h : SOk B ts) (l : B ≤ C) : SOk C ts := ⟨h.nd, h.nm, fun x hx => (h.tb x hx).mono l⟩
theorem SOk.up {B C : Nat} {ts : List (Str × Tb)} (h : SOk B ts) (l : B ≤ C) {n : Str} {f : Tb → Tb} {b : Tb} (hb : lk ts n = some b) (k : TbOk C (f b)) : SOk C (LT.up ts n f) := by
  refine ⟨by rw [up_keys]; exact h.nd, fun x hx => ?_, fun x hx => ?_⟩
  · rcases up_mem n f hx with q | ⟨c, q, e⟩
    · exact h.nm x q
    · subst e; exact h.nm (n, c) q
  · rcases up_mem n f hx with q | ⟨c, q, e⟩
    · exact (h.tb x q).mono l
    · subst e
      have := lk_of_mem h.nd q
      simp only at this
      rw [hb] at this
      cases this
      exact k
def limFr (t : T) (ts : List (Str × Tb)) (n : Str) (cs : List Col) (nm ot : T) : Fr := ⟨[.own t, .own (dctT tbT ts), .own (lf (.str n)), .own (lf (colsD cs)), .own nm, .own ot, .emp, .emp, .emp, .emp], [], [0, 1]⟩
theorem lim1_turn (t t' : T) (n0 : isNodeB t = true) (n1 : isNodeB t' = true) (ts : List (Str × Tb)) (n : Str) (b : Tb) (hb : lk ts n = some b) (C X d : D) (nm ot : T) (e : F__law_condition [t, lf C] = some (.ok (lf X), [t'])) (hl : b.checks.length < 16777216) :
    turn (asg1 7) [7] b__law_limits_1 d ⟨[.own t, .own (dctT tbT ts), .own (lf (.str n)), .own (lf C), .own nm, .own ot, .emp, .emp, .emp, .emp], [], [0, 1]⟩ = some (.ok .nx, ⟨[.own t', .own (dctT tbT (up ts n (addCk (b.checks ++ [X])))), .own (lf (.str n)), .own (lf C), .own nm, .own ot, .emp, .emp, .emp, .emp], [], [0, 1]⟩) := by
  simp [turn, b__law_limits_1, hb, e, hl, n0, n1]
theorem lim2_turn (t t' : T) (n0 : isNodeB t = true) (n1 : isNodeB t' = true) (ts : List (Str × Tb)) (n : Str) (b : Tb) (hb : lk ts n = some b) (C : D) (nm ot : T) (u : Str) (r : Int) (e : F__law_take [t, lf (.int 4)] = some (.ok (lf (.int r)), [t'])) (m : Int) (hm : (b.uniqs.length : Int) = m) (hl : b.uniqs.length < 16777216) :
    turn (asg1 6) [6] b__law_limits_2 (.str u) ⟨[.own t, .own (dctT tbT ts), .own (lf (.str n)), .own (lf C), .own nm, .own ot, .emp, .emp, .emp, .emp], [], [0, 1]⟩ = some (.ok .nx, ⟨[.own t', .own (dctT tbT (if r = 0 ∧ m < 4 then up ts n (addUn (b.uniqs ++ [.str u])) else ts)), .own (lf (.str n)), .own (lf C), .own nm, .own ot, .emp, .emp, .emp, .emp], [], [0, 1]⟩) := by
  by_cases h1 : r = 0
  · by_cases h2 : m < 4
    · simp [turn, b__law_limits_2, hb, e, hm, hl, n0, n1, h1, h2]
    · simp [turn, b__law_limits_2, hb, e, hm, hl, n0, n1, h1, h2]
  · simp [turn, b__law_limits_2, hb, e, hm, hl, n0, n1, h1]
theorem lim3_a (t : T) (n0 : isNodeB t = true) (ts : List (Str × Tb)) (n : Str) (C d : D) (nm : T) :
    turn (asg1 8) [8, 9] b__law_limits_3 d ⟨[.own t, .own (dctT tbT ts), .own (lf (.str n)), .own (lf C), .own nm, .own (listT []), .emp, .emp, .emp, .emp], [], [0, 1]⟩ = some (.ok .nx, ⟨[.own t, .own (dctT tbT ts), .own (lf (.str n)), .own (lf C), .own nm, .own (listT []), .emp, .emp, .emp, .emp], [], [0, 1]⟩) := by
  have e : opNe [.list [], .list []] = some (.bool false) := by rfl
  simp [turn, b__law_limits_3, n0, e]
theorem lim3_b (t t1 : T) (n0 : isNodeB t = true) (n1 : isNodeB t1 = true) (ts : List (Str × Tb)) (n : Str) (b : Tb) (hb : lk ts n = some b) (C d : D) (nm : T) (os : List D) (ho : opNe [.list os, .list []] = some (.bool true)) (r : Int) (e : F__law_take [t, lf (.int 3)] = some (.ok (lf (.int r)), [t1])) (m : Int) (hm : (b.refs.length : Int) = m) (hr : ¬ (r = 0 ∧ m < 4)) :
    turn (asg1 8) [8, 9] b__law_limits_3 d ⟨[.own t, .own (dctT tbT ts), .own (lf (.str n)), .own (lf C), .own nm, .own (listT os), .emp, .emp, .emp, .emp], [], [0, 1]⟩ = some (.ok .nx, ⟨[.own t1, .own (dctT tbT ts), .own (lf (.str n)), .own (lf C), .own nm, .own (listT os), .emp, .emp, .emp, .emp], [], [0, 1]⟩) := by
  by_cases h1 : r = 0
  · have h2 : ¬ m < 4 := fun z => hr ⟨h1, z⟩
    simp [turn, b__law_limits_3, hb, n0, n1, ho, e, hm, h1, h2]
  · simp [turn, b__law_limits_3, hb, n0, n1, ho, e, hm, h1]
theorem lim3_c (t t1 t2 : T) (n0 : isNodeB t = true) (n1 : isNodeB t1 = true) (n2 : isNodeB t2 = true) (ts : List (Str × Tb)) (n : Str) (b : Tb) (hb : lk ts n = some b) (C : D) (nm : T) (os : List D) (ho : opNe [.list os, .list []] = some (.bool true)) (e : F__law_take [t, lf (.int 3)] = some (.ok (lf (.int 0)), [t1])) (m : Int) (hm : (b.refs.length : Int) = m) (h4 : m < 4) (hl : b.refs.length < 16777216)
    (L r2 : Int) (hL : (os.length : Int) = L) (e2 : F__law_take [t1, lf (.int L)] = some (.ok (lf (.int r2)), [t2])) (o : Str) (hx : dIx (.list os) (.int r2) = some (.str o)) (bo : Tb) (hbo : lk ts o = some bo) (c0 c : Col) (h0 : dIx (.list bo.cols) (.int 0) = some c0.d) :
    turn (asg1 8) [8, 9] b__law_limits_3 c.d ⟨[.own t, .own (dctT tbT ts), .own (lf (.str n)), .own (lf C), .own nm, .own (listT os), .emp, .emp, .emp, .emp], [], [0, 1]⟩ = some (.ok .nx, ⟨[.own t2, .own (dctT tbT (if c0.kind = c.kind then up ts n (addRf (b.refs ++ [refD (c.name, o)])) else ts)), .own (lf (.str n)), .own (lf C), .own nm, .own (listT os), .emp, .emp, .emp, .emp], [], [0, 1]⟩) := by
  by_cases h1 : c0.kind = c.kind
  · cases hf : bo.fz with
    | true => simp [turn, b__law_limits_3, hb, n0, n1, n2, ho, e, hm, h4, hl, hL, e2, hx, hbo, h0, hf, Col.d, h1, refD]
    | false => simp [turn, b__law_limits_3, hb, n0, n1, n2, ho, e, hm, h4, hl, hL, e2, hx, hbo, h0, hf, Col.d, h1, refD]
  · cases hf : bo.fz with
    | true => simp [turn, b__law_limits_3, hb, n0, n1, n2, ho, e, hm, h4, hl, hL, e2, hx, hbo, h0, hf, Col.d, h1, refD]
    | false => simp [turn, b__law_limits_3, hb, n0, n1, n2, ho, e, hm, h4, hl, hL, e2, hx, hbo, h0, hf, Col.d, h1, refD]
end CC

namespace CC
open PySem PySem.Spec L2 LT
/-! the program's conditions -/
def isN : D → Bool
  | .none => true
  | _ => false
def strLt (a b : Str) : Bool := decide (a.cps.toList < b.cps.toList)
def cmpB (op : Str) (v w : D) : Bool := match v, w with
  | .int i, .int j => if op = "=" then decide (i = j) else if op = "!=" then !decide (i = j) else if op = "<" then decide (i < j) else if op = "<=" then decide (i ≤ j) else if op = ">" then decide (j < i) else decide (j ≤ i)
  | .str a, .str b => if op = "=" then decide (a = b) else if op = "!=" then !decide (a = b) else if op = "<" then strLt a b else if op = "<=" then !strLt b a else if op = ">" then strLt b a else !strLt a b
  | _, _ => false
def clauseB (op : Str) (v w : D) : Bool := if op = "null" then isN v else if isN v = true then false else if op = "given" then true else cmpB op v w
def Alike (v w : D) : Prop := (∃ i j, v = .int i ∧ w = .int j) ∨ ∃ a b, v = .str a ∧ w = .str b
theorem compares_eq {op : Str} {v w : D} (h : Alike v w) : F_compares [lf v, lf (.str op), lf w] = some (.ok (lf (.bool (cmpB op v w))), []) := by
  rcases h with ⟨i, j, rfl, rfl⟩ | ⟨a, b, rfl, rfl⟩
  all_goals
    by_cases h1 : op = "="
    · subst h1; simp [F_compares, mkF, d_compares, cmpB]
    by_cases h2 : op = "!="
    · subst h2; simp [F_compares, mkF, d_compares, cmpB]
    by_cases h3 : op = "<"
    · subst h3; simp [F_compares, mkF, d_compares, cmpB, strLt]
    by_cases h4 : op = "<="
    · subst h4; simp [F_compares, mkF, d_compares, cmpB, strLt]
    by_cases h5 : op = ">"
    · subst h5; simp [F_compares, mkF, d_compares, cmpB, strLt]
    · simp [F_compares, mkF, d_compares, cmpB, strLt, h1, h2, h3, h4, h5]
/-- where a name stands -/
def idxS (ns : List Str) (n : Str) : Option Nat := ns.findIdx? fun z => decide (z = n)
@[simp] theorem opLIndex_strs (ns : List Str) (n : Str) : opLIndex [.list (ns.map PyData.str), .str n] = (idxS ns n).map fun (j : Nat) => PyData.int (j : Int) := by
  have h : (ns.map PyData.str).all dflat = true := by
    rw [List.all_map, List.all_eq_true]
    intro x _; rfl
  show (if (ns.map PyData.str).all dflat = true ∧ dflat (.str n) = true then ((ns.map PyData.str).findIdx? fun z => PyData.eqv z (.str n)).map fun (j : Nat) => PyData.int (j : Int) else none) = _
  have e : ((fun z => PyData.eqv z (.str n)) ∘ PyData.str) = fun z => decide (z = n) := by
    funext z
    exact eqv_str z n
  rw [if_pos ⟨h, rfl⟩, List.findIdx?_map, e]
  rfl
/-- the value that a clause speaks of -/
def valAt (ns : List Str) (vs : List D) (n : Str) : D := match idxS ns n with
  | some k => vs[k]?.getD .none
  | none => .none
structure ClOk (ns : List Str) (vs : List D) (c : Cl) : Prop where
  at_ : ∃ k v, idxS ns c.name = some k ∧ vs[k]? = some v
  alike : c.op = "null" ∨ c.op = "given" ∨ valAt ns vs c.name = .none ∨ Alike (valAt ns vs c.name) c.val
def clB (ns : List Str) (vs : List D) (c : Cl) : Bool := clauseB c.op (valAt ns vs c.name) c.val
theorem ClOk.ix {ns : List Str} {vs : List D} {c : Cl} (h : ClOk ns vs c) : ∃ k : Nat, idxS ns c.name = some k ∧ dIx (.tuple vs) (.int (k : Int)) = some (valAt ns vs c.name) := by
  obtain ⟨k, v, h1, h2⟩ := h.at_
  refine ⟨k, h1, ?_⟩
  have : valAt ns vs c.name = v := by unfold valAt; rw [h1]; simp [h2]
  rw [this]
  exact dIx_tnat h2
theorem isN_none {v : D} (h : isN v = true) : v = .none := by cases v <;> simp [isN] at h; rfl
theorem isN_op (v : D) : opIsN [v, .none] = some (.bool (isN v)) ∧ opNotN [v, .none] = some (.bool (!isN v)) := by cases v <;> simp [isN]
theorem alike_some {v w : D} (h : Alike v w) : isN v = false := by
  rcases h with ⟨i, j, rfl, rfl⟩ | ⟨a, b, rfl, rfl⟩ <;> rfl
theorem clause_holds_eq {ns : List Str} {vs : List D} {c : Cl} (h : ClOk ns vs c) : F_clause_holds [lf c.d, lf (.list (ns.map PyData.str)), lf (.tuple vs)] = some (.ok (lf (.bool (clB ns vs c))), []) := by
  obtain ⟨k, h1, h2⟩ := h.ix
  obtain ⟨n1, n2⟩ := isN_op (valAt ns vs c.name)
  unfold clB clauseB
  by_cases o1 : c.op = "null"
  · simp [F_clause_holds, mkF, d_clause_holds, Cl.d, h1, h2, o1, n1]
  · cases q : isN (valAt ns vs c.name) with
    | true =>
      rw [q] at n1
      simp [F_clause_holds, mkF, d_clause_holds, Cl.d, h1, h2, o1, n1]
    | false =>
      rw [q] at n1
      by_cases o2 : c.op = "given"
      · simp [F_clause_holds, mkF, d_clause_holds, Cl.d, h1, h2, o2, n1]
      · have al : Alike (valAt ns vs c.name) c.val := by
          rcases h.alike with z | z | z | z
          · exact absurd z o1
          · exact absurd z o2
          · rw [z] at q; cases q
          · exact z
        have e := compares_eq (op := c.op) al
        simp [F_clause_holds, mkF, d_clause_holds, Cl.d, h1, h2, o1, o2, n1, e]
theorem boolsOf_map {α : Type} (f : α → Bool) (l : List α) : boolsOf (l.map fun x => PyData.bool (f x)) = some (l.map f) := by
  induction l with
  | nil => rfl
  | cons x l ih => simp [boolsOf, ih]
@[simp] theorem opAll_app (xs : List D) : opAll [.list xs] = match boolsOf xs with
    | some bs => some (.bool (bs.all id))
    | none => none := rfl
def holdsB (ns : List Str) (vs : List D) (x : List (List Cl)) : Bool := x.any fun a => a.all (clB ns vs)
/-- a loop over what is known of its items -/
theorem for_anyL {α : Type} {asg : D → Fr → Option Fr} {ws : List Nat} {body : M SO} (f : α → D) (ρ : Fr) (t : T) (p : α → Bool) (hw : ρ.wipe ws = ρ) : ∀ (l : List α), (∀ a ∈ l, if p a = true then (turn asg ws body (f a) ρ).map (·.1) = some (.ok (.ret t)) else turn asg ws body (f a) ρ = some (.ok .nx, ρ)) →
    if l.any p = true then ∃ ρ', LT.forD asg ws body (l.map f) ρ = some (.ok (.ret t), ρ') else LT.forD asg ws body (l.map f) ρ = some (.ok .nx, ρ)
  | [], _ => forD_nil hw
  | a :: l, k => by
    have h := k a (by simp)
    have ih := for_anyL f ρ t p hw l (fun d' hd => k d' (by simp [hd]))
    rw [List.any_cons, List.map_cons]
    cases q : p a with
    | true =>
      rw [if_pos q] at h
      exact forD_out hw h
    | false =>
      rw [if_neg (by simp [q])] at h
      rw [Bool.false_or, forD_go hw h]
      exact ih
theorem lc_mapL {α : Type} {asg : D → Fr → Option Fr} {vs : List Nat} {fc : M Bool} {fe : M EV} (f : α → D) (ρ : Fr) (g : α → D) : ∀ (l : List α) (acc : List D), acc.length + l.length ≤ sizeLine → (∀ a ∈ l, lturn asg vs fc fe (f a) ρ = some (some (.leaf (some (g a))), ρ)) → lcD asg vs fc fe (l.map f) (acc.map fun d => .leaf (some d)) ρ = some (.ok (.val (listT (acc ++ l.map g))), ρ)
  | [], acc, _, _ => by
    rw [List.map_nil, List.map_nil, List.append_nil, lcD]
    rfl
  | a :: l, acc, hl, h => by
    rw [List.length_cons] at hl
    rw [List.map_cons, lc_in (h a (by simp)) (by rw [List.length_map]; omega)]
    have ih := lc_mapL f ρ g l (acc ++ [g a]) (by rw [List.length_append, List.length_singleton]; omega) (fun b hb => h b (by simp [hb]))
    rw [List.map_append, List.map_cons, List.map_nil] at ih
    rw [ih, List.append_assoc]
    rfl
theorem holds_eq {ns : List Str} {vs : List D} {x : List (List Cl)} (h : ∀ a ∈ x, a.length ≤ 1000 ∧ ∀ c ∈ a, ClOk ns vs c) : F_holds [lf (condD x), lf (.list (ns.map PyData.str)), lf (.tuple vs)] = some (.ok (lf (.bool (holdsB ns vs x))), []) := by
  have e := for_anyL (asg := asg1 3) (ws := [3]) (body := b_holds_1) altD ⟨[.own (lf (condD x)), .own (lf (.list (ns.map PyData.str))), .own (lf (.tuple vs)), .emp, .emp], [], []⟩ (lf (.bool true)) (fun a => a.all (clB ns vs)) (by simp) x (by
    intro a ha
    obtain ⟨hl, hc⟩ := h a ha
    have e := lc_mapL (asg := asg1 4) (vs := [4]) (fc := M.ret true) (fe := e_holds_1) Cl.d ⟨[.own (lf (condD x)), .own (lf (.list (ns.map PyData.str))), .own (lf (.tuple vs)), .own (lf (altD a)), .emp], [], []⟩ (fun c => .bool (clB ns vs c)) a [] (by rw [sizeLine_eq]; simp; omega) (by
      intro c hm
      have e := clause_holds_eq (hc c hm)
      simp [lturn, e_holds_1, e])
    simp only [List.map_nil, List.nil_append] at e
    have hb := boolsOf_map (clB ns vs) a
    cases q : a.all (clB ns vs) with
    | true =>
      have q2 : (a.map (clB ns vs)).all id = true := by rw [List.all_map]; exact q
      rw [if_pos rfl]
      simp [turn, b_holds_1, e, hb, q2, -List.all_map]
    | false =>
      have q2 : (a.map (clB ns vs)).all id = false := by rw [List.all_map]; exact q
      rw [if_neg (by simp)]
      simp [turn, b_holds_1, e, hb, q2, -List.all_map])
  cases q : holdsB ns vs x with
  | true =>
    unfold holdsB at q
    rw [if_pos q] at e
    obtain ⟨ρ', e⟩ := e
    simp [F_holds, mkF, d_holds, e]
  | false =>
    unfold holdsB at q
    rw [if_neg (by simp [q])] at e
    simp [F_holds, mkF, d_holds, e]
end CC

namespace CC
open PySem PySem.Spec L2 LT
/-! the program's conditions: fits, mentions, renamed -/
theorem nds_of : ∀ {xs : List D}, (∀ x ∈ xs, nd x = true) → nds xs = true
  | [], _ => rfl
  | x :: xs, h => by rw [nds, h x (by simp), nds_of fun y hy => h y (by simp [hy])]; rfl
theorem depthAll_of : ∀ {xs : List D} {n : Nat}, (∀ x ∈ xs, x.depth ≤ n) → PyData.depthAll xs ≤ n
  | [], n, _ => by rw [PyData.depthAll]; omega
  | x :: xs, n, h => by
    have h1 := h x (by simp)
    have h2 := depthAll_of (xs := xs) (n := n) fun y hy => h y (by simp [hy])
    rw [PyData.depthAll]; omega
theorem deepOk_list {xs : List D} (h : ∀ x ∈ xs, nd x = true ∧ x.depth ≤ 50) : deepOk (.list xs) = true := by
  have h1 := nds_of fun x hx => (h x hx).1
  have h2 := depthAll_of fun x hx => (h x hx).2
  unfold deepOk
  rw [nd, h1, PyData.depth]
  simp; omega
theorem deepOk_tup {xs : List D} (h : ∀ x ∈ xs, nd x = true ∧ x.depth ≤ 50) : deepOk (.tuple xs) = true := by
  have h1 := nds_of fun x hx => (h x hx).1
  have h2 := depthAll_of fun x hx => (h x hx).2
  unfold deepOk
  rw [nd, h1, PyData.depth]
  simp; omega
/-- an operand as it may stand in a clause -/
def IsOpd (d : D) : Prop := d = .none ∨ (∃ i, d = .int i ∧ IsInt i) ∨ ∃ s, d = .str s ∧ IsText s
theorem opd_value {d : D} (h : IsOpd d) : F_is_value [lf d] = some (.ok (lf (.bool true)), []) := by
  have : valueD d = true ∧ lenOk d := by
    rcases h with rfl | ⟨i, rfl, h⟩ | ⟨s, rfl, h⟩
    · exact ⟨rfl, trivial⟩
    · unfold IsInt at h
      refine ⟨?_, trivial⟩
      show (decide (-999999999 ≤ i) && decide (i ≤ 999999999)) = true
      simp; omega
    · refine ⟨?_, show s.length ≤ 16777216 by have := h.len; omega⟩
      show ((chs s).all signB && decide (s.length ≤ 30)) = true
      rw [Bool.and_eq_true, List.all_eq_true, decide_eq_true_eq]
      exact ⟨fun c hc => decide_eq_true (h.sgn c hc), h.len⟩
  rw [value_eq d this.2, this.1]
/-- the kind of a column, "" if there is none -/
def kindIn (cs : List Col) (n : Str) : Str := match cs.find? fun c => decide (c.name = n) with
  | some c => c.kind
  | none => ""
theorem kind_loop (cs0 : D) (n : Str) : ∀ cs : List Col, match cs.find? (fun c => decide (c.name = n)) with
    | some c => ∃ ρ', LT.forD (asg1 2) [2] b_kind_in_1 (cs.map Col.d) ⟨[.own (lf cs0), .own (lf (.str n)), .emp], [], []⟩ = some (.ok (.ret (lf (.str c.kind))), ρ')
    | none => LT.forD (asg1 2) [2] b_kind_in_1 (cs.map Col.d) ⟨[.own (lf cs0), .own (lf (.str n)), .emp], [], []⟩ = some (.ok .nx, ⟨[.own (lf cs0), .own (lf (.str n)), .emp], [], []⟩)
  | [] => forD_nil (by simp)
  | c :: cs => by
    have ih := kind_loop cs0 n cs
    rw [List.find?_cons, List.map_cons]
    by_cases h : c.name = n
    · simp only [h, decide_true]
      exact forD_out (by simp) (by simp [turn, b_kind_in_1, Col.d, h])
    · simp only [h, decide_false]
      rw [forD_go (by simp) (ρ' := ⟨[.own (lf cs0), .own (lf (.str n)), .emp], [], []⟩) (by simp [turn, b_kind_in_1, Col.d, h])]
      exact ih
theorem kind_in_eq (cs : List Col) (n : Str) : F_kind_in [lf (colsD cs), lf (.str n)] = some (.ok (lf (.str (kindIn cs n))), []) := by
  have e := kind_loop (colsD cs) n cs
  unfold kindIn
  cases q : cs.find? (fun c => decide (c.name = n)) with
  | some c =>
    rw [q] at e
    obtain ⟨ρ', e⟩ := e
    simp [F_kind_in, mkF, d_kind_in, e]
  | none =>
    rw [q] at e
    simp only at e
    simp [F_kind_in, mkF, d_kind_in, e]
def clFit (cs : List Col) (c : Cl) : Bool := !decide (kindIn cs c.name = "") && (isN c.val || decide (kindD c.val = kindIn cs c.name))
theorem clause_fits_eq (cs : List Col) (c : Cl) (h : IsOpd c.val) : F_clause_fits [lf c.d, lf (colsD cs)] = some (.ok (lf (.bool (clFit cs c))), []) := by
  have e := kind_in_eq cs c.name
  have v := opd_value h
  obtain ⟨m1, m2⟩ := isN_op c.val
  unfold clFit
  by_cases k : kindIn cs c.name = ""
  · rw [k] at e
    simp [F_clause_fits, mkF, d_clause_fits, Cl.d, e, k]
  · cases q : isN c.val with
    | true =>
      rw [q] at m1
      simp [F_clause_fits, mkF, d_clause_fits, Cl.d, e, k, m1]
    | false =>
      rw [q] at m1
      simp [F_clause_fits, mkF, d_clause_fits, Cl.d, e, k, m1, v, kind_eq]
def fitsB (cs : List Col) (x : List (List Cl)) : Bool := x.all fun a => a.all (clFit cs)
theorem fits_eq (cs : List Col) (x : List (List Cl)) (h : ∀ a ∈ x, ∀ c ∈ a, IsOpd c.val) : F_fits [lf (condD x), lf (colsD cs)] = some (.ok (lf (.bool (fitsB cs x))), []) := by
  have e := for_anyL (asg := asg1 2) (ws := [2, 3]) (body := b_fits_2) altD ⟨[.own (lf (condD x)), .own (lf (colsD cs)), .emp, .emp], [], []⟩ (lf (.bool false)) (fun a => a.any fun c => !clFit cs c) (by simp) x (by
    intro a ha
    have e := for_anyL (asg := asg1 3) (ws := [3]) (body := b_fits_1) Cl.d ⟨[.own (lf (condD x)), .own (lf (colsD cs)), .own (lf (altD a)), .emp], [], []⟩ (lf (.bool false)) (fun c => !clFit cs c) (by simp) a (by
      intro c hm
      have e := clause_fits_eq cs c (h a ha c hm)
      cases q : clFit cs c <;> rw [q] at e <;> simp [turn, b_fits_1, e])
    cases q : a.any fun c => !clFit cs c with
    | true =>
      rw [if_pos q] at e
      obtain ⟨ρ', e⟩ := e
      rw [if_pos rfl]
      simp [turn, b_fits_2, e]
    | false =>
      rw [if_neg (by simp [q])] at e
      rw [if_neg (by simp)]
      simp [turn, b_fits_2, e])
  have hq : fitsB cs x = !(x.any fun a => a.any fun c => !clFit cs c) := by
    unfold fitsB
    rw [List.all_eq_not_any_not]
    congr 1
    congr 1
    funext a
    rw [List.all_eq_not_any_not, Bool.not_not]
  cases q : x.any fun a => a.any fun c => !clFit cs c with
  | true =>
    rw [if_pos q] at e
    obtain ⟨ρ', e⟩ := e
    rw [hq, q]
    simp [F_fits, mkF, d_fits, e]
  | false =>
    rw [if_neg (by simp [q])] at e
    rw [hq, q]
    simp [F_fits, mkF, d_fits, e]
def menB (n : Str) (x : List (List Cl)) : Bool := x.any fun a => a.any fun c => decide (c.name = n)
theorem mentions_eq (n : Str) (x : List (List Cl)) : F_mentions [lf (condD x), lf (.str n)] = some (.ok (lf (.bool (menB n x))), []) := by
  have e := for_anyL (asg := asg1 2) (ws := [2, 3]) (body := b_mentions_2) altD ⟨[.own (lf (condD x)), .own (lf (.str n)), .emp, .emp], [], []⟩ (lf (.bool true)) (fun a => a.any fun c => decide (c.name = n)) (by simp) x (by
    intro a ha
    have e := for_anyL (asg := asg1 3) (ws := [3]) (body := b_mentions_1) Cl.d ⟨[.own (lf (condD x)), .own (lf (.str n)), .own (lf (altD a)), .emp], [], []⟩ (lf (.bool true)) (fun c => decide (c.name = n)) (by simp) a (by
      intro c hm
      by_cases q : c.name = n <;> simp [turn, b_mentions_1, Cl.d, q])
    cases q : a.any fun c => decide (c.name = n) with
    | true =>
      rw [if_pos q] at e
      obtain ⟨ρ', e⟩ := e
      rw [if_pos rfl]
      simp [turn, b_mentions_2, e]
    | false =>
      rw [if_neg (by simp [q])] at e
      rw [if_neg (by simp)]
      simp [turn, b_mentions_2, e])
  cases q : menB n x with
  | true =>
    unfold menB at q
    rw [if_pos q] at e
    obtain ⟨ρ', e⟩ := e
    simp [F_mentions, mkF, d_mentions, e]
  | false =>
    unfold menB at q
    rw [if_neg (by simp [q])] at e
    simp [F_mentions, mkF, d_mentions, e]
def renC (old new : Str) (c : Cl) : Cl := if c.name = old then ⟨new, c.op, c.val⟩ else c
theorem renamed_clause_eq (old new : Str) (c : Cl) : F_renamed_clause [lf c.d, lf (.str old), lf (.str new)] = some (.ok (lf (renC old new c).d), []) := by
  unfold renC
  by_cases q : c.name = old
  · simp [F_renamed_clause, mkF, d_renamed_clause, Cl.d, q]
  · simp [F_renamed_clause, mkF, d_renamed_clause, Cl.d, q]
def renB (old new : Str) (x : List (List Cl)) : List (List Cl) := x.map fun a => a.map (renC old new)
def renFr (x : D) (old new : Str) (acc : List (List Cl)) : Fr := ⟨[.own (lf x), .own (lf (.str old)), .own (lf (.str new)), .own (listT (acc.map fun a => altD a)), .emp, .emp], [], []⟩
theorem renamed_loop (x : D) (old new : Str) : ∀ (l : List (List Cl)) (acc : List (List Cl)), (∀ a ∈ l, a.length ≤ 1000) → acc.length + l.length ≤ 1000 → LT.forD (asg1 4) [4] b_renamed_1 (l.map fun a => altD a) (renFr x old new acc) = some (.ok .nx, renFr x old new (acc ++ renB old new l))
  | [], acc, _, _ => by
    have : acc ++ renB old new [] = acc := by simp [renB]
    rw [this]
    exact forD_nil (by simp [renFr])
  | a :: l, acc, hl, hn => by
    rw [List.length_cons] at hn
    have ha := hl a (by simp)
    have e := lc_mapL (asg := asg1 5) (vs := [5]) (fc := M.ret true) (fe := e_renamed_1) Cl.d ⟨[.own (lf x), .own (lf (.str old)), .own (lf (.str new)), .own (listT (acc.map fun a => altD a)), .own (lf (altD a)), .emp], [some (3, [])], []⟩ (fun c => (renC old new c).d) a [] (by rw [sizeLine_eq]; simp; omega) (by
      intro c hm
      have e := renamed_clause_eq old new c
      simp [lturn, e_renamed_1, e])
    simp only [List.map_nil, List.nil_append] at e
    have hb : acc.length < 16777216 := by omega
    have ea : (a.map fun c => (renC old new c).d) = (a.map (renC old new)).map Cl.d := by rw [List.map_map]; rfl
    rw [ea] at e
    have tn : turn (asg1 4) [4] b_renamed_1 (altD a) (renFr x old new acc) = some (.ok .nx, renFr x old new (acc ++ [a.map (renC old new)])) := by
      simp [turn, b_renamed_1, renFr, e, hb, -List.map_map]
    rw [List.map_cons, forD_go (by simp [renFr]) tn, renamed_loop x old new l _ (fun b hb => hl b (by simp [hb])) (by simp; omega)]
    simp [renB]
theorem renamed_eq (old new : Str) (x : List (List Cl)) (h : ∀ a ∈ x, a.length ≤ 1000) (hl : x.length ≤ 1000) : F_renamed [lf (condD x), lf (.str old), lf (.str new)] = some (.ok (lf (condD (renB old new x))), []) := by
  have e := renamed_loop (condD x) old new x [] h (by simpa using hl)
  simp only [renFr, List.map_nil, List.nil_append] at e
  simp [F_renamed, mkF, d_renamed, e]
end CC

namespace CC
open PySem PySem.Spec L2 LT
theorem colD_inj {c d : Col} (h : Col.d c = Col.d d) : c = d := by
  cases c; cases d
  simp [Col.d] at h
  obtain ⟨h1, h2, h3⟩ := h
  subst h1; subst h2; subst h3; rfl
theorem cols_inj {cs ds : List Col} (h : cs.map Col.d = ds.map Col.d) : cs = ds := by
  induction cs generalizing ds with
  | nil => cases ds with
    | nil => rfl
    | cons d ds => cases h
  | cons c cs ih => cases ds with
    | nil => cases h
    | cons d ds =>
      rw [List.map_cons, List.map_cons] at h
      injection h with h1 h2
      rw [colD_inj h1, ih h2]
structure LI (ks : List Str) (n : Str) (cs : List Col) (B : Nat) (ts : List (Str × Tb)) : Prop where
  keys : ts.map (·.1) = ks
  ok : SOk B ts
  at_ : ∃ b cks us rs, lk ts n = some b ∧ TbIs B b cs cks us rs
theorem LI.up {ks : List Str} {n : Str} {cs : List Col} {B C : Nat} {ts : List (Str × Tb)} (h : LI ks n cs B ts) (l : B ≤ C) {b : Tb} (hb : lk ts n = some b) {f : Tb → Tb} {cks : List (List (List Cl))} {us : List Str} {rs : List (Str × Str)} (k : TbIs C (f b) cs cks us rs) : LI ks n cs C (LT.up ts n f) :=
  ⟨by rw [up_keys]; exact h.keys, h.ok.up l hb ⟨cs, cks, us, rs, k⟩, f b, cks, us, rs, by rw [lk_up, if_pos rfl, hb]; rfl, k⟩
theorem LI.mono {ks : List Str} {n : Str} {cs : List Col} {B C : Nat} {ts : List (Str × Tb)} (h : LI ks n cs B ts) (l : B ≤ C) : LI ks n cs C ts := by
  obtain ⟨b, cks, us, rs, h1, h2⟩ := h.at_
  exact ⟨h.keys, h.ok.mono l, b, cks, us, rs, h1, { h2 with clen := Nat.le_trans h2.clen l }⟩
theorem lim1_loop (ks : List Str) (n : Str) (cs : List Col) (nm ot : T) (hl1 : 1 ≤ cs.length) (hl5 : cs.length ≤ 5) (hc : ∀ c ∈ cs, IsCol c) (m : Int) (h0 : 0 ≤ m) (B C : Nat) (hB : B + m.toNat ≤ C) (hC : C ≤ 1000) (t : T) (ht : IsTape t) (ts : List (Str × Tb)) (h : LI ks n cs B ts) :
    ∃ t' ts', LT.forD (asg1 7) [7] b__law_limits_1 (rangeD 0 m) (limFr t ts n cs nm ot) = some (.ok .nx, limFr t' ts' n cs nm ot) ∧ IsTape t' ∧ LI ks n cs C ts' := by
  obtain ⟨ρ', e, t', ts', B', rfl, h1, h2, h3⟩ := for_invL (asg := asg1 7) (ws := [7]) (body := b__law_limits_1) (fun _ b ρ => ∃ t ts B', ρ = limFr t ts n cs nm ot ∧ IsTape t ∧ LI ks n cs B' ts ∧ B' + b.length ≤ C) (by rintro a b ρ ⟨t, ts, B', rfl, _⟩; simp [limFr]) (rangeD 0 m) [] _ ⟨t, ts, B, rfl, ht, h, by rw [rangeD_len _ h0]; exact hB⟩ (by
    rintro _ d r ρ ⟨t, ts, B', rfl, ht, h, hB⟩
    rw [List.length_cons] at hB
    obtain ⟨b, cks, us, rs, hb, ib⟩ := h.at_
    obtain ⟨x, t', e, ht', hx⟩ := condition_spec ht cs hl1 (by omega) hc
    have bl : b.checks.length < 16777216 := by rw [ib.checks, List.length_map]; have := ib.clen; omega
    refine ⟨_, lim1_turn t t' ht.node ht'.node ts n b hb (colsD cs) (condD x) d nm ot e bl, t', _, B' + 1, rfl, ht', h.up (by omega) hb (cks := cks ++ [x]) (us := us) (rs := rs) { ib with checks := ?_, clen := ?_, cok := ?_ }, by omega⟩
    · show b.checks ++ [condD x] = _
      rw [ib.checks]; simp
    · have := ib.clen
      simp; omega
    · intro y hy
      rcases List.mem_append.mp hy with q | q
      · exact ib.cok y q
      · rw [List.mem_singleton.mp q]; exact hx)
  exact ⟨t', ts', e, h1, h2.mono (by simpa using h3)⟩
theorem lim2_loop (ks : List Str) (n : Str) (cs : List Col) (nm ot : T) (B : Nat) : ∀ (nms : List Str), (∀ u ∈ nms, u ∈ cs.map (·.name)) → ∀ (t : T) (ht : IsTape t) (ts : List (Str × Tb)) (h : LI ks n cs B ts),
    ∃ t' ts', LT.forD (asg1 6) [6] b__law_limits_2 (nms.map .str) (limFr t ts n cs nm ot) = some (.ok .nx, limFr t' ts' n cs nm ot) ∧ IsTape t' ∧ LI ks n cs B ts' := by
  intro nms hn t ht ts h
  obtain ⟨ρ', e, t', ts', rfl, h1, h2⟩ := for_inv (asg := asg1 6) (ws := [6]) (body := b__law_limits_2) (fun ρ => ∃ t ts, ρ = limFr t ts n cs nm ot ∧ IsTape t ∧ LI ks n cs B ts) (by rintro ρ ⟨t, ts, rfl, _⟩; simp [limFr]) (nms.map .str) _ ⟨t, ts, rfl, ht, h⟩ (by
    rintro d hd ρ ⟨t, ts, rfl, ht, h⟩
    obtain ⟨u, hu, rfl⟩ := List.mem_map.mp hd
    obtain ⟨b, cks, us, rs, hb, ib⟩ := h.at_
    obtain ⟨r, t', e, ht', _⟩ := take_spec ht 4 (by omega) (by omega)
    have ul : b.uniqs.length = us.length := by rw [ib.uniqs, List.length_map]
    have bl : b.uniqs.length < 16777216 := by have := ib.ulen; omega
    have q := lim2_turn t t' ht.node ht'.node ts n b hb (colsD cs) nm ot u r e _ rfl bl
    refine ⟨_, q, t', _, rfl, ht', ?_⟩
    split
    · rename_i hh
      refine h.up (Nat.le_refl _) hb (cks := cks) (us := us ++ [u]) (rs := rs) { ib with uniqs := ?_, ulen := ?_, uok := ?_ }
      · show b.uniqs ++ [.str u] = _
        rw [ib.uniqs]; simp
      · simp; omega
      · intro y hy
        rcases List.mem_append.mp hy with q | q
        · exact ib.uok y q
        · rw [List.mem_singleton.mp q]; exact hn u hu
    · exact h)
  exact ⟨t', ts', e, h1, h2⟩
theorem strs_ne (os : List Str) (h : os ≠ []) : opNe [.list (os.map .str), .list []] = some (.bool true) := by
  have d1 : deepOk (.list (os.map .str)) = true := deepOk_list (by
    intro x hx
    obtain ⟨p, _, rfl⟩ := List.mem_map.mp hx
    exact ⟨rfl, by simp [PyData.depth]⟩)
  have d0 : deepOk (.list []) = true := deepOk_list (by simp)
  rw [opNe_app, if_pos ⟨d1, d0⟩]
  cases os with
  | nil => exact absurd rfl h
  | cons => rfl
theorem lim3_loop (ks : List Str) (n : Str) (cs : List Col) (nm : T) (os : List Str) (hos : ∀ o ∈ os, o ∈ ks) (hol : os.length ≤ 1000) (B : Nat) : ∀ (cs' : List Col), (∀ c ∈ cs', c ∈ cs) → ∀ (t : T) (ht : IsTape t) (ts : List (Str × Tb)) (h : LI ks n cs B ts),
    ∃ t' ts', LT.forD (asg1 8) [8, 9] b__law_limits_3 (cs'.map Col.d) (limFr t ts n cs nm (strsT os)) = some (.ok .nx, limFr t' ts' n cs nm (strsT os)) ∧ IsTape t' ∧ LI ks n cs B ts' := by
  intro cs' hcs t ht ts h
  obtain ⟨ρ', e, t', ts', rfl, h1, h2⟩ := for_inv (asg := asg1 8) (ws := [8, 9]) (body := b__law_limits_3) (fun ρ => ∃ t ts, ρ = limFr t ts n cs nm (strsT os) ∧ IsTape t ∧ LI ks n cs B ts) (by rintro ρ ⟨t, ts, rfl, _⟩; simp [limFr]) (cs'.map Col.d) _ ⟨t, ts, rfl, ht, h⟩ (by
    rintro d hd ρ ⟨t, ts, rfl, ht, h⟩
    obtain ⟨c, hu, rfl⟩ := List.mem_map.mp hd
    obtain ⟨b, cks, us, rs, hb, ib⟩ := h.at_
    by_cases ho : os = []
    · subst ho
      exact ⟨_, lim3_a t ht.node ts n (colsD cs) c.d nm, t, ts, rfl, ht, h⟩
    · have hne := strs_ne os ho
      obtain ⟨r, t1, e1, ht1, _⟩ := take_spec ht 3 (by omega) (by omega)
      have ul : b.refs.length = rs.length := by rw [ib.refs, List.length_map]
      have bl : b.refs.length < 16777216 := by have := ib.rlen; omega
      by_cases hh : r = 0 ∧ (b.refs.length : Int) < 4
      · obtain ⟨hr, hh⟩ := hh
        subst hr
        have op : 0 < os.length := by cases os with
          | nil => exact absurd rfl ho
          | cons => simp
        obtain ⟨r2, t2, e2, ht2, h20, h21⟩ := take_spec ht1 (os.length : Int) (by omega) (by omega)
        obtain ⟨o, hom, hox⟩ := dIx_map PyData.str os h20 h21
        obtain ⟨bo, hbo⟩ := lk_some (ts := ts) (n := o) (by rw [h.keys]; exact hos o hom)
        obtain ⟨cs0, cks0, us0, rs0, ib0⟩ := h.ok.tb _ (lk_mem hbo)
        have l1 := ib0.len1
        have h0 : dIx (.list bo.cols) (.int 0) = some (cs0[0]).d := dIx_lnat (k := 0) (by rw [ib0.cols, List.getElem?_map, List.getElem?_eq_getElem (by omega)]; rfl)
        have q := lim3_c t t1 t2 ht.node ht1.node ht2.node ts n b hb (colsD cs) nm (os.map .str) hne e1 _ rfl hh bl _ r2 rfl (by rw [List.length_map]; exact e2) o hox bo hbo _ c h0
        refine ⟨_, q, t2, _, rfl, ht2, ?_⟩
        split
        · refine h.up (Nat.le_refl _) hb (cks := cks) (us := us) (rs := rs ++ [(c.name, o)]) { ib with refs := ?_, rlen := ?_, rok := ?_ }
          · show b.refs ++ [refD (c.name, o)] = _
            rw [ib.refs]; simp
          · simp; omega
          · intro y hy
            rcases List.mem_append.mp hy with q | q
            · exact ib.rok y q
            · rw [List.mem_singleton.mp q]; exact List.mem_map.mpr ⟨c, hcs c hu, rfl⟩
        · exact h
      · exact ⟨_, lim3_b t t1 ht.node ht1.node ts n b hb (colsD cs) c.d nm (os.map .str) hne r e1 _ rfl hh, t1, ts, rfl, ht1, h⟩)
  exact ⟨t', ts', e, h1, h2⟩
def fltS (ns : Str) : D → Option D
  | .str s => if s = ns then none else some (.str s)
  | _ => none
theorem fltS_map (ns : Str) (ss : List Str) : (ss.map .str).filterMap (fltS ns) = (ss.filter fun s => decide (s ≠ ns)).map .str := by
  induction ss with
  | nil => rfl
  | cons s ss ih =>
    rw [List.map_cons, List.filterMap_cons, List.filter_cons]
    by_cases h : s = ns
    · simp [fltS, h] at ih ⊢; exact ih
    · simp [fltS, h] at ih ⊢; exact ih
theorem lim_lc (t sc C nm : T) (ns : Str) (ss : List Str) (hl : ss.length ≤ 1000) : lcD (asg1 6) [6] c__law_limits_1 e__law_limits_1 (ss.map .str) [] ⟨[.own t, .own sc, .own (lf (.str ns)), .own C, .own nm, .emp, .emp, .emp, .emp, .emp], [], [0, 1]⟩ = some (.ok (.val (strsT (ss.filter fun s => decide (s ≠ ns)))), ⟨[.own t, .own sc, .own (lf (.str ns)), .own C, .own nm, .emp, .emp, .emp, .emp, .emp], [], [0, 1]⟩) := by
  have e := lc_fmD (asg := asg1 6) (vs := [6]) (fc := c__law_limits_1) (fe := e__law_limits_1) ⟨[.own t, .own sc, .own (lf (.str ns)), .own C, .own nm, .emp, .emp, .emp, .emp, .emp], [], [0, 1]⟩ (fltS ns) (ss.map .str) (by rw [sizeLine_eq]; simp; omega) (by
    intro d hd
    obtain ⟨s, _, rfl⟩ := List.mem_map.mp hd
    by_cases h : s = ns
    · simp [lturn, c__law_limits_1, e__law_limits_1, h, fltS]
    · simp [lturn, c__law_limits_1, e__law_limits_1, h, fltS])
  rw [e, fltS_map]
  rfl
def unS : D → Option Str
  | .str s => some s
  | _ => none
theorem unS_map (ss : List Str) : (ss.map .str).filterMap unS = ss := by
  induction ss with
  | nil => rfl
  | cons s ss ih => rw [List.map_cons, List.filterMap_cons]; simp [unS, ih]
theorem sortD_strs (ks : List Str) : ∃ ss : List Str, sortD (ks.map .str) = ss.map .str ∧ ss.Perm ks := by
  have p := sortD_perm (ks.map .str)
  obtain ⟨ss, e, _⟩ := pick PyData.str (fun _ => True) (sortD (ks.map .str)) (fun x hx => by
    obtain ⟨s, _, rfl⟩ := List.mem_map.mp (p.mem_iff.mp hx)
    exact ⟨s, rfl, trivial⟩)
  refine ⟨ss, e, ?_⟩
  rw [e] at p
  have q := p.filterMap unS
  rwa [unS_map, unS_map] at q
theorem homD_strs (ks : List Str) : homD (ks.map .str) = true := by
  unfold homD
  rw [Bool.or_eq_true]
  right
  rw [List.all_eq_true]
  intro x hx
  obtain ⟨s, _, rfl⟩ := List.mem_map.mp hx
  rfl
theorem lim_r (t t' t2 : T) (n0 : isNodeB t = true) (S S2 S3 : T) (n : Str) (nmD colD : List D) (os : T) (tl : List D) (htl : cutD colD (some 1) none = tl)
  (e7 : LT.forD (asg1 6) [6] b__law_limits_2 nmD ⟨[.own t, .own S, .own (lf (.str n)), .own (lf (.list colD)), .own (lf (.list nmD)), .own os, .emp, .emp, .emp, .emp], [], [0, 1]⟩ = some (.ok .nx, ⟨[.own t', .own S2, .own (lf (.str n)), .own (lf (.list colD)), .own (lf (.list nmD)), .own os, .emp, .emp, .emp, .emp], [], [0, 1]⟩))
  (e8 : LT.forD (asg1 8) [8, 9] b__law_limits_3 tl ⟨[.own t', .own S2, .own (lf (.str n)), .own (lf (.list colD)), .own (lf (.list nmD)), .own os, .emp, .emp, .emp, .emp], [], [0, 1]⟩ = some (.ok .nx, ⟨[.own t2, .own S3, .own (lf (.str n)), .own (lf (.list colD)), .own (lf (.list nmD)), .own os, .emp, .emp, .emp, .emp], [], [0, 1]⟩)) :
  r__law_limits_1 ⟨[.own t, .own S, .own (lf (.str n)), .own (lf (.list colD)), .own (lf (.list nmD)), .own os, .emp, .emp, .emp, .emp], [], [0, 1]⟩ = some (.ok .nx, ⟨[.own t2, .own S3, .own (lf (.str n)), .own (lf (.list colD)), .own (lf (.list nmD)), .own os, .emp, .emp, .emp, .emp], [], [0, 1]⟩) := by
  simp [gSlL, e7, e8, htl]
theorem lim_d (t t1 t2 : T) (n0 : isNodeB t = true) (n1 : isNodeB t1 = true) (ts : List (Str × Tb)) (S2 : T) (n : Str) (b : Tb) (hb : lk ts n = some b) (ks : List Str) (hk : ts.map (·.1) = ks) (nmS nmD SD : List D) (os : T) (ho : isNodeB os = true)
  (e2 : F__law_names [lf (.list b.cols)] = some (.ok (listT nmS), [])) (e2b : cutD nmS (some 1) none = nmD) (e3 : sortD (ks.map .str) = SD)
  (r : Int) (e5 : F__law_take [t, lf (.int 4)] = some (.ok (lf (.int r)), [t1])) (m : Int) (e5b : dIx (.list [.int 0, .int 0, .int 1, .int 2]) (.int r) = some (.int m)) (m1 : (-4611686018427387904 : Int) ≤ m) (m2 : m < 4611686018427387904)
  (e4 : ∀ ts', ts' = (if b.fz = true then ts else up ts n fzTb) → lcD (asg1 6) [6] c__law_limits_1 e__law_limits_1 SD [] ⟨[.own t, .own (dctT tbT ts'), .own (lf (.str n)), .own (lf (.list b.cols)), .own (lf (.list nmD)), .emp, .emp, .emp, .emp, .emp], [], [0, 1]⟩ = some (.ok (.val os), ⟨[.own t, .own (dctT tbT ts'), .own (lf (.str n)), .own (lf (.list b.cols)), .own (lf (.list nmD)), .emp, .emp, .emp, .emp, .emp], [], [0, 1]⟩))
  (e6 : ∀ ts', ts' = (if b.fz = true then ts else up ts n fzTb) → LT.forD (asg1 7) [7] b__law_limits_1 (rangeD 0 m) ⟨[.own t1, .own (dctT tbT ts'), .own (lf (.str n)), .own (lf (.list b.cols)), .own (lf (.list nmD)), .own os, .emp, .emp, .emp, .emp], [], [0, 1]⟩ = some (.ok .nx, ⟨[.own t2, .own S2, .own (lf (.str n)), .own (lf (.list b.cols)), .own (lf (.list nmD)), .own os, .emp, .emp, .emp, .emp], [], [0, 1]⟩)) :
  d__law_limits ⟨[.own t, .own (dctT tbT ts), .own (lf (.str n)), .emp, .emp, .emp, .emp, .emp, .emp, .emp], [], [0, 1]⟩ = r__law_limits_1 ⟨[.own t2, .own S2, .own (lf (.str n)), .own (lf (.list b.cols)), .own (lf (.list nmD)), .own os, .emp, .emp, .emp, .emp], [], [0, 1]⟩ := by
  have hom := homD_strs ks
  have sc := set_columns hb
  have ct := colT_toD b
  have hk2 : (up ts n fzTb).map (·.1) = ks := by rw [up_keys]; exact hk
  generalize hK : ks.map PyData.str = K at *
  cases hf : b.fz with
  | true =>
    have e4 := e4 ts (by rw [if_pos hf])
    have e6 := e6 ts (by rw [if_pos hf])
    simp [d__law_limits, gSlL, hb, hf, e2, e2b, e3, e4, e5, e5b, e6, hk, hK, hom, n0, n1, ho, m1, m2, -r__law_limits_1, -List.map_map]
  | false =>
    have e4 := e4 (up ts n fzTb) (by rw [if_neg (by rw [hf]; simp)])
    have e6 := e6 (up ts n fzTb) (by rw [if_neg (by rw [hf]; simp)])
    generalize up ts n fzTb = ts2 at *
    simp [d__law_limits, gSlL, hb, hf, e2, e2b, e3, e4, e5, e5b, e6, hk, hk2, hK, hom, n0, n1, ho, m1, m2, ct, sc, -r__law_limits_1, -List.map_map]
theorem mkF_nx01 (m : Nat) (body : M SO) (ts : List T) (t' u' : T) (ρr : List SV) (tm : List (Option (Nat × List D))) (h : body ⟨ts.map .own ++ List.replicate m .emp, [], [0, 1]⟩ = some (.ok .nx, ⟨.own t' :: .own u' :: ρr, tm, [0, 1]⟩)) : mkF m [0, 1] body ts = some (.ok (lf .none), [t', u']) := by
  unfold mkF
  rw [h]
  rfl
theorem four_take {r : Int} (h0 : 0 ≤ r) (h1 : r < 4) : ∃ m : Int, dIx (.list [.int 0, .int 0, .int 1, .int 2]) (.int r) = some (.int m) ∧ 0 ≤ m ∧ m ≤ 2 := by
  obtain h | h | h | h : r = 0 ∨ r = 1 ∨ r = 2 ∨ r = 3 := by omega
  · subst h; exact ⟨0, by rfl, by omega, by omega⟩
  · subst h; exact ⟨0, by rfl, by omega, by omega⟩
  · subst h; exact ⟨1, by rfl, by omega, by omega⟩
  · subst h; exact ⟨2, by rfl, by omega, by omega⟩
theorem limits_spec {t : T} (ht : IsTape t) {ks : List Str} {ts : List (Str × Tb)} {B : Nat} (h : SOk B ts) (hk : ts.map (·.1) = ks) {n : Str} (hn : n ∈ ks) (kl : ks.length ≤ 1000) (hB : B + 2 ≤ 1000) :
    ∃ t' ts', F__law_limits [t, dctT tbT ts, lf (.str n)] = some (.ok (lf .none), [t', dctT tbT ts']) ∧ IsTape t' ∧ SOk (B + 2) ts' ∧ ts'.map (·.1) = ks := by
  obtain ⟨b, hb⟩ := lk_some (ts := ts) (n := n) (by rw [hk]; exact hn)
  obtain ⟨cs, cks, us, rs, ib⟩ := h.tb _ (lk_mem hb)
  have li0 : LI ks n cs B ts := ⟨hk, h, b, cks, us, rs, hb, ib⟩
  have l5 := ib.len5
  have e2 := names_eq cs (by omega)
  have hcs : colsD cs = .list b.cols := by rw [ib.cols]
  rw [hcs] at e2
  obtain ⟨ss, e3, ps⟩ := sortD_strs ks
  obtain ⟨r, t1, e5, ht1, r0, r4⟩ := take_spec ht 4 (by omega) (by omega)
  obtain ⟨m, e5b, m0, m2⟩ := four_take r0 r4
  have li1 : LI ks n cs B (if b.fz = true then ts else up ts n fzTb) := by
    split
    · exact li0
    · exact li0.up (Nat.le_refl _) hb (f := fzTb) (cks := cks) (us := us) (rs := rs) { ib with cols := ib.cols, checks := ib.checks, uniqs := ib.uniqs, refs := ib.refs }
  have e2b : cutD ((cs.map (·.name)).map PyData.str) (some 1) none = (cs.map (·.name)).tail.map PyData.str := by
    rw [cutD_tail _ (by simp; omega), List.map_tail]
  have e2c : cutD b.cols (some 1) none = cs.tail.map Col.d := by
    rw [cutD_tail _ (by rw [ib.cols]; simp; omega), ib.cols, List.map_tail]
  have ssl : ss.length = ks.length := ps.length_eq
  let os := ss.filter fun s => decide (s ≠ n)
  have osk : ∀ o ∈ os, o ∈ ks := fun o ho => ps.mem_iff.mp (List.mem_filter.mp ho).1
  have osl : os.length ≤ 1000 := by
    have := List.length_filter_le (fun s => decide (s ≠ n)) ss
    show (ss.filter _).length ≤ _
    omega
  let nmT : T := lf (.list ((cs.map (·.name)).tail.map PyData.str))
  obtain ⟨t2, ts2, e6, ht2, li2⟩ := lim1_loop ks n cs nmT (strsT os) ib.len1 l5 ib.ok m m0 B (B + 2) (by omega) hB t1 ht1 _ li1
  obtain ⟨t3, ts3, e7, ht3, li3⟩ := lim2_loop ks n cs nmT (strsT os) (B + 2) (cs.map (·.name)).tail (fun u hu => List.mem_of_mem_tail hu) t2 ht2 ts2 li2
  obtain ⟨t4, ts4, e8, ht4, li4⟩ := lim3_loop ks n cs nmT os osk osl (B + 2) cs.tail (fun c hc => List.mem_of_mem_tail hc) t3 ht3 ts3 li3
  simp only [limFr] at e6 e7 e8
  rw [hcs] at e6 e7 e8
  have d1 := lim_d t t1 t2 ht.node ht1.node ts (dctT tbT ts2) n b hb ks hk ((cs.map fun c : Col => c.name).map PyData.str) _ (ss.map PyData.str) (strsT os) rfl e2 e2b e3 r e5 m e5b (by omega) (by omega)
    (fun ts' hts => lim_lc t (dctT tbT ts') (lf (.list b.cols)) nmT n ss (by omega)) (fun ts' hts => by rw [hts]; exact e6)
  have d2 := lim_r t2 t3 t4 ht2.node (dctT tbT ts2) (dctT tbT ts3) (dctT tbT ts4) n ((cs.map (·.name)).tail.map PyData.str) b.cols (strsT os) _ e2c e7 e8
  exact ⟨t4, ts4, mkF_nx01 7 d__law_limits [t, dctT tbT ts, lf (.str n)] _ _ _ _ (d1.trans d2), ht4, li4.ok, li4.keys⟩
end CC

namespace CC
open PySem PySem.Spec L2 LT
theorem table_eq (C : List D) : F__law_table [lf (.list C)] = some (.ok (tbT ⟨false, C, [], [], []⟩), []) := by
  simp [F__law_table, mkF, d__law_table]
  rfl
theorem schA_turn (t t1 t2 t3 u2 : T) (n0 : isNodeB t = true) (n1 : isNodeB t1 = true) (n2 : isNodeB t2 = true) (n3 : isNodeB t3 = true) (nu : isNodeB u2 = true) (a z m d : D) (us : List Str) (C : List D) (ts : List (Str × Tb)) (s : Str)
  (e1 : F__law_take [t, lf (.int 5)] = some (.ok (lf m), [t1])) (e2 : F__law_columns [t1, strsT [], lf m] = some (.ok (listT C), [t2, u2])) (e4 : F__law_name [t2, strsT us] = some (.ok (lf (.str s)), [t3, strsT (us ++ [s])]))
  (hs : setTr (dctT tbT ts) (.str s) (tbT ⟨false, C, [], [], []⟩) = some (dctT tbT (ts ++ [(s, ⟨false, C, [], [], []⟩)]))) :
  turn (asg1 5) [5] b__law_schema_1 d ⟨[.own t, .own (lf a), .own (lf z), .own (strsT us), .own (dctT tbT ts), .emp, .emp], [], [0]⟩ = some (.ok .nx, ⟨[.own t3, .own (lf a), .own (lf z), .own (strsT (us ++ [s])), .own (dctT tbT (ts ++ [(s, ⟨false, C, [], [], []⟩)])), .emp, .emp], [], [0]⟩) := by
  have e3 := table_eq C
  have v0 : listT [] = strsT [] := rfl
  generalize us ++ [s] = us2 at *
  generalize ts ++ [(s, ⟨false, C, [], [], []⟩)] = ts2 at *
  generalize (⟨false, C, [], [], []⟩ : Tb) = tb at *
  simp [turn, b__law_schema_1, v0, e1, e2, e3, e4, hs, n0, n1, n2, n3, nu]
theorem schB_turn (t t1 : T) (n0 : isNodeB t = true) (n1 : isNodeB t1 = true) (a z : D) (us : T) (ts ts2 : List (Str × Tb)) (s : Str) (e : F__law_limits [t, dctT tbT ts, lf (.str s)] = some (.ok (lf .none), [t1, dctT tbT ts2])) :
  turn (asg1 6) [6] b__law_schema_2 (.str s) ⟨[.own t, .own (lf a), .own (lf z), .own us, .own (dctT tbT ts), .emp, .emp], [], [0]⟩ = some (.ok .nx, ⟨[.own t1, .own (lf a), .own (lf z), .own us, .own (dctT tbT ts2), .emp, .emp], [], [0]⟩) := by
  simp [turn, b__law_schema_2, e, n0, n1]
def schFr (t : T) (a z : Int) (us : List Str) (ts : List (Str × Tb)) : Fr := ⟨[.own t, .own (lf (.int a)), .own (lf (.int z)), .own (strsT us), .own (dctT tbT ts), .emp, .emp], [], [0]⟩
theorem schA_loop (a z : Int) (M : Int) (h0 : 0 ≤ M) (h20 : M ≤ 20) (t : T) (ht : IsTape t) :
    ∃ t' us ts, LT.forD (asg1 5) [5] b__law_schema_1 (rangeD 0 M) (schFr t a z [] []) = some (.ok .nx, schFr t' a z us ts) ∧ IsTape t' ∧ ts.map (·.1) = us ∧ SOk 0 ts ∧ us.length = M.toNat := by
  obtain ⟨ρ', e, t', us, ts, rfl, h1, h2, h3, h4⟩ := for_invL (asg := asg1 5) (ws := [5]) (body := b__law_schema_1) (fun _ b ρ => ∃ t us ts, ρ = schFr t a z us ts ∧ IsTape t ∧ ts.map (·.1) = us ∧ SOk 0 ts ∧ us.length + b.length = M.toNat) (by rintro a b ρ ⟨t, us, ts, rfl, _⟩; simp [schFr]) (rangeD 0 M) [] _ ⟨t, [], [], rfl, ht, rfl, ⟨by simp, by simp, by simp⟩, by rw [rangeD_len _ h0]; simp⟩ (by
    rintro _ d r ρ ⟨t, us, ts, rfl, ht, hk, ok, hl⟩
    rw [List.length_cons] at hl
    obtain ⟨m, t1, e1, ht1, m0, m5⟩ := take_spec ht 5 (by omega) (by omega)
    obtain ⟨cs, t2, us', e2, ht2, cok, cl, _⟩ := columns_spec ht1 [] (by simp) m m0 (by omega)
    obtain ⟨s, t3, e4, ht3, hs, hs2⟩ := name_spec ht2 us (by omega)
    have hu : us' = cs.map (·.name) := by rw [cok.1]; rfl
    have hul : us'.length ≤ 5 := by rw [hu]; simp; omega
    have hn := hs2 (by omega)
    have q := schA_turn t t1 t2 t3 (strsT us') ht.node ht1.node ht2.node ht3.node rfl (.int a) (.int z) (.int m) d us (cs.map Col.d) ts s e1 e2 e4 (setTr_dctT tbT s _ ts (by rw [hk]; exact hn) (by
      have := congrArg List.length hk
      simp at this
      omega))
    refine ⟨_, q, t3, us ++ [s], _, rfl, ht3, by rw [List.map_append, hk]; rfl, ⟨?_, ?_, ?_⟩, by simp; omega⟩
    · rw [List.map_append, hk]
      rw [List.nodup_append]
      refine ⟨by rw [← hk]; exact ok.nd, by simp, ?_⟩
      intro x hx y hy e
      have : y = s := by simpa using hy
      subst this; subst e
      exact hn hx
    · intro x hx
      rcases List.mem_append.mp hx with q | q
      · exact ok.nm x q
      · rw [List.mem_singleton.mp q]; exact hs
    · intro x hx
      rcases List.mem_append.mp hx with q | q
      · exact ok.tb x q
      · rw [List.mem_singleton.mp q]
        exact ⟨cs, [], [], [], { cols := rfl, len1 := by omega, len5 := by omega, ok := cok.2.1, nd := (cok.2.2 (by omega)).1, checks := rfl, clen := by simp, cok := by simp, uniqs := rfl, ulen := by simp, uok := by simp, refs := rfl, rlen := by simp, rok := by simp }⟩)
  exact ⟨t', us, ts, e, h1, h2, h3, by simpa using h4⟩
theorem schB_loop (a z : Int) (us : List Str) (ks : List Str) (hkl : ks.length ≤ 20) : ∀ (ss : List Str), (∀ s ∈ ss, s ∈ ks) → ss.length ≤ 20 → ∀ (t : T) (ht : IsTape t) (ts : List (Str × Tb)), SOk 0 ts → ts.map (·.1) = ks →
    ∃ t' ts', LT.forD (asg1 6) [6] b__law_schema_2 (ss.map .str) (schFr t a z us ts) = some (.ok .nx, schFr t' a z us ts') ∧ IsTape t' ∧ SOk 40 ts' ∧ ts'.map (·.1) = ks := by
  intro ss hss hsl t ht ts ok hk
  obtain ⟨ρ', e, t', ts', B, rfl, h1, h2, h3, h4, _⟩ := for_invL (asg := asg1 6) (ws := [6]) (body := b__law_schema_2) (fun _ b ρ => ∃ t ts B, ρ = schFr t a z us ts ∧ IsTape t ∧ SOk B ts ∧ ts.map (·.1) = ks ∧ B + 2 * b.length ≤ 40 ∧ ∀ d ∈ b, ∃ s ∈ ks, d = .str s) (by rintro a b ρ ⟨t, ts, B, rfl, _⟩; simp [schFr]) (ss.map .str) [] _ ⟨t, ts, 0, rfl, ht, ok, hk, by simp; omega, fun d hd => by
      obtain ⟨s, hs, rfl⟩ := List.mem_map.mp hd
      exact ⟨s, hss s hs, rfl⟩⟩ (by
    rintro _ d r ρ ⟨t, ts, B, rfl, ht, ok, hk, hB, hd⟩
    rw [List.length_cons] at hB
    obtain ⟨s, hs, rfl⟩ := hd d (by simp)
    obtain ⟨t1, ts2, e, ht1, ok2, hk2⟩ := limits_spec ht ok hk hs (by omega) (by omega)
    exact ⟨_, schB_turn t t1 ht.node ht1.node (.int a) (.int z) (strsT us) ts ts2 s e, t1, ts2, B + 2, rfl, ht1, ok2, hk2, by omega, fun d h => hd d (by simp [h])⟩)
  exact ⟨t', ts', e, h1, h2.mono (by omega), h3⟩
theorem sch_d (t t1 t2 t3 : T) (n0 : isNodeB t = true) (n1 : isNodeB t1 = true) (n2 : isNodeB t2 = true) (n3 : isNodeB t3 = true) (a z r M w : Int) (hw : z - a + 1 = w) (hM : a + r = M) (b1 : -1000 < z - a) (b2 : z - a < 1000) (b3 : -1000 < w) (b4 : w < 1000) (b5 : -1000 < M) (b6 : M < 1000) (us : List Str) (ks : List Str) (ts ts2 : List (Str × Tb)) (hk : ts.map (·.1) = ks) (SD : List D) (e3 : sortD (ks.map .str) = SD)
  (e1 : F__law_take [t, lf (.int w)] = some (.ok (lf (.int r)), [t1]))
  (eA : LT.forD (asg1 5) [5] b__law_schema_1 (rangeD 0 M) ⟨[.own t1, .own (lf (.int a)), .own (lf (.int z)), .own (strsT []), .own (dctT tbT []), .emp, .emp], [], [0]⟩ = some (.ok .nx, ⟨[.own t2, .own (lf (.int a)), .own (lf (.int z)), .own (strsT us), .own (dctT tbT ts), .emp, .emp], [], [0]⟩))
  (eB : LT.forD (asg1 6) [6] b__law_schema_2 SD ⟨[.own t2, .own (lf (.int a)), .own (lf (.int z)), .own (strsT us), .own (dctT tbT ts), .emp, .emp], [], [0]⟩ = some (.ok .nx, ⟨[.own t3, .own (lf (.int a)), .own (lf (.int z)), .own (strsT us), .own (dctT tbT ts2), .emp, .emp], [], [0]⟩)) :
  ∃ sl, d__law_schema ⟨[.own t, .own (lf (.int a)), .own (lf (.int z)), .emp, .emp, .emp, .emp], [], [0]⟩ = some (.ok (.ret (dctT tbT ts2)), ⟨.own t3 :: sl, [], [0]⟩) := by
  have hom := homD_strs ks
  have v0 : listT [] = strsT [] := rfl
  have v1 : ∀ ρ, LT.M.dict0 ρ = some (.ok (.val (dctT tbT [])), ρ) := fun _ => rfl
  generalize hK : ks.map PyData.str = K at *
  have c1 : (-18446744073709551616 : Int) < z - a := by omega
  have c2 : z - a < 18446744073709551616 := by omega
  have c3 : (-18446744073709551616 : Int) < w := by omega
  have c4 : w < 18446744073709551616 := by omega
  have c5 : (-18446744073709551616 : Int) < M := by omega
  have c6 : M < 18446744073709551616 := by omega
  have c7 : (-4611686018427387904 : Int) ≤ M := by omega
  have c8 : M < 4611686018427387904 := by omega
  clear b1 b2 b3 b4 b5 b6
  generalize hq : z - a = q at *
  simp [d__law_schema, v0, v1, hq, hw, hM, c1, c2, c3, c4, c5, c6, c7, c8, e1, eA, eB, e3, hom, hk, hK, n0, n1, n2, n3, -List.map_map]
theorem schema_spec {t : T} (ht : IsTape t) (a z : Int) (h0 : 0 ≤ a) (h1 : a ≤ z) (h2 : z ≤ 20) :
    ∃ ts t', F__law_schema [t, lf (.int a), lf (.int z)] = some (.ok (dctT tbT ts), [t']) ∧ IsTape t' ∧ SOk 40 ts ∧ a ≤ ts.length ∧ ts.length ≤ z := by
  obtain ⟨r, t1, e1, ht1, r0, r1⟩ := take_spec ht (z - a + 1) (by omega) (by omega)
  obtain ⟨t2, us, ts, eA, ht2, hk, ok, hl⟩ := schA_loop a z (a + r) (by omega) (by omega) t1 ht1
  obtain ⟨ss, e3, ps⟩ := sortD_strs us
  have sl := ps.length_eq
  obtain ⟨t3, ts2, eB, ht3, ok2, hk2⟩ := schB_loop a z us us (by omega) ss (fun s hs => ps.mem_iff.mp hs) (by omega) t2 ht2 ts ok hk
  obtain ⟨sl', e⟩ := sch_d t t1 t2 t3 ht.node ht1.node ht2.node ht3.node a z r (a + r) (z - a + 1) rfl rfl (by omega) (by omega) (by omega) (by omega) (by omega) (by omega) us us ts ts2 hk _ e3 e1 eA eB
  have l2 := congrArg List.length hk2
  simp at l2
  refine ⟨ts2, t3, ?_, ht3, ok2, by omega, by omega⟩
  unfold F__law_schema mkF
  have e : d__law_schema ⟨[t, lf (.int a), lf (.int z)].map .own ++ List.replicate 4 .emp, [], [0]⟩ = _ := e
  rw [e]
  rfl
end CC

/-! MH: dict comprehensions, new keys. -/
namespace LT
open PySem PySem.Spec L2
theorem putD_new {α : Type} {q : D} {t : α} : ∀ {cs : List (D × α)}, (∀ c ∈ cs, c.1.same q = false) → putD cs q t = cs ++ [(q, t)]
  | [], _ => rfl
  | c :: r, h => by
    have h1 := h c (by simp)
    have ih := putD_new (q := q) (t := t) (cs := r) fun c hc => h c (by simp [hc])
    obtain ⟨k, v⟩ := c
    unfold putD
    simp only at h1
    rw [h1, ih]
    simp
theorem keys_fresh {a : List D} {q : D} {b : List D} (h : keysOk (a ++ q :: b) = true) : q.isKey = true ∧ ∀ k ∈ a, k.same q = false := by
  have h1 := keysOk_key h
  have h2 := keysOk_nd h
  have hq := h1 q (by simp)
  refine ⟨hq, fun k hk => ?_⟩
  have hk1 := h1 k (by simp [hk])
  rw [same_iff hk1 hq]
  refine decide_eq_false fun e => ?_
  rw [List.map_append, List.nodup_append] at h2
  exact h2.2.2 k.key (List.mem_map.mpr ⟨k, hk, rfl⟩) q.key (by simp) e
section
variable {asg : D → Fr → Option Fr} {vs : List Nat} {fc : M Bool} {fk fe : M EV}
def dturn (asg : D → Fr → Option Fr) (vs : List Nat) (fc : M Bool) (fk fe : M EV) (d : D) (ρ : Fr) : Option (D × T × Fr) := match asg d ρ with
  | none => none
  | some ρ1 => match fc ρ1 with
    | some (.ok true, ρ2) => match fk ρ2 with
      | some (.ok (.val (.leaf (some q))), ρ3) => if q.isKey = true then (match fe ρ3 with
        | some (.ok (.val t), ρ4) => some (q, t, ρ4.wipe vs)
        | _ => none) else none
      | _ => none
    | _ => none
theorem dcD_step {d q : D} {ds : List D} {acc : List (D × T)} {ρ ρ' : Fr} {t : T} (h : dturn asg vs fc fk fe d ρ = some (q, t, ρ')) (ha : acc.length < sizeLine) : dcD asg vs fc fk fe (d :: ds) acc ρ = dcD asg vs fc fk fe ds (putD acc q t) ρ' := by
  unfold dturn at h
  rw [dcD]
  cases q1 : asg d ρ with
  | none => rw [q1] at h; cases h
  | some ρ1 =>
    rw [q1] at h
    simp only at h ⊢
    cases q2 : fc ρ1 with
    | none => rw [q2] at h; cases h
    | some y2 =>
      obtain ⟨r2, ρ2⟩ := y2
      rw [q2] at h
      cases r2 with
      | error e => cases h
      | ok b =>
        cases b with
        | false => cases h
        | true =>
          simp only at h ⊢
          cases q3 : fk ρ2 with
          | none => rw [q3] at h; cases h
          | some y3 =>
            obtain ⟨r3, ρ3⟩ := y3
            rw [q3] at h
            cases r3 with
            | error e => cases h
            | ok ev =>
              cases ev with
              | ptr j p => cases h
              | val tv =>
                cases tv with
                | node u k cs => cases h
                | leaf o =>
                  cases o with
                  | none => cases h
                  | some qq =>
                    simp only at h ⊢
                    by_cases hk : qq.isKey = true
                    · rw [if_pos hk] at h ⊢
                      cases q4 : fe ρ3 with
                      | none => rw [q4] at h; cases h
                      | some y4 =>
                        obtain ⟨r4, ρ4⟩ := y4
                        rw [q4] at h
                        cases r4 with
                        | error e => cases h
                        | ok ev =>
                          cases ev with
                          | ptr j p => cases h
                          | val tv =>
                            cases h
                            simp only
                            rw [if_pos ha]
                    · rw [if_neg hk] at h; cases h
theorem dc_map0 (ρ : Fr) (g : D → T) : ∀ (ds : List D) (acc : List (D × T)), acc.length + ds.length ≤ sizeLine → keysOk (acc.map (·.1) ++ ds) = true → (∀ d ∈ ds, dturn asg vs fc fk fe d ρ = some (d, g d, ρ)) →
    dcD asg vs fc fk fe ds acc ρ = some (.ok (.val (.node () .dct (acc ++ ds.map fun d => (d, g d)))), ρ)
  | [], acc, _, _, _ => by rw [dcD]; simp
  | d :: ds, acc, hl, hk, h => by
    rw [List.length_cons] at hl
    have fr := keys_fresh hk
    rw [dcD_step (h d (by simp)) (by omega), putD_new (fun c hc => fr.2 c.1 (List.mem_map.mpr ⟨c, hc, rfl⟩)), dc_map0 ρ g ds _ (by rw [List.length_append, List.length_singleton]; omega) (by simpa using hk) (fun x hx => h x (by simp [hx]))]
    simp
theorem dc_map (ρ : Fr) (g : D → T) (ds : List D) (hl : ds.length ≤ sizeLine) (hk : keysOk ds = true) (h : ∀ d ∈ ds, dturn asg vs fc fk fe d ρ = some (d, g d, ρ)) : dcD asg vs fc fk fe ds [] ρ = some (.ok (.val (.node () .dct (ds.map fun d => (d, g d)))), ρ) := by
  simpa using dc_map0 ρ g ds [] (by simpa using hl) (by simpa using hk) h
end
theorem keysOk_strs {ns : List Str} (h : ns.Nodup) : keysOk (ns.map .str) = true := by
  refine keysOk_mk (fun l hl => ?_) ?_
  · obtain ⟨s, _, rfl⟩ := List.mem_map.mp hl
    rfl
  · rw [List.map_map]
    exact List.pairwise_map.mpr (h.imp fun hne e => hne (by
      have e : (Sum.inr _ : Key) = Sum.inr _ := e
      cases e; rfl))
end LT

namespace CC
open PySem PySem.Spec L2 LT
/-! _law_copy -/
mutual
def cpT : D → T
  | .list xs => nodeL (cpL xs)
  | .dict kvs => .node () .dct (cpK kvs)
  | d => .leaf (some d)
def cpL : List D → List T
  | [] => []
  | x :: xs => cpT x :: cpL xs
def cpK : List (D × D) → List (D × T)
  | [] => []
  | c :: cs => (c.1, cpT c.2) :: cpK cs
end
theorem cpL_map (xs : List D) : cpL xs = xs.map cpT := by
  induction xs with
  | nil => rfl
  | cons x xs ih => rw [cpL, ih]; rfl
theorem cpK_map (xs : List (D × D)) : cpK xs = xs.map fun c => (c.1, cpT c.2) := by
  induction xs with
  | nil => rfl
  | cons x xs ih => rw [cpK, ih]; rfl
mutual
theorem cpT_toD : ∀ d : D, TR.toD (cpT d) = some d
  | .none | .bool _ | .int _ | .str _ | .tuple _ => by all_goals (unfold cpT; rfl)
  | .list xs => by
    have h := cpL_toD xs
    unfold cpT nodeL
    rw [TR.toD, h.1]
    simp [Function.comp_def]
  | .dict kvs => by
    unfold cpT
    rw [TR.toD, cpK_toD kvs]
theorem cpL_toD : ∀ xs : List D, toDs ((cpL xs).map fun t => ((.none : D), t)) = some (xs.map fun x => (.none, x)) ∧ True
  | [] => ⟨rfl, trivial⟩
  | x :: xs => by
    have h := cpL_toD xs
    refine ⟨?_, trivial⟩
    rw [cpL, List.map_cons, toDs, cpT_toD x, h.1]
    rfl
theorem cpK_toD : ∀ kvs : List (D × D), toDs (cpK kvs) = some kvs
  | [] => rfl
  | c :: cs => by
    rw [cpK, toDs, cpT_toD c.2, cpK_toD cs]
end
def nestD : D → Bool
  | .list _ => true
  | .dict _ => true
  | _ => false
mutual
/-- what _law_copy copies well -/
def copD : D → Bool
  | .list xs => decide (xs.length ≤ 16777216) && copL xs
  | .tuple xs => decide (xs.length ≤ 16777216) && copU xs
  | .dict kvs => decide (kvs.length ≤ 16777216) && (keysOk (kvs.map (·.1)) && copK kvs)
  | _ => true
def copL : List D → Bool
  | [] => true
  | x :: xs => copD x && copL xs
def copU : List D → Bool
  | [] => true
  | x :: xs => !nestD x && (copD x && copU xs)
def copK : List (D × D) → Bool
  | [] => true
  | c :: cs => copD c.2 && copK cs
end
theorem copL_mem : ∀ {xs : List D}, copL xs = true → ∀ x ∈ xs, copD x = true
  | x :: xs, h, d, hd => by
    rw [copL, Bool.and_eq_true] at h
    rcases List.mem_cons.mp hd with e | e
    · rw [e]; exact h.1
    · exact copL_mem h.2 d e
theorem copK_mem : ∀ {xs : List (D × D)}, copK xs = true → ∀ x ∈ xs, copD x.2 = true
  | x :: xs, h, d, hd => by
    rw [copK, Bool.and_eq_true] at h
    rcases List.mem_cons.mp hd with e | e
    · rw [e]; exact h.1
    · exact copK_mem h.2 d e
theorem copU_mem : ∀ {xs : List D}, copU xs = true → ∀ x ∈ xs, copD x = true ∧ cpT x = lf x
  | x :: xs, h, d, hd => by
    rw [copU, Bool.and_eq_true, Bool.and_eq_true] at h
    rcases List.mem_cons.mp hd with e | e
    · subst e
      refine ⟨h.2.1, ?_⟩
      have h1 := h.1
      cases d <;> first | (unfold cpT; rfl) | (cases h1)
    · exact copU_mem h.2.2 d e
theorem cp_lc (f : FD) (g : D → T) (which : M EV) (hw : which = e__law_copy_1 f ∨ which = e__law_copy_2 f) (d : D) (xs : List D) (hl : xs.length ≤ 16777216) (h : ∀ x ∈ xs, f [lf x] = some (.ok (g x), [])) :
    lcD (asg1 1) [1] (M.ret true) which xs [] ⟨[.own (lf d), .emp, .emp, .emp], [], []⟩ = some (.ok (.val (nodeL (xs.map g))), ⟨[.own (lf d), .emp, .emp, .emp], [], []⟩) := by
  refine lc_map _ g xs (by rw [sizeLine_eq]; exact hl) fun x hx => ?_
  have e := h x hx
  rcases hw with rfl | rfl
  · simp [lturn, e__law_copy_1, e]
  · simp [lturn, e__law_copy_2, e]
theorem cp_for (f : FD) (kvs : List (D × D)) (hk : keysOk (kvs.map (·.1)) = true) (hl : kvs.length ≤ 16777216) (h : ∀ c ∈ kvs, f [lf c.2] = some (.ok (cpT c.2), [])) : ∀ (b a : List (D × D)), a ++ b = kvs →
    LT.forD (asg1 3) [3] (b__law_copy_1 f) (b.map (·.1)) ⟨[.own (lf (.dict kvs)), .emp, .own (.node () .dct (cpK a)), .emp], [], []⟩ = some (.ok .nx, ⟨[.own (lf (.dict kvs)), .emp, .own (.node () .dct (cpK kvs)), .emp], [], []⟩)
  | [], a, e => by
    rw [List.append_nil] at e
    subst e
    exact forD_nil (by simp)
  | c :: b, a, e => by
    have hc : c ∈ kvs := by rw [← e]; simp
    have e1 := h c hc
    have e2 := dlook_mem hk c hc
    have fr := keys_fresh (a := a.map (·.1)) (q := c.1) (b := b.map (·.1)) (by rw [← e] at hk; simpa using hk)
    have e3 : putD (cpK a) c.1 (cpT c.2) = cpK (a ++ [c]) := by
      rw [putD_new (fun x hx => by
        rw [cpK_map] at hx
        obtain ⟨y, hy, rfl⟩ := List.mem_map.mp hx
        exact fr.2 y.1 (List.mem_map.mpr ⟨y, hy, rfl⟩)), cpK_map, cpK_map]
      simp
    have e4 : dIx (.dict kvs) c.1 = some c.2 := by rw [dIx_dict c.1 kvs fr.1]; exact e2
    have al : (cpK a).length < 16777216 := by
      rw [cpK_map]
      have := congrArg List.length e
      simp at this ⊢
      omega
    have fk := fr.1
    have tn : turn (asg1 3) [3] (b__law_copy_1 f) c.1 ⟨[.own (lf (.dict kvs)), .emp, .own (.node () .dct (cpK a)), .emp], [], []⟩ = some (.ok .nx, ⟨[.own (lf (.dict kvs)), .emp, .own (.node () .dct (cpK (a ++ [c]))), .emp], [], []⟩) := by
      generalize cpT c.2 = tc at *
      generalize c.1 = q at *
      generalize c.2 = v at *
      simp [turn, b__law_copy_1, e4, e1, e3, al, fk]
    rw [List.map_cons]
    exact (forD_go (by simp) tn).trans (cp_for f kvs hk hl h b (a ++ [c]) (by simp [e]))
theorem copy_n : ∀ (n : Nat) (d : D), copD d = true → deepD d < n → R_law_copy n [lf d] = some (.ok (cpT d), [])
  | 0, _, _, h => by omega
  | n + 1, d, hc, hd => by
    cases d with
    | none => simp [R_law_copy, mkF, d__law_copy, cpT]
    | bool b => simp [R_law_copy, mkF, d__law_copy, cpT]
    | int i => simp [R_law_copy, mkF, d__law_copy, cpT]
    | str s => simp [R_law_copy, mkF, d__law_copy, cpT]
    | list xs =>
      rw [copD, Bool.and_eq_true] at hc
      have hl : xs.length ≤ 16777216 := by simpa using hc.1
      have dd : deepD.deepL xs < n := by rw [deepD] at hd; omega
      have e := cp_lc (R_law_copy n) cpT _ (.inl rfl) (.list xs) xs hl fun x hx => copy_n n x (copL_mem hc.2 x hx) (by have := deepL_mem x hx; omega)
      have hR : R_law_copy (n + 1) = mkF 3 [] (d__law_copy (R_law_copy n)) := rfl
      rw [hR, cpT, cpL_map]
      generalize R_law_copy n = f at *
      generalize xs.map cpT = ys at *
      simp [mkF, d__law_copy, e]
    | tuple xs =>
      rw [copD, Bool.and_eq_true] at hc
      have hl : xs.length ≤ 16777216 := by simpa using hc.1
      have dd : deepD.deepL xs < n := by rw [deepD] at hd; omega
      have e := cp_lc (R_law_copy n) (fun x => lf x) _ (.inr rfl) (.tuple xs) xs hl fun x hx => by
        have q := copU_mem hc.2 x hx
        have z := copy_n n x q.1 (by have := deepL_mem x hx; omega)
        rw [q.2] at z
        exact z
      have e : lcD (asg1 1) [1] (M.ret true) (e__law_copy_2 (R_law_copy n)) xs [] ⟨[.own (lf (.tuple xs)), .emp, .emp, .emp], [], []⟩ = some (.ok (.val (listT xs)), ⟨[.own (lf (.tuple xs)), .emp, .emp, .emp], [], []⟩) := e
      have hR : R_law_copy (n + 1) = mkF 3 [] (d__law_copy (R_law_copy n)) := rfl
      have hc : cpT (.tuple xs) = lf (.tuple xs) := by unfold cpT; rfl
      rw [hR, hc]
      generalize R_law_copy n = f at *
      simp [mkF, d__law_copy, e]
    | dict kvs =>
      rw [copD, Bool.and_eq_true, Bool.and_eq_true] at hc
      have hl : kvs.length ≤ 16777216 := by simpa using hc.1
      have dd : deepD.deepK kvs < n := by rw [deepD] at hd; omega
      have e := cp_for (R_law_copy n) kvs hc.2.1 hl (fun c hx => copy_n n c.2 (copK_mem hc.2.2 c hx) (by have := deepK_mem c hx; omega)) kvs [] rfl
      have e : LT.forD (asg1 3) [3] (b__law_copy_1 (R_law_copy n)) (kvs.map (·.1)) ⟨[.own (lf (.dict kvs)), .emp, .own (.node () .dct []), .emp], [], []⟩ = _ := e
      have d0 : ∀ ρ, LT.M.dict0 ρ = some (.ok (.val (.node () .dct [])), ρ) := fun _ => rfl
      have hR : R_law_copy (n + 1) = mkF 3 [] (d__law_copy (R_law_copy n)) := rfl
      rw [hR, cpT]
      generalize R_law_copy n = f at *
      generalize cpK kvs = ck at *
      simp [mkF, d__law_copy, e, d0]
theorem copy_eq (d : D) (h : copD d = true) (hd : deepD d < 30) : F__law_copy [lf d] = some (.ok (cpT d), []) := copy_n 30 d h hd
end CC

namespace CC
open PySem PySem.Spec L2 LT
/-! values that are compared and copied well -/
def Fine (n : Nat) (d : D) : Prop := niceD d = true ∧ copD d = true ∧ deepD d ≤ n
theorem copL_of : ∀ {xs : List D}, (∀ x ∈ xs, copD x = true) → copL xs = true
  | [], _ => rfl
  | x :: xs, h => by rw [copL, h x (by simp), copL_of fun y hy => h y (by simp [hy])]; rfl
theorem copU_of : ∀ {xs : List D}, (∀ x ∈ xs, copD x = true ∧ nestD x = false) → copU xs = true
  | [], _ => rfl
  | x :: xs, h => by rw [copU, (h x (by simp)).1, (h x (by simp)).2, copU_of fun y hy => h y (by simp [hy])]; rfl
theorem copK_of : ∀ {xs : List (D × D)}, (∀ x ∈ xs, copD x.2 = true) → copK xs = true
  | [], _ => rfl
  | x :: xs, h => by rw [copK, h x (by simp), copK_of fun y hy => h y (by simp [hy])]; rfl
theorem deepL_le : ∀ {xs : List D} {n : Nat}, (∀ d ∈ xs, deepD d ≤ n) → deepD.deepL xs ≤ n
  | [], _, _ => by rw [deepD.deepL]; omega
  | x :: xs, n, h => by
    have h1 := h x (by simp)
    have h2 := deepL_le (xs := xs) (n := n) fun d hd => h d (by simp [hd])
    rw [deepD.deepL]; omega
theorem deepK_le : ∀ {xs : List (D × D)} {n : Nat}, (∀ d ∈ xs, deepD d.2 ≤ n) → deepD.deepK xs ≤ n
  | [], _, _ => by rw [deepD.deepK]; omega
  | x :: xs, n, h => by
    have h1 := h x (by simp)
    have h2 := deepK_le (xs := xs) (n := n) fun d hd => h d (by simp [hd])
    rw [deepD.deepK]; omega
theorem fine_list {n : Nat} {xs : List D} (hl : xs.length ≤ 16777216) (h : ∀ x ∈ xs, Fine n x) : Fine (n + 1) (.list xs) := by
  refine ⟨?_, ?_, ?_⟩
  · rw [niceD, niceL_of fun x hx => (h x hx).1]; simpa using hl
  · rw [copD, copL_of fun x hx => (h x hx).2.1]; simpa using hl
  · rw [deepD]; have := deepL_le (n := n) fun x hx => (h x hx).2.2; omega
theorem fine_tup {n : Nat} {xs : List D} (hl : xs.length ≤ 16777216) (h : ∀ x ∈ xs, Fine n x ∧ nestD x = false) : Fine (n + 1) (.tuple xs) := by
  refine ⟨?_, ?_, ?_⟩
  · rw [niceD, niceL_of fun x hx => (h x hx).1.1]; simpa using hl
  · rw [copD, copU_of fun x hx => ⟨(h x hx).1.2.1, (h x hx).2⟩]; simpa using hl
  · rw [deepD]; have := deepL_le (n := n) fun x hx => (h x hx).1.2.2; omega
theorem fine_dict {n : Nat} {kvs : List (D × D)} (hl : kvs.length ≤ 16777216) (hk : keysOk (kvs.map (·.1)) = true) (h : ∀ c ∈ kvs, Fine n c.2) : Fine (n + 1) (.dict kvs) := by
  refine ⟨?_, ?_, ?_⟩
  · rw [niceD, hk, niceK_of fun x hx => (h x hx).1]; rfl
  · rw [copD, hk, copK_of fun x hx => (h x hx).2.1]; simpa using hl
  · rw [deepD]; have := deepK_le (n := n) fun x hx => (h x hx).2.2; omega
theorem fine_str (n : Nat) (s : Str) : Fine n (.str s) ∧ nestD (.str s) = false := ⟨⟨rfl, rfl, Nat.zero_le _⟩, rfl⟩
theorem fine_int (n : Nat) (s : Int) : Fine n (.int s) ∧ nestD (.int s) = false := ⟨⟨rfl, rfl, Nat.zero_le _⟩, rfl⟩
theorem fine_bool (n : Nat) (s : Bool) : Fine n (.bool s) ∧ nestD (.bool s) = false := ⟨⟨rfl, rfl, Nat.zero_le _⟩, rfl⟩
theorem fine_none (n : Nat) : Fine n .none ∧ nestD .none = false := ⟨⟨rfl, rfl, Nat.zero_le _⟩, rfl⟩
theorem fine_cl {cs : List Col} {c : Cl} (h : IsCl cs c) : Fine 1 c.d := by
  have hv : Fine 0 c.val ∧ nestD c.val = false := by
    obtain ⟨col, _, _, h⟩ := h.ex
    rcases h with h | ⟨_, h⟩
    · rw [h.2]; exact fine_none 0
    · rcases h with q | ⟨_, i, q, _⟩ | ⟨_, s, q, _⟩ <;> first | (rw [q.2]; exact fine_none 0) | (rw [q]; first | exact fine_int 0 i | exact fine_str 0 s)
  refine fine_tup (by simp) fun x hx => ?_
  rcases List.mem_cons.mp hx with e | hx
  · rw [e]; exact fine_str 0 _
  · rcases List.mem_cons.mp hx with e | hx
    · rw [e]; exact fine_str 0 _
    · rw [List.mem_singleton.mp hx]; exact hv
theorem fine_cond {cs : List Col} {x : List (List Cl)} (h : IsCond cs x) : Fine 3 (condD x) := by
  have hl := h.len
  refine fine_tup (by simp; omega) fun d hd => ?_
  obtain ⟨a, ha, rfl⟩ := List.mem_map.mp hd
  refine ⟨?_, rfl⟩
  have h2 := (h.alt a ha).1
  refine fine_tup (by simp; omega) fun d hd => ?_
  obtain ⟨c, hc, rfl⟩ := List.mem_map.mp hd
  exact ⟨fine_cl ((h.alt a ha).2 c hc), rfl⟩
theorem Fine.mono {n m : Nat} {d : D} (h : Fine n d) (l : n ≤ m) : Fine m d := ⟨h.1, h.2.1, Nat.le_trans h.2.2 l⟩
theorem fine_col (c : Col) : Fine 1 c.d := by
  refine fine_tup (by simp) fun x hx => ?_
  rcases List.mem_cons.mp hx with e | hx
  · rw [e]; exact fine_str 0 _
  · rcases List.mem_cons.mp hx with e | hx
    · rw [e]; exact fine_str 0 _
    · rw [List.mem_singleton.mp hx]; exact fine_bool 0 _
theorem fine_ref (r : Str × Str) : Fine 1 (refD r) := by
  refine fine_tup (by simp) fun x hx => ?_
  rcases List.mem_cons.mp hx with e | hx
  · rw [e]; exact fine_str 0 _
  · rw [List.mem_singleton.mp hx]; exact fine_str 0 _
theorem keys4 : keysOk [.str "columns", .str "checks", .str "uniques", .str "references"] = true := by
  have h : [("columns" : Str), "checks", "uniques", "references"].Nodup := by decide +kernel
  exact keysOk_strs h
theorem fine_tb {B : Nat} {b : Tb} (h : TbOk B b) (hB : B ≤ 1000) : Fine 5 (tbD b) := by
  obtain ⟨cs, cks, us, rs, i⟩ := h
  refine fine_dict (by simp) keys4 fun c hc => ?_
  rcases List.mem_cons.mp hc with e | hc
  · rw [e]
    show Fine 4 (.list b.cols)
    rw [i.cols]
    refine (fine_list (n := 1) (by have := i.len5; simp; omega) fun x hx => ?_).mono (by omega)
    obtain ⟨c, _, rfl⟩ := List.mem_map.mp hx
    exact fine_col c
  · rcases List.mem_cons.mp hc with e | hc
    · rw [e]
      show Fine 4 (.list b.checks)
      rw [i.checks]
      refine (fine_list (n := 3) (by have := i.clen; simp; omega) fun x hx => ?_).mono (by omega)
      obtain ⟨c, h, rfl⟩ := List.mem_map.mp hx
      exact fine_cond (i.cok c h)
    · rcases List.mem_cons.mp hc with e | hc
      · rw [e]
        show Fine 4 (.list b.uniqs)
        rw [i.uniqs]
        refine (fine_list (n := 0) (by have := i.ulen; simp; omega) fun x hx => ?_).mono (by omega)
        obtain ⟨c, h, rfl⟩ := List.mem_map.mp hx
        exact (fine_str 0 c).1
      · rw [List.mem_singleton.mp hc]
        show Fine 4 (.list b.refs)
        rw [i.refs]
        refine (fine_list (n := 1) (by have := i.rlen; simp; omega) fun x hx => ?_).mono (by omega)
        obtain ⟨c, h, rfl⟩ := List.mem_map.mp hx
        exact fine_ref c
theorem sch_keys (ts : List (Str × Tb)) : (ts.map fun x => ((.str x.1 : D), tbD x.2)).map (·.1) = (ts.map (·.1)).map .str := by
  rw [List.map_map, List.map_map]; rfl
theorem fine_sch {B : Nat} {ts : List (Str × Tb)} (h : SOk B ts) (hB : B ≤ 1000) (hl : ts.length ≤ 1000) : Fine 6 (schD ts) := by
  refine fine_dict (by simp; omega) ?_ fun c hc => ?_
  · rw [sch_keys]; exact keysOk_strs h.nd
  · obtain ⟨x, hx, rfl⟩ := List.mem_map.mp hc
    exact fine_tb (h.tb x hx) hB
end CC

namespace Ck07
open PySem PySem.Spec L2 LT CC
theorem mkF_ret (m : Nat) (body : M SO) (ts : List T) (r : T) (ρ' : Fr) (h : body ⟨ts.map .own ++ List.replicate m .emp, [], []⟩ = some (.ok (.ret r), ρ')) : mkF m [] body ts = some (.ok r, []) := by
  unfold mkF
  rw [h]
  rfl
theorem tb_cols (b : Tb) : dIx (tbD b) (.str "columns") = some (.list b.cols) := by unfold tbD; rw [dIx_dict _ _ rfl]; rfl
theorem tb_checks (b : Tb) : dIx (tbD b) (.str "checks") = some (.list b.checks) := by unfold tbD; rw [dIx_dict _ _ rfl]; simp [dlook, List.find?_cons, nm1]
theorem tb_uniqs (b : Tb) : dIx (tbD b) (.str "uniques") = some (.list b.uniqs) := by unfold tbD; rw [dIx_dict _ _ rfl]; simp [dlook, List.find?_cons, nm1]
theorem tb_refs (b : Tb) : dIx (tbD b) (.str "references") = some (.list b.refs) := by unfold tbD; rw [dIx_dict _ _ rfl]; simp [dlook, List.find?_cons, nm1]
theorem sx_cols (b : Tb) (sl : List SV) (tm : List (Option (Nat × List D))) (io : List Nat) : sIx (sVar 0) (fun _ => some (.str "columns")) ⟨.own (lf (tbD b)) :: sl, tm, io⟩ = some (.list b.cols) := by
  simp [tbD, dlook, List.find?_cons, nm1]
theorem sx_checks (b : Tb) (sl : List SV) (tm : List (Option (Nat × List D))) (io : List Nat) : sIx (sVar 0) (fun _ => some (.str "checks")) ⟨.own (lf (tbD b)) :: sl, tm, io⟩ = some (.list b.checks) := by
  simp [tbD, dlook, List.find?_cons, nm1]
theorem sx_refs (b : Tb) (sl : List SV) (tm : List (Option (Nat × List D))) (io : List Nat) : sIx (sVar 0) (fun _ => some (.str "references")) ⟨.own (lf (tbD b)) :: sl, tm, io⟩ = some (.list b.refs) := by
  simp [tbD, dlook, List.find?_cons, nm1]
theorem column_names_eq (b : Tb) (cs : List Col) (hb : b.cols = cs.map Col.d) (hl : cs.length ≤ 1000) : F_column_names [lf (tbD b)] = some (.ok (strsT (cs.map (·.name))), []) := by
  have e := lc_mapL (asg := asg1 1) (vs := [1]) (fc := M.ret true) (fe := e_column_names_1) Col.d ⟨[.own (lf (tbD b)), .emp], [], []⟩ (fun c => .str c.name) cs [] (by rw [sizeLine_eq]; simp; omega) (by
    intro c hc
    simp [lturn, e_column_names_1, Col.d])
  rw [← hb] at e
  have e : lcD (asg1 1) [1] (M.ret true) e_column_names_1 b.cols [] ⟨[.own (lf (tbD b)), .emp], [], []⟩ = some (.ok (.val (strsT (cs.map (·.name)))), ⟨[.own (lf (tbD b)), .emp], [], []⟩) := by
    simp only [List.map_nil, List.nil_append] at e
    rw [e]
    unfold strsT
    rw [List.map_map]
    rfl
  have s1 := sx_cols b
  have s2 := tb_cols b
  generalize strsT (cs.map (·.name)) = R at *
  generalize b.cols = C at *
  generalize tbD b = X at *
  have q : d_column_names ⟨[.own (lf X), .emp], [], []⟩ = some (.ok (.ret R), ⟨[.own (lf X), .emp], [], []⟩) := by
    unfold d_column_names M.lcU
    simp [s1, s2, e, -sIx_app]
  exact mkF_ret 1 d_column_names [lf X] R _ q
/-! is_used -/
theorem iu_lc (X n : D) (rs : List (Str × Str)) (hl : rs.length ≤ 1000) : lcD (asgT (asgC (asg1 3) (asgC (asg1 4) asgN))) [3, 4] (M.ret true) e_is_used_1 (rs.map refD) [] ⟨[.own (lf X), .own (lf n), .emp, .emp, .emp], [], []⟩ = some (.ok (.val (strsT (rs.map (·.1)))), ⟨[.own (lf X), .own (lf n), .emp, .emp, .emp], [], []⟩) := by
  have e := lc_mapL (asg := asgT (asgC (asg1 3) (asgC (asg1 4) asgN))) (vs := [3, 4]) (fc := M.ret true) (fe := e_is_used_1) refD ⟨[.own (lf X), .own (lf n), .emp, .emp, .emp], [], []⟩ (fun r => .str r.1) rs [] (by rw [sizeLine_eq]; simp; omega) (by
    intro c hc
    simp [lturn, e_is_used_1, refD])
  simp only [List.map_nil, List.nil_append] at e
  rw [e]
  unfold strsT
  rw [List.map_map]
  rfl
def usedB (cks : List (List (List Cl))) (us : List Str) (rs : List (Str × Str)) (n : Str) : Bool := cks.any (menB n) || (decide (n ∈ us) || decide (n ∈ rs.map (·.1)))
theorem is_used_eq (b : Tb) (cks : List (List (List Cl))) (us : List Str) (rs : List (Str × Str)) (h1 : b.checks = cks.map fun x => condD x) (h2 : b.uniqs = us.map .str) (h3 : b.refs = rs.map refD) (hl : rs.length ≤ 1000) (n : Str) : F_is_used [lf (tbD b), lf (.str n)] = some (.ok (lf (.bool (usedB cks us rs n))), []) := by
  have e := for_anyL (asg := asg1 2) (ws := [2]) (body := b_is_used_1) (fun x => condD x) ⟨[.own (lf (tbD b)), .own (lf (.str n)), .emp, .emp, .emp], [], []⟩ (lf (.bool true)) (menB n) (by simp) cks (by
    intro x hx
    have m := mentions_eq n x
    cases q : menB n x with
    | true =>
      rw [q] at m
      rw [if_pos rfl]
      generalize condD x = c at *
      generalize tbD b = X at *
      simp [turn, b_is_used_1, m]
    | false =>
      rw [q] at m
      rw [if_neg (by simp)]
      generalize condD x = c at *
      generalize tbD b = X at *
      simp [turn, b_is_used_1, m])
  have l := iu_lc (tbD b) (.str n) rs hl
  have s1 := sx_checks b
  have t1 := tb_checks b
  have t2 := tb_uniqs b
  have t3 := tb_refs b
  have o1 := opIn_strs false n us
  have o2 := opIn_strs false n (rs.map (·.1))
  rw [← h2] at o1
  rw [← h3] at l
  rw [← h1] at e
  simp only [strsT] at l
  unfold usedB
  generalize (rs.map (·.1)).map PyData.str = RL at *
  generalize decide (n ∈ rs.map (·.1)) = d2 at *
  generalize decide (n ∈ us) = d1 at *
  generalize b.checks = CK at *
  generalize b.uniqs = UN at *
  generalize b.refs = RF at *
  generalize tbD b = X at *
  cases q : cks.any (menB n) with
  | true =>
    rw [if_pos q] at e
    obtain ⟨ρ', e⟩ := e
    refine mkF_ret 3 d_is_used [lf X, lf (.str n)] _ ρ' ?_
    simp [d_is_used, s1, t1, e, -sIx_app]
  | false =>
    rw [if_neg (by simp [q])] at e
    cases d1 with
    | true =>
      refine mkF_ret 3 d_is_used [lf X, lf (.str n)] _ ⟨[.own (lf X), .own (lf (.str n)), .emp, .emp, .emp], [], []⟩ ?_
      simp [d_is_used, s1, t1, t2, e, o1, -sIx_app]
    | false =>
      refine mkF_ret 3 d_is_used [lf X, lf (.str n)] _ ⟨[.own (lf X), .own (lf (.str n)), .emp, .emp, .emp], [], []⟩ ?_
      simp [d_is_used, s1, t1, t2, t3, e, o1, o2, l, -sIx_app]
/-! uses -/
theorem us1 (X : D) (n : Str) (y z : D) (a : List Cl) : if a.any (fun c => decide (c.name = n)) = true then ∃ ρ', LT.forD (asg1 4) [4] b__law_uses_1 (a.map Cl.d) ⟨[.own (lf X), .own (lf (.str n)), .own (lf y), .own (lf z), .emp, .emp], [], []⟩ = some (.ok (.ret (lf (.bool true))), ρ')
    else LT.forD (asg1 4) [4] b__law_uses_1 (a.map Cl.d) ⟨[.own (lf X), .own (lf (.str n)), .own (lf y), .own (lf z), .emp, .emp], [], []⟩ = some (.ok .nx, ⟨[.own (lf X), .own (lf (.str n)), .own (lf y), .own (lf z), .emp, .emp], [], []⟩) := by
  refine for_anyL Cl.d _ _ _ (by simp) a fun c hm => ?_
  by_cases q : c.name = n
  · rw [if_pos (by simp [q])]
    simp [turn, b__law_uses_1, Cl.d, q]
  · rw [if_neg (by simp [q])]
    simp [turn, b__law_uses_1, Cl.d, q]
theorem us2 (X : D) (n : Str) (y : D) (x : List (List Cl)) : if menB n x = true then ∃ ρ', LT.forD (asg1 3) [3, 4] b__law_uses_2 (x.map fun a => altD a) ⟨[.own (lf X), .own (lf (.str n)), .own (lf y), .emp, .emp, .emp], [], []⟩ = some (.ok (.ret (lf (.bool true))), ρ')
    else LT.forD (asg1 3) [3, 4] b__law_uses_2 (x.map fun a => altD a) ⟨[.own (lf X), .own (lf (.str n)), .own (lf y), .emp, .emp, .emp], [], []⟩ = some (.ok .nx, ⟨[.own (lf X), .own (lf (.str n)), .own (lf y), .emp, .emp, .emp], [], []⟩) := by
  refine for_anyL (fun a => altD a) _ _ _ (by simp) x fun a hm => ?_
  have e := us1 X n y (altD a) a
  cases q : a.any (fun c => decide (c.name = n)) with
  | true =>
    rw [if_pos q] at e
    obtain ⟨ρ', e⟩ := e
    rw [if_pos rfl]
    simp [turn, b__law_uses_2, e]
  | false =>
    rw [if_neg (by simp [q])] at e
    rw [if_neg (by simp)]
    simp [turn, b__law_uses_2, e]
theorem us3 (X : D) (n : Str) (cks : List (List (List Cl))) : if cks.any (menB n) = true then ∃ ρ', LT.forD (asg1 2) [2, 3, 4] b__law_uses_3 (cks.map fun x => condD x) ⟨[.own (lf X), .own (lf (.str n)), .emp, .emp, .emp, .emp], [], []⟩ = some (.ok (.ret (lf (.bool true))), ρ')
    else LT.forD (asg1 2) [2, 3, 4] b__law_uses_3 (cks.map fun x => condD x) ⟨[.own (lf X), .own (lf (.str n)), .emp, .emp, .emp, .emp], [], []⟩ = some (.ok .nx, ⟨[.own (lf X), .own (lf (.str n)), .emp, .emp, .emp, .emp], [], []⟩) := by
  refine for_anyL (fun x => condD x) _ _ _ (by simp) cks fun x hm => ?_
  have e := us2 X n (condD x) x
  cases q : menB n x with
  | true =>
    rw [if_pos q] at e
    obtain ⟨ρ', e⟩ := e
    rw [if_pos rfl]
    simp [turn, b__law_uses_3, e]
  | false =>
    rw [if_neg (by simp [q])] at e
    rw [if_neg (by simp)]
    simp [turn, b__law_uses_3, e]
theorem us4 (X : D) (n : Str) (rs : List (Str × Str)) : if rs.any (fun r => decide (r.1 = n)) = true then ∃ ρ', LT.forD (asg1 5) [5] b__law_uses_4 (rs.map refD) ⟨[.own (lf X), .own (lf (.str n)), .emp, .emp, .emp, .emp], [], []⟩ = some (.ok (.ret (lf (.bool true))), ρ')
    else LT.forD (asg1 5) [5] b__law_uses_4 (rs.map refD) ⟨[.own (lf X), .own (lf (.str n)), .emp, .emp, .emp, .emp], [], []⟩ = some (.ok .nx, ⟨[.own (lf X), .own (lf (.str n)), .emp, .emp, .emp, .emp], [], []⟩) := by
  refine for_anyL refD _ _ _ (by simp) rs fun c hm => ?_
  by_cases q : c.1 = n
  · rw [if_pos (by simp [q])]
    simp [turn, b__law_uses_4, refD, q]
  · rw [if_neg (by simp [q])]
    simp [turn, b__law_uses_4, refD, q]
theorem uses_eq (b : Tb) (cks : List (List (List Cl))) (us : List Str) (rs : List (Str × Str)) (h1 : b.checks = cks.map fun x => condD x) (h2 : b.uniqs = us.map .str) (h3 : b.refs = rs.map refD) (n : Str) : F__law_uses [lf (tbD b), lf (.str n)] = some (.ok (lf (.bool (usedB cks us rs n))), []) := by
  have e := us3 (tbD b) n cks
  have e4 := us4 (tbD b) n rs
  have s1 := sx_checks b
  have s3 := sx_refs b
  have t1 := tb_checks b
  have t2 := tb_uniqs b
  have t3 := tb_refs b
  have o1 := opIn_strs false n us
  have hr : rs.any (fun r => decide (r.1 = n)) = decide (n ∈ rs.map (·.1)) := by
    rw [Bool.eq_iff_iff]
    simp only [List.any_eq_true, decide_eq_true_eq, List.mem_map]
  rw [← h2] at o1
  rw [← h3] at e4
  rw [← h1] at e
  rw [hr] at e4
  unfold usedB
  generalize decide (n ∈ rs.map (·.1)) = d2 at *
  generalize decide (n ∈ us) = d1 at *
  generalize b.checks = CK at *
  generalize b.uniqs = UN at *
  generalize b.refs = RF at *
  generalize tbD b = X at *
  cases q : cks.any (menB n) with
  | true =>
    rw [if_pos q] at e
    obtain ⟨ρ', e⟩ := e
    refine mkF_ret 4 d__law_uses [lf X, lf (.str n)] _ ρ' ?_
    simp [d__law_uses, s1, t1, e, -sIx_app]
  | false =>
    rw [if_neg (by simp [q])] at e
    cases d2 with
    | true =>
      rw [if_pos rfl] at e4
      obtain ⟨ρ', e4⟩ := e4
      refine mkF_ret 4 d__law_uses [lf X, lf (.str n)] _ ρ' ?_
      simp [d__law_uses, s1, s3, t1, t3, e, e4, -sIx_app]
    | false =>
      rw [if_neg (by simp)] at e4
      refine mkF_ret 4 d__law_uses [lf X, lf (.str n)] _ ⟨[.own (lf X), .own (lf (.str n)), .emp, .emp, .emp, .emp], [], []⟩ ?_
      simp [d__law_uses, s1, s3, t1, t2, t3, e, e4, o1, -sIx_app]
def refB (n : Str) : D → Bool
  | .tuple [_, .str o] => decide (o = n)
  | _ => false
def refAny (n : Str) (b : Tb) : Bool := b.refs.any (refB n)
structure KVs (ts : List (Str × Tb)) (KV : List (D × D)) : Prop where
  keys : KV.map (·.1) = ts.map fun x => (.str x.1 : D)
  ix : ∀ x ∈ ts, dlook KV (.str x.1) = some (tbD x.2)
theorem kvs_of {ts : List (Str × Tb)} (h : (ts.map (·.1)).Nodup) : KVs ts (ts.map fun x => (.str x.1, tbD x.2)) := by
  refine ⟨by rw [List.map_map]; rfl, fun x hx => ?_⟩
  have hk : keysOk ((ts.map fun x => ((.str x.1 : D), tbD x.2)).map (·.1)) = true := by
    rw [sch_keys]; exact keysOk_strs h
  exact dlook_mem hk (.str x.1, tbD x.2) (List.mem_map.mpr ⟨x, hx, rfl⟩)
theorem ir1 (S t : D) (n : Str) (rs : List (Str × Str)) : if rs.any (fun r => decide (r.2 = n)) = true then ∃ ρ', LT.forD (asgT (asgC (asg1 3) (asgC (asg1 4) asgN))) [3, 4] b_is_referenced_1 (rs.map refD) ⟨[.own (lf S), .own (lf (.str n)), .own (lf t), .emp, .emp], [], []⟩ = some (.ok (.ret (lf (.bool true))), ρ')
    else LT.forD (asgT (asgC (asg1 3) (asgC (asg1 4) asgN))) [3, 4] b_is_referenced_1 (rs.map refD) ⟨[.own (lf S), .own (lf (.str n)), .own (lf t), .emp, .emp], [], []⟩ = some (.ok .nx, ⟨[.own (lf S), .own (lf (.str n)), .own (lf t), .emp, .emp], [], []⟩) := by
  refine for_anyL refD _ _ _ (by simp) rs fun c hm => ?_
  by_cases q : c.2 = n
  · rw [if_pos (by simp [q])]
    simp [turn, b_is_referenced_1, refD, q]
  · rw [if_neg (by simp [q])]
    simp [turn, b_is_referenced_1, refD, q]
theorem ll1 (S t : D) (n : Str) (rs : List (Str × Str)) : if rs.any (fun r => decide (r.2 = n)) = true then ∃ ρ', LT.forD (asg1 3) [3] b__law_leads_1 (rs.map refD) ⟨[.own (lf S), .own (lf (.str n)), .own (lf t), .emp], [], []⟩ = some (.ok (.ret (lf (.bool true))), ρ')
    else LT.forD (asg1 3) [3] b__law_leads_1 (rs.map refD) ⟨[.own (lf S), .own (lf (.str n)), .own (lf t), .emp], [], []⟩ = some (.ok .nx, ⟨[.own (lf S), .own (lf (.str n)), .own (lf t), .emp], [], []⟩) := by
  refine for_anyL refD _ _ _ (by simp) rs fun c hm => ?_
  by_cases q : c.2 = n
  · rw [if_pos (by simp [q])]
    simp [turn, b__law_leads_1, refD, q]
  · rw [if_neg (by simp [q])]
    simp [turn, b__law_leads_1, refD, q]
theorem refAny_eq (n : Str) (b : Tb) (rs : List (Str × Str)) (h : b.refs = rs.map refD) : refAny n b = rs.any fun r => decide (r.2 = n) := by
  unfold refAny
  rw [h, List.any_map]
  rfl
theorem dl_refs (a b c d : D) : dlook [(.str "columns", a), (.str "checks", b), (.str "uniques", c), (.str "references", d)] (.str "references") = some d := by simp [dlook, List.find?_cons, nm1]
theorem ir_out {B : Nat} {ts : List (Str × Tb)} (ok : SOk B ts) {KV : List (D × D)} (kv : KVs ts KV) (n : Str) : if ts.any (fun x => refAny n x.2) = true then ∃ ρ', LT.forD (asg1 2) [2, 3, 4] b_is_referenced_2 (ts.map fun x => .str x.1) ⟨[.own (lf (.dict KV)), .own (lf (.str n)), .emp, .emp, .emp], [], []⟩ = some (.ok (.ret (lf (.bool true))), ρ')
    else LT.forD (asg1 2) [2, 3, 4] b_is_referenced_2 (ts.map fun x => .str x.1) ⟨[.own (lf (.dict KV)), .own (lf (.str n)), .emp, .emp, .emp], [], []⟩ = some (.ok .nx, ⟨[.own (lf (.dict KV)), .own (lf (.str n)), .emp, .emp, .emp], [], []⟩) := by
  refine for_anyL (fun x : Str × Tb => (.str x.1 : D)) _ _ (fun x => refAny n x.2) ?_ ts fun x hx => ?_
  · simp
  obtain ⟨cs, cks, us, rs, ib⟩ := ok.tb x hx
  have e := ir1 (.dict KV) (.str x.1) n rs
  have d1 : dIx (.dict KV) (.str x.1) = some (tbD x.2) := by rw [dIx_dict _ _ rfl]; exact kv.ix x hx
  have d2 := tb_refs x.2
  rw [← refAny_eq n x.2 rs ib.refs, ← ib.refs] at e
  generalize x.2.refs = RF at *
  cases q : refAny n x.2 with
  | true =>
    rw [if_pos q] at e
    obtain ⟨ρ', e⟩ := e
    rw [if_pos rfl]
    generalize tbD x.2 = X at *
    simp [turn, b_is_referenced_2, d1, d2, e]
  | false =>
    rw [if_neg (by simp [q])] at e
    rw [if_neg (by simp)]
    generalize tbD x.2 = X at *
    simp [turn, b_is_referenced_2, d1, d2, e]
theorem ll_out {B : Nat} {ts : List (Str × Tb)} (ok : SOk B ts) {KV : List (D × D)} (kv : KVs ts KV) (n : Str) : if ts.any (fun x => refAny n x.2) = true then ∃ ρ', LT.forD (asg1 2) [2, 3] b__law_leads_2 (ts.map fun x => .str x.1) ⟨[.own (lf (.dict KV)), .own (lf (.str n)), .emp, .emp], [], []⟩ = some (.ok (.ret (lf (.bool true))), ρ')
    else LT.forD (asg1 2) [2, 3] b__law_leads_2 (ts.map fun x => .str x.1) ⟨[.own (lf (.dict KV)), .own (lf (.str n)), .emp, .emp], [], []⟩ = some (.ok .nx, ⟨[.own (lf (.dict KV)), .own (lf (.str n)), .emp, .emp], [], []⟩) := by
  refine for_anyL (fun x : Str × Tb => (.str x.1 : D)) _ _ (fun x => refAny n x.2) ?_ ts fun x hx => ?_
  · simp
  obtain ⟨cs, cks, us, rs, ib⟩ := ok.tb x hx
  have e := ll1 (.dict KV) (.str x.1) n rs
  have d1 : dIx (.dict KV) (.str x.1) = some (tbD x.2) := by rw [dIx_dict _ _ rfl]; exact kv.ix x hx
  have d2 := tb_refs x.2
  have sx : sIx (sIx (sVar 0) (sVar 2)) (fun _ => some (.str "references")) ⟨[.own (lf (.dict KV)), .own (lf (.str n)), .own (lf (.str x.1)), .emp], [], []⟩ = some (.list x.2.refs) := by
    have hd := kv.ix x hx
    simp [hd, tbD, dl_refs]
  rw [← refAny_eq n x.2 rs ib.refs, ← ib.refs] at e
  generalize x.2.refs = RF at *
  cases q : refAny n x.2 with
  | true =>
    rw [if_pos q] at e
    obtain ⟨ρ', e⟩ := e
    rw [if_pos rfl]
    generalize tbD x.2 = X at *
    simp [turn, b__law_leads_2, d1, d2, e, sx, -sIx_app]
  | false =>
    rw [if_neg (by simp [q])] at e
    rw [if_neg (by simp)]
    generalize tbD x.2 = X at *
    simp [turn, b__law_leads_2, d1, d2, e, sx, -sIx_app]
theorem is_referenced_eq {B : Nat} {ts : List (Str × Tb)} (ok : SOk B ts) {KV : List (D × D)} (kv : KVs ts KV) (n : Str) : F_is_referenced [lf (.dict KV), lf (.str n)] = some (.ok (lf (.bool (ts.any fun x => refAny n x.2))), []) := by
  have e := ir_out ok kv n
  have k := kv.keys
  rw [← k] at e
  cases q : ts.any fun x => refAny n x.2 with
  | true =>
    rw [if_pos q] at e
    obtain ⟨ρ', e⟩ := e
    refine mkF_ret 3 d_is_referenced [lf (.dict KV), lf (.str n)] _ ρ' ?_
    simp [d_is_referenced, e]
  | false =>
    rw [if_neg (by simp [q])] at e
    refine mkF_ret 3 d_is_referenced [lf (.dict KV), lf (.str n)] _ ⟨[.own (lf (.dict KV)), .own (lf (.str n)), .emp, .emp, .emp], [], []⟩ ?_
    simp [d_is_referenced, e]
theorem leads_eq {B : Nat} {ts : List (Str × Tb)} (ok : SOk B ts) {KV : List (D × D)} (kv : KVs ts KV) (n : Str) : F__law_leads [lf (.dict KV), lf (.str n)] = some (.ok (lf (.bool (ts.any fun x => refAny n x.2))), []) := by
  have e := ll_out ok kv n
  have k := kv.keys
  rw [← k] at e
  cases q : ts.any fun x => refAny n x.2 with
  | true =>
    rw [if_pos q] at e
    obtain ⟨ρ', e⟩ := e
    refine mkF_ret 2 d__law_leads [lf (.dict KV), lf (.str n)] _ ρ' ?_
    simp [d__law_leads, e]
  | false =>
    rw [if_neg (by simp [q])] at e
    refine mkF_ret 2 d__law_leads [lf (.dict KV), lf (.str n)] _ ⟨[.own (lf (.dict KV)), .own (lf (.str n)), .emp, .emp], [], []⟩ ?_
    simp [d__law_leads, e]
def unf (b : Tb) : Tb := { b with fz := false }
theorem unf_D (b : Tb) : tbD (unf b) = tbD b := rfl
theorem copy_description_eq (b : Tb) : F_copy_description [lf (tbD b)] = some (.ok (tbT (unf b)), []) := by
  have t0 := tb_cols b
  have t1 := tb_checks b
  have t2 := tb_uniqs b
  have t3 := tb_refs b
  have e : (TR.node () .dct [(.str "columns", listT b.cols), (.str "checks", listT b.checks), (.str "uniques", listT b.uniqs), (.str "references", listT b.refs)] : T) = tbT (unf b) := rfl
  generalize tbT (unf b) = R at *
  generalize tbD b = X at *
  refine mkF_ret 0 d_copy_description [lf X] R ⟨[.own (lf X)], [], []⟩ ?_
  simp [d_copy_description, t0, t1, t2, t3, e]
def cgT (ts : List (Str × Tb)) : D → T
  | .str s => match lk ts s with
    | some b => tbT (unf b)
    | none => lf .none
  | _ => lf .none
theorem copy_schema_eq {ts : List (Str × Tb)} (hn : (ts.map (·.1)).Nodup) (hl : ts.length ≤ 1000) {KV : List (D × D)} (kv : KVs ts KV) : F_copy_schema [lf (.dict KV)] = some (.ok (dctT tbT (ts.map fun x => (x.1, unf x.2))), []) := by
  have hk : keysOk (ts.map fun x => (.str x.1 : D)) = true := by
    have := keysOk_strs hn
    rw [List.map_map] at this
    exact this
  have e := dc_map (asg := asg1 1) (vs := [1]) (fc := M.ret true) (fk := k_copy_schema_1) (fe := e_copy_schema_1) ⟨[.own (lf (.dict KV)), .emp], [], []⟩ (cgT ts) (ts.map fun x => (.str x.1 : D)) (by rw [sizeLine_eq]; simp; omega) hk (by
    intro d hd
    obtain ⟨x, hx, rfl⟩ := List.mem_map.mp hd
    have d1 : dIx (.dict KV) (.str x.1) = some (tbD x.2) := by rw [dIx_dict _ _ rfl]; exact kv.ix x hx
    have c := copy_description_eq x.2
    have g : cgT ts (.str x.1) = tbT (unf x.2) := by
      show (match lk ts x.1 with
        | some b => tbT (unf b)
        | none => lf .none) = _
      rw [lk_of_mem hn hx]
    rw [g]
    generalize tbT (unf x.2) = R at *
    generalize tbD x.2 = X at *
    simp [dturn, k_copy_schema_1, e_copy_schema_1, d1, c])
  have r : (TR.node () .dct ((ts.map fun x => (.str x.1 : D)).map fun d => (d, cgT ts d)) : T) = dctT tbT (ts.map fun x => (x.1, unf x.2)) := by
    unfold dctT
    rw [List.map_map, List.map_map]
    congr 1
    refine List.map_congr_left fun x hx => ?_
    show ((.str x.1 : D), cgT ts (.str x.1)) = (.str x.1, tbT (unf x.2))
    have g : cgT ts (.str x.1) = tbT (unf x.2) := by
      show (match lk ts x.1 with
        | some b => tbT (unf b)
        | none => lf .none) = _
      rw [lk_of_mem hn hx]
    rw [g]
  rw [r, ← kv.keys] at e
  generalize dctT tbT (ts.map fun x => (x.1, unf x.2)) = R at *
  refine mkF_ret 1 d_copy_schema [lf (.dict KV)] R ⟨[.own (lf (.dict KV)), .emp], [], []⟩ ?_
  simp [d_copy_schema, e]
theorem sch_unf (ts : List (Str × Tb)) : schD (ts.map fun x => (x.1, unf x.2)) = schD ts := by
  unfold schD
  rw [List.map_map]
  rfl
/-! the law's loops -/
def lwFr (z t tw : T) (S : D) (n6 n7 : SV) (n5 : SV) : Fr := ⟨[.own z, .own t, .own (lf S), .own (lf S), .own tw, n5, n6, n7, .emp, .emp], [], []⟩
theorem l1_turn (z t tw : T) (S X N : D) (n5 : SV) (n8 : Str) (u : Bool) (e1 : F_is_used [lf X, lf (.str n8)] = some (.ok (lf (.bool u)), [])) (e2 : F__law_uses [lf X, lf (.str n8)] = some (.ok (lf (.bool u)), [])) (h5 : n5 = .own (lf .none) ∨ ∃ s, n5 = .own (lf (.str s))) :
    turn (asg1 8) [8] b_law_1 (.str n8) (lwFr z t tw S (.own (lf X)) (.own (lf N)) n5) = some (.ok .nx, lwFr z t tw S (.own (lf X)) (.own (lf N)) n5) := by
  have e3 : F__law_same [lf (.bool u), lf (.bool u)] = some (.ok (lf (.bool true)), []) := by rw [same_bool_eq]; simp
  rcases h5 with rfl | ⟨s, rfl⟩
  · simp [turn, b_law_1, lwFr, e1, e2, e3]
  · simp [turn, b_law_1, lwFr, e1, e2, e3]
theorem l3_turn (z t tw : T) (KV : List (D × D)) (n : Str) (u : Bool) (e1 : F_is_referenced [lf (.dict KV), lf (.str n)] = some (.ok (lf (.bool u)), [])) (e2 : F__law_leads [lf (.dict KV), lf (.str n)] = some (.ok (lf (.bool u)), [])) :
    turn (asg1 5) [5] b_law_3 (.str n) (lwFr z t tw (.dict KV) .emp .emp .emp) = some (.ok .nx, lwFr z t tw (.dict KV) .emp .emp .emp) := by
  have e3 : F__law_same [lf (.bool u), lf (.bool u)] = some (.ok (lf (.bool true)), []) := by rw [same_bool_eq]; simp
  simp [turn, b_law_3, lwFr, e1, e2, e3]
theorem l2_turn (z t tw : T) (KV : List (D × D)) (X : D) (n : Str) (C N : List D) (d1 : dIx (.dict KV) (.str n) = some X) (d2 : dIx X (.str "columns") = some (.list C)) (hl : N.length ≤ 1000)
  (e1 : F__law_names [lf (.list C)] = some (.ok (listT N), [])) (e2 : F_column_names [lf X] = some (.ok (listT N), [])) (e3 : F__law_same [lf (.list N), lf (.list N)] = some (.ok (lf (.bool true)), []))
  (e4 : LT.forD (asg1 8) [8] b_law_1 (N ++ [.str "nowhere"]) ⟨[.own z, .own t, .own (lf (.dict KV)), .own (lf (.dict KV)), .own tw, .own (lf (.str n)), .own (lf X), .own (lf (.list N)), .emp, .emp], [], []⟩ = some (.ok .nx, ⟨[.own z, .own t, .own (lf (.dict KV)), .own (lf (.dict KV)), .own tw, .own (lf (.str n)), .own (lf X), .own (lf (.list N)), .emp, .emp], [], []⟩)) :
    turn (asg1 5) [5, 6, 7, 8] b_law_2 (.str n) (lwFr z t tw (.dict KV) .emp .emp .emp) = some (.ok .nx, lwFr z t tw (.dict KV) .emp .emp .emp) := by
  have v : (listT [.str "nowhere"] : T) = listT [.str "nowhere"] := rfl
  have hb : N.length + 1 ≤ 16777216 := by omega
  have hb2 : N.length < 16777216 := by omega
  simp [turn, b_law_2, lwFr, d1, d2, e1, e2, e3, e4, hb, hb2]
def addCo (l : List D) (b : Tb) : Tb := { b with fz := false, cols := l }
theorem colT_nf {b : Tb} (h : b.fz = false) : colT b = listT b.cols := by unfold colT; rw [h]; rfl
theorem set_columnsL (ts : List (Str × Tb)) (n : Str) (l : List D) : TR.set (dctT tbT ts) [.str n, .str "columns"] (listT l) = dctT tbT (up ts n (addCo l)) := by
  refine set_dctT tbT n _ _ _ _ fun b _ => ?_
  unfold tbT
  rw [set_dct]
  simp [updD, nm1, addCo, colT]
theorem set_tab (ts : List (Str × Tb)) (n : Str) (b : Tb) : TR.set (dctT tbT ts) [.str n] (tbT b) = dctT tbT (up ts n fun _ => b) := set_dctT tbT n _ _ _ _ fun c _ => (TR.set_nil _ _).symm
theorem setTr_cols (b : Tb) (l : List D) : setTr (tbT b) (.str "columns") (listT l) = some (tbT (addCo l b)) := by
  unfold tbT
  rw [setTr_dct]
  have : ([(.str "columns", colT b), (.str "checks", listT b.checks), (.str "uniques", listT b.uniqs), (.str "references", listT b.refs)] : List (D × T)).length < sizeLine := by rw [sizeLine_eq]; simp
  rw [if_pos (show (PyData.str "columns").isKey = true from rfl), if_pos this]
  simp [putD, addCo, colT]
def tF (z t : T) (S : D) (ws : List (Str × Tb)) (n5 : SV) : Fr := ⟨[.own z, .own t, .own (lf S), .own (lf S), .own (dctT tbT ws), n5, .emp, .emp, .emp, .emp], [], []⟩
section
variable (z t : T) (S : D) (ws : List (Str × Tb)) (n : Str) (b : Tb) (hb : lk ws n = some b)
include hb
theorem p_cols (hf : b.fz = false) (hl : b.cols.length < 16777216) : turn (asg1 9) [9] b_law_4 (.str "columns") (tF z t S ws (.own (lf (.str n)))) = some (.ok .nx, tF z t S (up ws n (addCo (b.cols ++ [.str "columns"]))) (.own (lf (.str n)))) := by
  have c := colT_nf hf
  have s := set_columnsL ws n (b.cols ++ [.str "columns"])
  simp [turn, b_law_4, tF, hb, hf, c, hl, s]
theorem p_checks (hl : b.checks.length < 16777216) : turn (asg1 9) [9] b_law_4 (.str "checks") (tF z t S ws (.own (lf (.str n)))) = some (.ok .nx, tF z t S (up ws n (addCk (b.checks ++ [.str "checks"]))) (.own (lf (.str n)))) := by
  simp [turn, b_law_4, tF, hb, hl]
theorem p_uniqs (hl : b.uniqs.length < 16777216) : turn (asg1 9) [9] b_law_4 (.str "uniques") (tF z t S ws (.own (lf (.str n)))) = some (.ok .nx, tF z t S (up ws n (addUn (b.uniqs ++ [.str "uniques"]))) (.own (lf (.str n)))) := by
  simp [turn, b_law_4, tF, hb, hl]
theorem p_refs (hl : b.refs.length < 16777216) : turn (asg1 9) [9] b_law_4 (.str "references") (tF z t S ws (.own (lf (.str n)))) = some (.ok .nx, tF z t S (up ws n (addRf (b.refs ++ [.str "references"]))) (.own (lf (.str n)))) := by
  simp [turn, b_law_4, tF, hb, hl]
theorem b5_turn (ws' : List (Str × Tb)) (b' : Tb) (hb' : lk ws' n = some b') (e : LT.forD (asg1 9) [9] b_law_4 [.str "columns", .str "checks", .str "uniques", .str "references"] (tF z t S ws (.own (lf (.str n)))) = some (.ok .nx, tF z t S ws' (.own (lf (.str n))))) :
    turn (asg1 5) [5, 9] b_law_5 (.str n) (tF z t S ws .emp) = some (.ok .nx, tF z t S (up ws' n fun _ => addCo [] b') .emp) := by
  have s := set_tab ws' n (addCo [] b')
  have q := setTr_cols b' []
  simp only [tF] at e
  simp [turn, b_law_5, tF, hb', e, q, s]
end
def OkB (M : Nat) (b : Tb) : Prop := b.fz = false ∧ b.cols.length ≤ M ∧ b.checks.length ≤ M ∧ b.uniqs.length ≤ M ∧ b.refs.length ≤ M
structure Wk (M : Nat) (ks : List Str) (ws : List (Str × Tb)) : Prop where
  nd : ks.Nodup
  keys : ws.map (·.1) = ks
  ok : ∀ x ∈ ws, OkB M x.2
theorem OkB.mono {M N : Nat} {b : Tb} (h : OkB M b) (l : M ≤ N) : OkB N b := ⟨h.1, by have := h.2.1; omega, by have := h.2.2.1; omega, by have := h.2.2.2.1; omega, by have := h.2.2.2.2; omega⟩
theorem Wk.up {M N : Nat} {ks : List Str} {ws : List (Str × Tb)} (h : Wk M ks ws) (l : M ≤ N) {n : Str} {b : Tb} (hb : lk ws n = some b) {f : Tb → Tb} (k : OkB N (f b)) : Wk N ks (LT.up ws n f) := by
  refine ⟨h.nd, by rw [up_keys]; exact h.keys, fun x hx => ?_⟩
  rcases up_mem n f hx with q | ⟨c, q, e⟩
  · exact (h.ok x q).mono l
  · subst e
    have := lk_of_mem (by rw [h.keys]; exact h.nd) q
    simp only at this
    rw [hb] at this
    cases this
    exact k
theorem b5_full (z t : T) (S : D) {M : Nat} {ks : List Str} {ws : List (Str × Tb)} (h : Wk M ks ws) {n : Str} (hn : n ∈ ks) (hM : M ≤ 1000) : ∃ ws', turn (asg1 5) [5, 9] b_law_5 (.str n) (tF z t S ws .emp) = some (.ok .nx, tF z t S ws' .emp) ∧ Wk (M + 1) ks ws' := by
  obtain ⟨b, hb⟩ := lk_some (ts := ws) (n := n) (by rw [h.keys]; exact hn)
  obtain ⟨o1, o2, o3, o4, o5⟩ := h.ok _ (lk_mem hb)
  simp only at o1 o2 o3 o4 o5
  have t1 := p_cols z t S ws n b hb o1 (by omega)
  have w1 : Wk (M + 1) ks (up ws n (addCo (b.cols ++ [.str "columns"]))) := h.up (by omega) hb ⟨rfl, by show (b.cols ++ [_]).length ≤ _; simp; omega, by show b.checks.length ≤ _; omega, by show b.uniqs.length ≤ _; omega, by show b.refs.length ≤ _; omega⟩
  have k1 : lk (up ws n (addCo (b.cols ++ [.str "columns"]))) n = some (addCo (b.cols ++ [.str "columns"]) b) := by rw [lk_up, if_pos rfl, hb]; rfl
  generalize hw1 : up ws n (addCo (b.cols ++ [.str "columns"])) = ws1 at *
  have t2 := p_checks z t S ws1 n _ k1 (show b.checks.length < _ by omega)
  have w2 := w1.up (N := M + 1) (by omega) k1 (f := addCk (b.checks ++ [.str "checks"])) ⟨rfl, by show (b.cols ++ [_]).length ≤ _; simp; omega, by show (b.checks ++ [_]).length ≤ _; simp; omega, by show b.uniqs.length ≤ _; omega, by show b.refs.length ≤ _; omega⟩
  have k2 : lk (up ws1 n (addCk (b.checks ++ [.str "checks"]))) n = some (addCk (b.checks ++ [.str "checks"]) (addCo (b.cols ++ [.str "columns"]) b)) := by rw [lk_up, if_pos rfl, k1]; rfl
  have t2 : turn (asg1 9) [9] b_law_4 (.str "checks") (tF z t S ws1 (.own (lf (.str n)))) = some (.ok .nx, tF z t S (up ws1 n (addCk (b.checks ++ [.str "checks"]))) (.own (lf (.str n)))) := t2
  generalize hw2 : up ws1 n (addCk (b.checks ++ [.str "checks"])) = ws2 at *
  have t3 := p_uniqs z t S ws2 n _ k2 (show b.uniqs.length < _ by omega)
  have t3 : turn (asg1 9) [9] b_law_4 (.str "uniques") (tF z t S ws2 (.own (lf (.str n)))) = some (.ok .nx, tF z t S (up ws2 n (addUn (b.uniqs ++ [.str "uniques"]))) (.own (lf (.str n)))) := t3
  have w3 := w2.up (N := M + 1) (by omega) k2 (f := addUn (b.uniqs ++ [.str "uniques"])) ⟨rfl, by show (b.cols ++ [_]).length ≤ _; simp; omega, by show (b.checks ++ [_]).length ≤ _; simp; omega, by show (b.uniqs ++ [_]).length ≤ _; simp; omega, by show b.refs.length ≤ _; omega⟩
  have k3 : lk (up ws2 n (addUn (b.uniqs ++ [.str "uniques"]))) n = some (addUn (b.uniqs ++ [.str "uniques"]) (addCk (b.checks ++ [.str "checks"]) (addCo (b.cols ++ [.str "columns"]) b))) := by rw [lk_up, if_pos rfl, k2]; rfl
  generalize hw3 : up ws2 n (addUn (b.uniqs ++ [.str "uniques"])) = ws3 at *
  have t4 := p_refs z t S ws3 n _ k3 (show b.refs.length < _ by omega)
  have t4 : turn (asg1 9) [9] b_law_4 (.str "references") (tF z t S ws3 (.own (lf (.str n)))) = some (.ok .nx, tF z t S (up ws3 n (addRf (b.refs ++ [.str "references"]))) (.own (lf (.str n)))) := t4
  have w4 := w3.up (N := M + 1) (by omega) k3 (f := addRf (b.refs ++ [.str "references"])) ⟨rfl, by show (b.cols ++ [_]).length ≤ _; simp; omega, by show (b.checks ++ [_]).length ≤ _; simp; omega, by show (b.uniqs ++ [_]).length ≤ _; simp; omega, by show (b.refs ++ [_]).length ≤ _; simp; omega⟩
  have k4 : lk (up ws3 n (addRf (b.refs ++ [.str "references"]))) n = some (addRf (b.refs ++ [.str "references"]) (addUn (b.uniqs ++ [.str "uniques"]) (addCk (b.checks ++ [.str "checks"]) (addCo (b.cols ++ [.str "columns"]) b)))) := by rw [lk_up, if_pos rfl, k3]; rfl
  generalize hw4 : up ws3 n (addRf (b.refs ++ [.str "references"])) = ws4 at *
  have wp : ∀ ws, (tF z t S ws (.own (lf (.str n)))).wipe [9] = tF z t S ws (.own (lf (.str n))) := fun ws => by simp [tF]
  have e : LT.forD (asg1 9) [9] b_law_4 [.str "columns", .str "checks", .str "uniques", .str "references"] (tF z t S ws (.own (lf (.str n)))) = some (.ok .nx, tF z t S ws4 (.own (lf (.str n)))) := by
    rw [forD_go (wp _) t1, forD_go (wp _) t2, forD_go (wp _) t3, forD_go (wp _) t4, forD_nil (wp _)]
  refine ⟨_, b5_turn z t S ws n b hb ws4 _ k4 e, w4.up (by omega) k4 (f := fun _ => _) ⟨rfl, by show ([] : List D).length ≤ _; simp, by show (b.checks ++ [_]).length ≤ _; simp; omega, by show (b.uniqs ++ [_]).length ≤ _; simp; omega, by show (b.refs ++ [_]).length ≤ _; simp; omega⟩⟩
theorem twin_loop (z t : T) (S : D) {ks : List Str} : ∀ (ss : List Str), (∀ s ∈ ss, s ∈ ks) → ∀ {M : Nat} {ws : List (Str × Tb)}, Wk M ks ws → M + ss.length ≤ 1000 → ∃ ws' M', LT.forD (asg1 5) [5, 9] b_law_5 (ss.map .str) (tF z t S ws .emp) = some (.ok .nx, tF z t S ws' .emp) ∧ Wk M' ks ws'
  | [], _, M, ws, h, _ => ⟨ws, M, forD_nil (by simp [tF]), h⟩
  | s :: ss, hs, M, ws, h, hl => by
    rw [List.length_cons] at hl
    obtain ⟨ws1, e1, h1⟩ := b5_full z t S h (hs s (by simp)) (by omega)
    obtain ⟨ws2, M2, e2, h2⟩ := twin_loop z t S ss (fun x hx => hs x (by simp [hx])) h1 (by omega)
    exact ⟨ws2, M2, by rw [List.map_cons, forD_go (by simp [tF]) e1]; exact e2, h2⟩
theorem r1_eq (z t : T) (S : D) (ws : List (Str × Tb)) (W : T) (hW : setTr (dctT tbT ws) (.str "nowhere") (.node () .dct []) = some W) (e : F__law_same [lf S, lf S] = some (.ok (lf (.bool true)), [])) : ∃ ρ', r_law_1 (tF z t S ws .emp) = some (.ok (.ret (lf (.bool true))), ρ') := by
  have d0 : ∀ ρ, LT.M.dict0 ρ = some (.ok (.val (.node () .dct [])), ρ) := fun _ => rfl
  simp [tF, d0, hW, e]
theorem r2_eq (z t : T) (S : D) (ws ws' : List (Str × Tb)) (ks : List Str) (hk : ws.map (·.1) = ks) (SD : List D) (e3 : sortD (ks.map .str) = SD) (e : LT.forD (asg1 5) [5, 9] b_law_5 SD ⟨[.own z, .own t, .own (lf S), .own (lf S), .own (dctT tbT ws), .emp, .emp, .emp, .emp, .emp], [], []⟩ = some (.ok .nx, ⟨[.own z, .own t, .own (lf S), .own (lf S), .own (dctT tbT ws'), .emp, .emp, .emp, .emp, .emp], [], []⟩)) : r_law_2 (tF z t S ws .emp) = r_law_1 (tF z t S ws' .emp) := by
  have hom := homD_strs ks
  generalize hK : ks.map PyData.str = K at *
  simp [tF, hk, hK, hom, e3, e, -r_law_1, -List.map_map]
theorem r3_eq (z t : T) (KV : List (D × D)) (ws : List (Str × Tb)) (ks : List Str) (hk : KV.map (·.1) = ks.map .str) (SD : List D) (e3 : sortD (ks.map .str) = SD) (hl : SD.length ≤ 1000) (e : LT.forD (asg1 5) [5] b_law_3 (SD ++ [.str "nowhere"]) ⟨[.own z, .own t, .own (lf (.dict KV)), .own (lf (.dict KV)), .own (dctT tbT ws), .emp, .emp, .emp, .emp, .emp], [], []⟩ = some (.ok .nx, ⟨[.own z, .own t, .own (lf (.dict KV)), .own (lf (.dict KV)), .own (dctT tbT ws), .emp, .emp, .emp, .emp, .emp], [], []⟩)) : r_law_3 (tF z t (.dict KV) ws .emp) = r_law_2 (tF z t (.dict KV) ws .emp) := by
  have hom := homD_strs ks
  have hb : SD.length + 1 ≤ 16777216 := by omega
  have hb2 : SD.length < 16777216 := by omega
  generalize hK : ks.map PyData.str = K at *
  simp [tF, hk, hK, hom, e3, e, hb, hb2, -r_law_2, -List.map_map]
theorem r4_eq (z t : T) (KV : List (D × D)) (ws : List (Str × Tb)) (ks : List Str) (hk : KV.map (·.1) = ks.map .str) (SD : List D) (e3 : sortD (ks.map .str) = SD) (e : LT.forD (asg1 5) [5, 6, 7, 8] b_law_2 SD ⟨[.own z, .own t, .own (lf (.dict KV)), .own (lf (.dict KV)), .own (dctT tbT ws), .emp, .emp, .emp, .emp, .emp], [], []⟩ = some (.ok .nx, ⟨[.own z, .own t, .own (lf (.dict KV)), .own (lf (.dict KV)), .own (dctT tbT ws), .emp, .emp, .emp, .emp, .emp], [], []⟩)) : r_law_4 (tF z t (.dict KV) ws .emp) = r_law_3 (tF z t (.dict KV) ws .emp) := by
  have hom := homD_strs ks
  generalize hK : ks.map PyData.str = K at *
  simp [tF, hk, hK, hom, e3, e, -r_law_3, -List.map_map]
theorem d_eq (z t t1 TS : T) (n0 : isNodeB t = true) (n1 : isNodeB t1 = true) (S : D) (ts ws : List (Str × Tb)) (hs : schD ts = S) (hw : schD ws = S) (hT : TR.toD TS = some S) (e1 : F__law_schema [t, lf (.int 0), lf (.int 5)] = some (.ok (dctT tbT ts), [t1])) (e2 : F__law_copy [lf S] = some (.ok TS, [])) (e3 : F_copy_schema [lf S] = some (.ok (dctT tbT ws), [])) (e : F__law_same [lf S, lf S] = some (.ok (lf (.bool true)), [])) :
    d_law ⟨[.own z, .own t, .emp, .emp, .emp, .emp, .emp, .emp, .emp, .emp], [], []⟩ = r_law_4 (tF z t1 S ws .emp) := by
  simp [d_law, tF, n0, n1, e1, e2, e3, e, hs, hw, hT, -r_law_4]
theorem setTr_any {ks : List Str} {ws : List (Str × Tb)} (h : ws.map (·.1) = ks) (hl : ks.length ≤ 1000) (t : T) : ∃ W, setTr (dctT tbT ws) (.str "nowhere") t = some W := by
  have wl := congrArg List.length h
  simp at wl
  unfold dctT
  rw [setTr_dct]
  have : (ws.map fun x => ((.str x.1 : D), tbT x.2)).length < sizeLine := by rw [sizeLine_eq, List.length_map]; omega
  rw [if_pos (show (PyData.str "nowhere").isKey = true from rfl), if_pos this]
  exact ⟨_, rfl⟩
theorem loop4 (z t : T) {ts ws : List (Str × Tb)} (ok : SOk 40 ts) {KV : List (D × D)} (kv : KVs ts KV) (ss : List Str) (hs : ∀ s ∈ ss, s ∈ ts.map (·.1)) :
    LT.forD (asg1 5) [5, 6, 7, 8] b_law_2 (ss.map .str) ⟨[.own z, .own t, .own (lf (.dict KV)), .own (lf (.dict KV)), .own (dctT tbT ws), .emp, .emp, .emp, .emp, .emp], [], []⟩ = some (.ok .nx, ⟨[.own z, .own t, .own (lf (.dict KV)), .own (lf (.dict KV)), .own (dctT tbT ws), .emp, .emp, .emp, .emp, .emp], [], []⟩) := by
  obtain ⟨ρ', e, rfl⟩ := for_inv (asg := asg1 5) (ws := [5, 6, 7, 8]) (body := b_law_2) (fun ρ => ρ = lwFr z t (dctT tbT ws) (.dict KV) .emp .emp .emp) (by rintro ρ rfl; simp [lwFr]) (ss.map .str) _ rfl (by
    rintro d hd ρ rfl
    obtain ⟨n, hn, rfl⟩ := List.mem_map.mp hd
    obtain ⟨b, hb⟩ := lk_some (hs n hn)
    have hm := lk_mem hb
    obtain ⟨cs, cks, us, rs, ib⟩ := ok.tb _ hm
    have l5 := ib.len5
    have lr := ib.rlen
    have d1 : dIx (.dict KV) (.str n) = some (tbD b) := by rw [dIx_dict _ _ rfl]; exact kv.ix _ hm
    have e1 := names_eq cs (by omega)
    have hcs : colsD cs = .list b.cols := by rw [ib.cols]
    rw [hcs] at e1
    have e2 := column_names_eq b cs ib.cols (by omega)
    have fn : Fine 1 (.list ((cs.map fun c : Col => c.name).map PyData.str)) := fine_list (n := 0) (by simp; omega) fun x hx => by
      obtain ⟨s, _, rfl⟩ := List.mem_map.mp hx
      exact (fine_str 0 s).1
    have e3 := same_refl _ fn.1 (by have := fn.2.2; omega)
    have e4 : LT.forD (asg1 8) [8] b_law_1 ((cs.map fun c : Col => c.name).map PyData.str ++ [.str "nowhere"]) (lwFr z t (dctT tbT ws) (.dict KV) (.own (lf (tbD b))) (.own (lf (.list ((cs.map fun c : Col => c.name).map PyData.str)))) (.own (lf (.str n)))) = some (.ok .nx, lwFr z t (dctT tbT ws) (.dict KV) (.own (lf (tbD b))) (.own (lf (.list ((cs.map fun c : Col => c.name).map PyData.str)))) (.own (lf (.str n)))) := by
      obtain ⟨ρ', e, rfl⟩ := for_inv (asg := asg1 8) (ws := [8]) (body := b_law_1) (fun ρ => ρ = lwFr z t (dctT tbT ws) (.dict KV) (.own (lf (tbD b))) (.own (lf (.list ((cs.map fun c : Col => c.name).map PyData.str)))) (.own (lf (.str n)))) (by rintro ρ rfl; simp [lwFr]) ((cs.map fun c : Col => c.name).map PyData.str ++ [.str "nowhere"]) _ rfl (by
        rintro d hd ρ rfl
        have : ∃ m : Str, d = .str m := by
          rcases List.mem_append.mp hd with q | q
          · obtain ⟨m, _, rfl⟩ := List.mem_map.mp q
            exact ⟨m, rfl⟩
          · exact ⟨_, List.mem_singleton.mp q⟩
        obtain ⟨m, rfl⟩ := this
        exact ⟨_, l1_turn z t (dctT tbT ws) (.dict KV) (tbD b) _ _ m _ (is_used_eq b cks us rs ib.checks ib.uniqs ib.refs (by omega) m) (uses_eq b cks us rs ib.checks ib.uniqs ib.refs m) (.inr ⟨n, rfl⟩), rfl⟩)
      exact e
    exact ⟨_, l2_turn z t (dctT tbT ws) KV (tbD b) n b.cols _ d1 (tb_cols b) (by simp; omega) e1 e2 e3 e4, rfl⟩)
  exact e
theorem loop3 (z t : T) {ts ws : List (Str × Tb)} (ok : SOk 40 ts) {KV : List (D × D)} (kv : KVs ts KV) (ss : List Str) :
    LT.forD (asg1 5) [5] b_law_3 (ss.map .str ++ [.str "nowhere"]) ⟨[.own z, .own t, .own (lf (.dict KV)), .own (lf (.dict KV)), .own (dctT tbT ws), .emp, .emp, .emp, .emp, .emp], [], []⟩ = some (.ok .nx, ⟨[.own z, .own t, .own (lf (.dict KV)), .own (lf (.dict KV)), .own (dctT tbT ws), .emp, .emp, .emp, .emp, .emp], [], []⟩) := by
  obtain ⟨ρ', e, rfl⟩ := for_inv (asg := asg1 5) (ws := [5]) (body := b_law_3) (fun ρ => ρ = lwFr z t (dctT tbT ws) (.dict KV) .emp .emp .emp) (by rintro ρ rfl; simp [lwFr]) (ss.map .str ++ [.str "nowhere"]) _ rfl (by
    rintro d hd ρ rfl
    have : ∃ m : Str, d = .str m := by
      rcases List.mem_append.mp hd with q | q
      · obtain ⟨m, _, rfl⟩ := List.mem_map.mp q
        exact ⟨m, rfl⟩
      · exact ⟨_, List.mem_singleton.mp q⟩
    obtain ⟨m, rfl⟩ := this
    exact ⟨_, l3_turn z t (dctT tbT ws) KV m _ (is_referenced_eq ok kv m) (leads_eq ok kv m), rfl⟩)
  exact e
theorem law_den (ns : List Int) (hs : Script ns) : ∃ ρ', d_law ⟨[.own (.leaf none), .own (tape0 ns)] ++ List.replicate 8 .emp, [], []⟩ = some (.ok (.ret (lf (.bool true))), ρ') := by
  have ht := isTape0 ns
  obtain ⟨ts, t1, e1, ht1, ok, l0, l5⟩ := schema_spec ht 0 5 (by omega) (by omega) (by omega)
  have fine := fine_sch ok (by omega) (by omega)
  have kv := kvs_of ok.nd
  have e2 := copy_eq (schD ts) fine.2.1 (by have := fine.2.2; omega)
  have e3 := copy_schema_eq ok.nd (by omega) kv
  have es := same_refl (schD ts) fine.1 (by have := fine.2.2; omega)
  have d1 := d_eq (.leaf none) (tape0 ns) t1 _ ht.node ht1.node (schD ts) ts (ts.map fun x : Str × Tb => (x.1, unf x.2)) rfl (sch_unf ts) (cpT_toD _) e1 e2 e3 es
  obtain ⟨ss, e4, ps⟩ := sortD_strs (ts.map (·.1))
  have sl := ps.length_eq
  rw [List.length_map] at sl
  have hws : (ts.map fun x : Str × Tb => (x.1, unf x.2)).map (·.1) = ts.map (·.1) := by rw [List.map_map]; rfl
  have r4 := r4_eq (.leaf none) t1 (ts.map fun x : Str × Tb => ((.str x.1 : D), tbD x.2)) (ts.map fun x : Str × Tb => (x.1, unf x.2)) (ts.map (·.1)) (sch_keys ts) _ e4 (loop4 _ _ ok kv ss fun s hs => ps.mem_iff.mp hs)
  have r3 := r3_eq (.leaf none) t1 (ts.map fun x : Str × Tb => ((.str x.1 : D), tbD x.2)) (ts.map fun x : Str × Tb => (x.1, unf x.2)) (ts.map (·.1)) (sch_keys ts) _ e4 (by simp; omega) (loop3 _ _ ok kv ss)
  have w0 : Wk 50 (ts.map (·.1)) (ts.map fun x : Str × Tb => (x.1, unf x.2)) := ⟨ok.nd, hws, fun x hx => by
    obtain ⟨y, hy, rfl⟩ := List.mem_map.mp hx
    obtain ⟨cs, cks, us, rs, ib⟩ := ok.tb y hy
    have h1 := ib.len5
    have h2 := ib.clen
    have h3 := ib.ulen
    have h4 := ib.rlen
    refine ⟨rfl, ?_, ?_, ?_, ?_⟩
    · show y.2.cols.length ≤ 50; rw [ib.cols, List.length_map]; omega
    · show y.2.checks.length ≤ 50; rw [ib.checks, List.length_map]; omega
    · show y.2.uniqs.length ≤ 50; rw [ib.uniqs, List.length_map]; omega
    · show y.2.refs.length ≤ 50; rw [ib.refs, List.length_map]; omega⟩
  obtain ⟨ws', M', e5, w1⟩ := twin_loop (.leaf none) t1 (schD ts) ss (fun s hs => ps.mem_iff.mp hs) w0 (by omega)
  have r2 := r2_eq (.leaf none) t1 (schD ts) (ts.map fun x : Str × Tb => (x.1, unf x.2)) ws' (ts.map (·.1)) hws _ e4 e5
  obtain ⟨W, hW⟩ := setTr_any w1.keys (by rw [List.length_map]; omega) (.node () .dct [])
  obtain ⟨ρ', r1⟩ := r1_eq (.leaf none) t1 (schD ts) ws' W hW es
  exact ⟨ρ', d1.trans (r4.trans (r3.trans (r2.trans r1)))⟩
end Ck07

namespace Ck07
open PySem PySem.Spec L2 LT CC
def top (i : Nat) : Stmt := PySem.Challenge.pw_lenstree_k07_schema_helpers.main.body.getD i (.Pass ⟨0, 0, 0, 0⟩)
abbrev s_mentions : Stmt := top 1
abbrev s_column_names : Stmt := top 3
abbrev s_copy_description : Stmt := top 4
abbrev s_copy_schema : Stmt := top 5
abbrev s_is_used : Stmt := top 6
abbrev s_is_referenced : Stmt := top 7
abbrev s__law_tape : Stmt := top 9
abbrev s__law_take : Stmt := top 10
abbrev s__law_is_integer : Stmt := top 11
abbrev s__law_same_items : Stmt := top 12
abbrev s__law_same : Stmt := top 13
abbrev s__law_copy : Stmt := top 14
abbrev s__law_char : Stmt := top 15
abbrev s__law_text : Stmt := top 16
abbrev s__law_integer : Stmt := top 17
abbrev s__law_value : Stmt := top 18
abbrev s__law_name : Stmt := top 19
abbrev s__law_columns : Stmt := top 20
abbrev s__law_table : Stmt := top 21
abbrev s__law_names : Stmt := top 22
abbrev s__law_clause : Stmt := top 23
abbrev s__law_condition : Stmt := top 24
abbrev s__law_limits : Stmt := top 25
abbrev s__law_schema : Stmt := top 26
abbrev s__law_uses : Stmt := top 27
abbrev s__law_leads : Stmt := top 28
abbrev s_law : Stmt := top 29
structure Txt (K : PySem.W.Frag) (mg : Str → Option Value) : Prop where
  b_abs : mg "abs" = none
  b_bool : mg "bool" = none
  b_dict : mg "dict" = none
  b_int : mg "int" = none
  b_isinstance : mg "isinstance" = none
  b_len : mg "len" = none
  b_list : mg "list" = none
  b_range : mg "range" = none
  b_sorted : mg "sorted" = none
  b_str : mg "str" = none
  b_tuple : mg "tuple" = none
theorem BT_abs : bootBuiltins "abs" = some (.builtin "abs") := by decide +kernel
theorem BT_bool : bootBuiltins "bool" = some (.type "bool") := by decide +kernel
theorem BT_dict : bootBuiltins "dict" = some (.type "dict") := by decide +kernel
theorem BT_int : bootBuiltins "int" = some (.type "int") := by decide +kernel
theorem BT_isinstance : bootBuiltins "isinstance" = some (.builtin "isinstance") := by decide +kernel
theorem BT_len : bootBuiltins "len" = some (.builtin "len") := by decide +kernel
theorem BT_list : bootBuiltins "list" = some (.type "list") := by decide +kernel
theorem BT_sorted : bootBuiltins "sorted" = some (.builtin "sorted") := by decide +kernel
theorem BT_str : bootBuiltins "str" = some (.type "str") := by decide +kernel
theorem BT_tuple : bootBuiltins "tuple" = some (.type "tuple") := by decide +kernel
section
variable {P : Program} {w : World} {K : PySem.W.Frag} {mg : Str → Option Value} {base : Heap}
theorem sc_mentions : FnScope ["condition", "name", "alternative", "clause"] ["condition", "name"] (defScope s_mentions) := ⟨rfl, rfl, rfl, by decide +kernel, rfl, by decide +kernel, by decide +kernel⟩
theorem cal_mentions (T : Txt K mg) (X : Fx K mg "mentions" "mentions" s_mentions ["condition", "name"])  : Cal P w K mg base 1 "mentions" ["condition", "name"] [] F_mentions :=
  cal_fn X sc_mentions (by decide) (by decide) fun f cdv A outer s H E hr => show DSs _ _ _ d_mentions from (dss_cons (ds_forU [2, 3] poCx rfl (se_var 0) (ds_for [2, 3] poCx rfl (di_seq (de_frz (de_var 0))) (pg_name (i := 2) sc_mentions.nd rfl (by first | exact Or.inl rfl | exact Or.inr rfl)) tg_name (dss_one (ds_pre fz_ok (ds_forU [3] poCx rfl (se_var 2) (ds_for [3] poCx rfl (di_seq (de_frz (de_var 2))) (pg_name (i := 3) sc_mentions.nd rfl (by first | exact Or.inl rfl | exact Or.inr rfl)) tg_name (dss_one (ds_if (dt_cmp (op_eqR hr.units) ops_eq (de_ix (ix_all (hu_of hr)) ops_ix (de_var 3) de_int (fun _ _ => rfl)) (de_var 1) (nomark _)) (dss_one (ds_ret de_bl)) dss_nil))) (pg_name (i := 3) sc_mentions.nd rfl (by first | exact Or.inl rfl | exact Or.inr rfl)) tg_name (dss_one (ds_if (dt_cmp (op_eqR hr.units) ops_eq (de_ix (ix_all (hu_of hr)) ops_ix (de_var 3) de_int (fun _ _ => rfl)) (de_var 1) (nomark _)) (dss_one (ds_ret de_bl)) dss_nil)))))) (pg_name (i := 2) sc_mentions.nd rfl (by first | exact Or.inl rfl | exact Or.inr rfl)) tg_name (dss_one (ds_pre fz_ok (ds_forU [3] poCx rfl (se_var 2) (ds_for [3] poCx rfl (di_seq (de_frz (de_var 2))) (pg_name (i := 3) sc_mentions.nd rfl (by first | exact Or.inl rfl | exact Or.inr rfl)) tg_name (dss_one (ds_if (dt_cmp (op_eqR hr.units) ops_eq (de_ix (ix_all (hu_of hr)) ops_ix (de_var 3) de_int (fun _ _ => rfl)) (de_var 1) (nomark _)) (dss_one (ds_ret de_bl)) dss_nil))) (pg_name (i := 3) sc_mentions.nd rfl (by first | exact Or.inl rfl | exact Or.inr rfl)) tg_name (dss_one (ds_if (dt_cmp (op_eqR hr.units) ops_eq (de_ix (ix_all (hu_of hr)) ops_ix (de_var 3) de_int (fun _ _ => rfl)) (de_var 1) (nomark _)) (dss_one (ds_ret de_bl)) dss_nil))))))
  (dss_one (ds_ret de_bl)))

theorem sc_column_names : FnScope ["description", "column"] ["description"] (defScope s_column_names) := ⟨rfl, rfl, rfl, by decide +kernel, rfl, by decide +kernel, by decide +kernel⟩
theorem cal_column_names (T : Txt K mg) (X : Fx K mg "column_names" "column_names" s_column_names ["description"])  : Cal P w K mg base 1 "column_names" ["description"] [] F_column_names :=
  cal_fn X sc_column_names (by decide) (by decide) fun f cdv A outer s H E hr => show DSs _ _ _ d_column_names from (dss_one (ds_ret (de_lcU rfl sc_column_names.nd (se_ix (hu_of hr) (se_var 0) se_str (fun _ _ => rfl)) (own := [("column", 1)]) (blkOk_by (by rfl)) tg_name (by decide) (fun _ _ _ _ _ => (pg_name (i := 1) sc_column_names.nd rfl (by first | exact Or.inl rfl | exact Or.inr rfl))) (fun _ _ _ _ _ => dts_nil) (fun _ _ _ _ _ => (de_frz (de_ix (ix_all (hu_of hr)) ops_ix (de_var 1) de_int (fun _ _ => rfl)))) (de_lc rfl sc_column_names.nd (di_seq (de_frz (de_ix (ix_all (hu_of hr)) ops_ix (de_var 0) de_str (fun _ _ => rfl)))) (own := [("column", 1)]) (blkOk_by (by rfl)) tg_name (by decide) (fun _ _ _ _ _ => (pg_name (i := 1) sc_column_names.nd rfl (by first | exact Or.inl rfl | exact Or.inr rfl))) (fun _ _ _ _ _ => dts_nil) (fun _ _ _ _ _ => (de_frz (de_ix (ix_all (hu_of hr)) ops_ix (de_var 1) de_int (fun _ _ => rfl))))))))

theorem sc_copy_description : FnScope ["description"] ["description"] (defScope s_copy_description) := ⟨rfl, rfl, rfl, by decide +kernel, rfl, by decide +kernel, by decide +kernel⟩
theorem cal_copy_description (T : Txt K mg) (X : Fx K mg "copy_description" "copy_description" s_copy_description ["description"])  : Cal P w K mg base 1 "copy_description" ["description"] [] F_copy_description :=
  cal_fn X sc_copy_description (by decide) (by decide) fun f cdv A outer s H E hr => show DSs _ _ _ d_copy_description from (dss_one (ds_ret (de_disp (dps_str (de_callTy call_list_of ops_list (by rfl) T.b_list BT_list (das_cons (de_frz (de_ix (ix_all (hu_of hr)) ops_ix (de_var 0) de_str (fun _ _ => rfl))) das_nil)) (dps_str (de_callTy call_list_of ops_list (by rfl) T.b_list BT_list (das_cons (de_frz (de_ix (ix_all (hu_of hr)) ops_ix (de_var 0) de_str (fun _ _ => rfl))) das_nil)) (dps_str (de_callTy call_list_of ops_list (by rfl) T.b_list BT_list (das_cons (de_frz (de_ix (ix_all (hu_of hr)) ops_ix (de_var 0) de_str (fun _ _ => rfl))) das_nil)) (dps_str (de_callTy call_list_of ops_list (by rfl) T.b_list BT_list (das_cons (de_frz (de_ix (ix_all (hu_of hr)) ops_ix (de_var 0) de_str (fun _ _ => rfl))) das_nil)) dps_nil)))))))

theorem sc_copy_schema : FnScope ["schema", "table"] ["schema"] (defScope s_copy_schema) := ⟨rfl, rfl, rfl, by decide +kernel, rfl, by decide +kernel, by decide +kernel⟩
theorem cal_copy_schema (T : Txt K mg) (X : Fx K mg "copy_schema" "copy_schema" s_copy_schema ["schema"]) (c_copy_description : Cal P w K mg base 1 "copy_description" ["description"] [] F_copy_description) : Cal P w K mg base 2 "copy_schema" ["schema"] [] F_copy_schema :=
  cal_fn X sc_copy_schema (by decide) (by decide) fun f cdv A outer s H E hr => show DSs _ _ _ d_copy_schema from (dss_one (ds_ret (de_dcU rfl sc_copy_schema.nd (se_var 0) (own := [("table", 1)]) (blkOk_by (by rfl)) tg_name (by decide) (fun _ _ _ _ _ => (pg_name (i := 1) sc_copy_schema.nd rfl (by first | exact Or.inl rfl | exact Or.inr rfl))) (fun _ _ _ _ _ => dts_nil) (fun _ _ _ _ _ => (de_frz (de_var 1))) (fun _ _ _ _ _ => (de_cal c_copy_description (hr.mono (by decide)) takes0 (by rfl) (das_cons (de_frz (de_ix (ix_all (hu_of hr)) ops_ix (de_var 0) (de_var 1) (fun _ _ => rfl))) das_nil))) (de_dc rfl sc_copy_schema.nd (di_seq (de_frz (de_var 0))) (own := [("table", 1)]) (blkOk_by (by rfl)) tg_name (by decide) (fun _ _ _ _ _ => (pg_name (i := 1) sc_copy_schema.nd rfl (by first | exact Or.inl rfl | exact Or.inr rfl))) (fun _ _ _ _ _ => dts_nil) (fun _ _ _ _ _ => (de_frz (de_var 1))) (fun _ _ _ _ _ => (de_cal c_copy_description (hr.mono (by decide)) takes0 (by rfl) (das_cons (de_frz (de_ix (ix_all (hu_of hr)) ops_ix (de_var 0) (de_var 1) (fun _ _ => rfl))) das_nil)))))))

theorem sc_is_used : FnScope ["description", "column", "check", "name", "_"] ["description", "column"] (defScope s_is_used) := ⟨rfl, rfl, rfl, by decide +kernel, rfl, by decide +kernel, by decide +kernel⟩
theorem cal_is_used (T : Txt K mg) (X : Fx K mg "is_used" "is_used" s_is_used ["description", "column"]) (c_mentions : Cal P w K mg base 1 "mentions" ["condition", "name"] [] F_mentions) : Cal P w K mg base 2 "is_used" ["description", "column"] [] F_is_used :=
  cal_fn X sc_is_used (by decide) (by decide) fun f cdv A outer s H E hr => show DSs _ _ _ d_is_used from (dss_cons (ds_forU [2] poCx rfl (se_ix (hu_of hr) (se_var 0) se_str (fun _ _ => rfl)) (ds_for [2] poCx rfl (di_seq (de_frz (de_ix (ix_all (hu_of hr)) ops_ix (de_var 0) de_str (fun _ _ => rfl)))) (pg_name (i := 2) sc_is_used.nd rfl (by first | exact Or.inl rfl | exact Or.inr rfl)) tg_name (dss_one (ds_if (dt_tru (de_calR c_mentions (hr.mono (by decide)) tkCx (by rfl) (das_cons (de_var 2) (das_cons (de_var 1) das_nil)))) (dss_one (ds_ret de_bl)) dss_nil))) (pg_name (i := 2) sc_is_used.nd rfl (by first | exact Or.inl rfl | exact Or.inr rfl)) tg_name (dss_one (ds_if (dt_tru (de_calR c_mentions (hr.mono (by decide)) tkCx (by rfl) (das_cons (de_var 2) (das_cons (de_var 1) das_nil)))) (dss_one (ds_ret de_bl)) dss_nil)))
  (dss_cons (ds_if (dt_cmp (op_inAll hr.units) ops_in (de_var 1) (de_ix (ix_all (hu_of hr)) ops_ix (de_var 0) de_str (fun _ _ => rfl)) (by rfl)) (dss_one (ds_ret de_bl)) dss_nil)
  (dss_one (ds_ret (de_cmp (op_inAll hr.units) ops_in (de_var 1) (de_lc rfl sc_is_used.nd (di_seq (de_frz (de_ix (ix_all (hu_of hr)) ops_ix (de_var 0) de_str (fun _ _ => rfl)))) (own := [("name", 3), ("_", 4)]) (blkOk_by (by rfl)) (tg_tup (tgs_cons tg_name (tgs_cons tg_name tgs_nil)) (asgC_len (asgC_len asgN_len))) (by decide) (fun _ _ _ _ _ => (pg_tup rfl (pgs_cons (pg_name (i := 3) sc_is_used.nd rfl (by first | exact Or.inl rfl | exact Or.inr rfl)) (pgs_cons (pg_name (i := 4) sc_is_used.nd rfl (by first | exact Or.inl rfl | exact Or.inr rfl)) pgs_nil)))) (fun _ _ _ _ _ => dts_nil) (fun _ _ _ _ _ => (de_frz (de_var 3)))) (by rfl))))))

theorem sc_is_referenced : FnScope ["schema", "table", "name", "_", "other"] ["schema", "table"] (defScope s_is_referenced) := ⟨rfl, rfl, rfl, by decide +kernel, rfl, by decide +kernel, by decide +kernel⟩
theorem cal_is_referenced (T : Txt K mg) (X : Fx K mg "is_referenced" "is_referenced" s_is_referenced ["schema", "table"])  : Cal P w K mg base 1 "is_referenced" ["schema", "table"] [] F_is_referenced :=
  cal_fn X sc_is_referenced (by decide) (by decide) fun f cdv A outer s H E hr => show DSs _ _ _ d_is_referenced from (dss_cons (ds_forU [2, 3, 4] poCx rfl (se_var 0) (ds_for [2, 3, 4] poCx rfl (di_seq (de_frz (de_var 0))) (pg_name (i := 2) sc_is_referenced.nd rfl (by first | exact Or.inl rfl | exact Or.inr rfl)) tg_name (dss_one (ds_for [3, 4] poCx rfl (di_seq (de_frz (de_ix (ix_all (hu_of hr)) ops_ix (de_ix (ix_all (hu_of hr)) ops_ix (de_var 0) (de_var 2) (fun _ _ => rfl)) de_str (fun _ _ => rfl)))) (pg_tup rfl (pgs_cons (pg_name (i := 3) sc_is_referenced.nd rfl (by first | exact Or.inl rfl | exact Or.inr rfl)) (pgs_cons (pg_name (i := 4) sc_is_referenced.nd rfl (by first | exact Or.inl rfl | exact Or.inr rfl)) pgs_nil))) (tg_tup (tgs_cons tg_name (tgs_cons tg_name tgs_nil)) (asgC_len (asgC_len asgN_len))) (dss_one (ds_if (dt_cmp (op_eqR hr.units) ops_eq (de_var 4) (de_var 1) (nomark _)) (dss_one (ds_ret de_bl)) dss_nil))))) (pg_name (i := 2) sc_is_referenced.nd rfl (by first | exact Or.inl rfl | exact Or.inr rfl)) tg_name (dss_one (ds_for [3, 4] poCx rfl (di_seq (de_frz (de_ix (ix_all (hu_of hr)) ops_ix (de_ix (ix_all (hu_of hr)) ops_ix (de_var 0) (de_var 2) (fun _ _ => rfl)) de_str (fun _ _ => rfl)))) (pg_tup rfl (pgs_cons (pg_name (i := 3) sc_is_referenced.nd rfl (by first | exact Or.inl rfl | exact Or.inr rfl)) (pgs_cons (pg_name (i := 4) sc_is_referenced.nd rfl (by first | exact Or.inl rfl | exact Or.inr rfl)) pgs_nil))) (tg_tup (tgs_cons tg_name (tgs_cons tg_name tgs_nil)) (asgC_len (asgC_len asgN_len))) (dss_one (ds_if (dt_cmp (op_eqR hr.units) ops_eq (de_var 4) (de_var 1) (nomark _)) (dss_one (ds_ret de_bl)) dss_nil)))))
  (dss_one (ds_ret de_bl)))

theorem sc__law_tape : FnScope ["_law_script", "_law_cells", "_law_cell", "_law_seed"] ["_law_script"] (defScope s__law_tape) := ⟨rfl, rfl, rfl, by decide +kernel, rfl, by decide +kernel, by decide +kernel⟩
theorem tape_c (T : Txt K mg) (X : Fx K mg "_law_tape" "_law_tape" s__law_tape ["_law_script"]) : Tape P w K mg base 1 "_law_tape" ["_law_script"] := by
  obtain ⟨f, fd, h1, h2, h3, h4⟩ := X.ex
  refine ⟨f, fd, tape_fn (k := 0) h1 sc__law_tape rfl (fM := d__law_tape) (fe := e__law_tape) (ic := 2) (m := 2) rfl (by decide) (by decide) tape_fe (fun cdv A outer s H E hr => ⟨?_, ?_⟩) tape_den, h2, h3, h4⟩
  · exact ps_setLc (i := 1) rfl sc__law_tape.nd rfl rfl (sw_true rfl rfl rfl rfl) (pi_list (pv 0)) (own := [("_law_cell", 2)]) (blkOk_by (by rfl)) (fun _ _ _ _ _ => pg_name (i := 2) sc__law_tape.nd rfl (by first | exact Or.inl rfl | exact Or.inr rfl)) (fun _ _ _ _ _ => pts_nil) (fun _ _ _ _ _ => (de_callB call_abs ops_abs (by rfl) T.b_abs BT_abs (das_cons (de_callTy call_intA ops_int (by rfl) T.b_int BT_int (das_cons (de_var 2) das_nil)) das_nil)))
  · exact (dss_cons (ds_set 3 sc__law_tape.nd de_int)
  (dss_cons (ds_pre fz_ok (ds_forU [2] poCx rfl (se_var 1) (ds_for [2] poCx rfl (di_seq (de_frz (de_var 1))) (pg_name (i := 2) sc__law_tape.nd rfl (by first | exact Or.inl rfl | exact Or.inr rfl)) tg_name (dss_one (ds_set 3 sc__law_tape.nd (de_op op_mod ops_mod (de_callTy call_intA ops_int (by rfl) T.b_int BT_int (das_cons (de_op op_addAll ops_add (de_op op_mul ops_mul (de_var 3) de_int) (de_var 2)) das_nil)) de_int)))) (pg_name (i := 2) sc__law_tape.nd rfl (by first | exact Or.inl rfl | exact Or.inr rfl)) tg_name (dss_one (ds_set 3 sc__law_tape.nd (de_op op_mod ops_mod (de_callTy call_intA ops_int (by rfl) T.b_int BT_int (das_cons (de_op op_addAll ops_add (de_op op_mul ops_mul (de_var 3) de_int) (de_var 2)) das_nil)) de_int)))))
  (dss_one (ds_ret (de_disp (dps_str (de_frz (de_var 1)) (dps_str de_int (dps_str de_int (dps_str (de_frz (de_var 3)) (dps_str de_int dps_nil))))))))))

theorem sc__law_take : FnScope ["_law_tape_here", "_law_many", "_law_drawn", "_law_mixed"] ["_law_tape_here", "_law_many"] (defScope s__law_take) := ⟨rfl, rfl, rfl, by decide +kernel, rfl, by decide +kernel, by decide +kernel⟩
theorem cal__law_take (T : Txt K mg) (X : Fx K mg "_law_take" "_law_take" s__law_take ["_law_tape_here", "_law_many"])  : Cal P w K mg base 1 "_law_take" ["_law_tape_here", "_law_many"] [0] F__law_take :=
  cal_fn X sc__law_take (by decide) (by decide) fun f cdv A outer s H E hr => show DSs _ _ _ d__law_take from (dss_cons (ds_if (DW.dt (dw_and (dt_cmp (op_eqR hr.units) ops_eq (de_ix (ix_all (hu_of hr)) ops_ix (de_var 0) de_str (fun _ _ => rfl)) de_int (nomark _)) (dw_and1 (dt_cmp op_ltS ops_ord (de_ix (ix_all (hu_of hr)) ops_ix (de_var 0) de_str (fun _ _ => rfl)) (de_callB cr_lenAll ops_len (by rfl) T.b_len BT_len (das_cons (de_ix (ix_all (hu_of hr)) ops_ix (de_var 0) de_str (fun _ _ => rfl)) das_nil)) (nomark _))))) (dss_cons (ds_setItem (hu_of hr) (de_frz (de_ix (ix_all (hu_of hr)) ops_ix (de_ix (ix_all (hu_of hr)) ops_ix (de_var 0) de_str (fun _ _ => rfl)) (de_ix (ix_all (hu_of hr)) ops_ix (de_var 0) de_str (fun _ _ => rfl)) (fun _ _ => rfl))) (de_var 0) de_str)
  (dss_one (ds_setItem (hu_of hr) (de_op op_addAll ops_add (de_ix (ix_all (hu_of hr)) ops_ix (de_var 0) de_str (fun _ _ => rfl)) de_int) (de_var 0) de_str))) dss_nil)
  (dss_cons (ds_if (dt_cmp op_gtS ops_ord (de_ix (ix_all (hu_of hr)) ops_ix (de_var 0) de_str (fun _ _ => rfl)) de_int (nomark _)) (dss_cons (ds_set 2 sc__law_take.nd (de_op op_mod ops_mod (de_callTy call_intA ops_int (by rfl) T.b_int BT_int (das_cons (de_ix (ix_all (hu_of hr)) ops_ix (de_var 0) de_str (fun _ _ => rfl)) das_nil)) (de_var 1)))
  (dss_cons (ds_setItem (hu_of hr) (de_op op_fdivW ops_div (de_ix (ix_all (hu_of hr)) ops_ix (de_var 0) de_str (fun _ _ => rfl)) (de_var 1)) (de_var 0) de_str)
  (dss_one (ds_ret (de_move (de_var 2)))))) dss_nil)
  (dss_cons (ds_setItem (hu_of hr) (de_op op_addAll ops_add (de_ix (ix_all (hu_of hr)) ops_ix (de_var 0) de_str (fun _ _ => rfl)) de_int) (de_var 0) de_str)
  (dss_cons (ds_set 3 sc__law_take.nd (de_op op_mod ops_mod (de_callTy call_intA ops_int (by rfl) T.b_int BT_int (das_cons (de_op op_addAll ops_add (de_op op_mul ops_mul (de_ix (ix_all (hu_of hr)) ops_ix (de_var 0) de_str (fun _ _ => rfl)) de_int) (de_op op_mul ops_mul (de_ix (ix_all (hu_of hr)) ops_ix (de_var 0) de_str (fun _ _ => rfl)) de_int)) das_nil)) de_int))
  (dss_cons (ds_set 3 sc__law_take.nd (de_op op_mod ops_mod (de_callTy call_intA ops_int (by rfl) T.b_int BT_int (das_cons (de_op op_addAll ops_add (de_op op_addAll ops_add (de_op op_mul ops_mul (de_var 3) (de_var 3)) (de_op op_mul ops_mul (de_ix (ix_all (hu_of hr)) ops_ix (de_var 0) de_str (fun _ _ => rfl)) de_int)) de_int) das_nil)) de_int))
  (dss_one (ds_ret (de_op op_mod ops_mod (de_callTy call_intA ops_int (by rfl) T.b_int BT_int (das_cons (de_var 3) das_nil)) (de_var 1)))))))))

theorem sc__law_is_integer : FnScope ["_law_actual"] ["_law_actual"] (defScope s__law_is_integer) := ⟨rfl, rfl, rfl, by decide +kernel, rfl, by decide +kernel, by decide +kernel⟩
theorem cal__law_is_integer (T : Txt K mg) (X : Fx K mg "_law_is_integer" "_law_is_integer" s__law_is_integer ["_law_actual"])  : Cal P w K mg base 1 "_law_is_integer" ["_law_actual"] [] F__law_is_integer :=
  cal_fn X sc__law_is_integer (by decide) (by decide) fun f cdv A outer s H E hr => show DSs _ _ _ d__law_is_integer from (dss_one (ds_ret (de_and (de_isi (de_var 0) (by rfl) T.b_isinstance (by rfl) T.b_int BT_int) (de_one (de_not (de_isi (de_var 0) (by rfl) T.b_isinstance (by rfl) T.b_bool BT_bool))))))

theorem sc__law_same_items : FnScope ["_law_actual", "_law_expected", "_law_k"] ["_law_actual", "_law_expected"] (defScope s__law_same_items) := ⟨rfl, rfl, rfl, by decide +kernel, rfl, by decide +kernel, by decide +kernel⟩
theorem sc__law_same : FnScope ["_law_actual", "_law_expected", "_law_key"] ["_law_actual", "_law_expected"] (defScope s__law_same) := ⟨rfl, rfl, rfl, by decide +kernel, rfl, by decide +kernel, by decide +kernel⟩
theorem calR_law_same_items__law_same (T : Txt K mg) (X__law_same_items : Fx K mg "_law_same_items" "_law_same_items" s__law_same_items ["_law_actual", "_law_expected"]) (X__law_same : Fx K mg "_law_same" "_law_same" s__law_same ["_law_actual", "_law_expected"]) (c__law_is_integer : Cal P w K mg base 1 "_law_is_integer" ["_law_actual"] [] F__law_is_integer) : ∀ n : Nat, Cal P w K mg base (1 + n) "_law_same_items" ["_law_actual", "_law_expected"] [] ((R_law_same_items__law_same n).1) ∧ Cal P w K mg base (1 + n) "_law_same" ["_law_actual", "_law_expected"] [] ((R_law_same_items__law_same n).2)
  | 0 => ⟨cal_zero X__law_same_items, cal_zero X__law_same⟩
  | n + 1 => by
    obtain ⟨c__law_same_items, c__law_same⟩ := calR_law_same_items__law_same T X__law_same_items X__law_same c__law_is_integer n
    refine ⟨?_, ?_⟩
    · exact cal_fn X__law_same_items sc__law_same_items (by decide) (by decide) fun f cdv A outer s H E hr => show DSs _ _ _ (d__law_same_items _ _) from (dss_cons (ds_if (dt_cmp (op_neR hr.units) ops_ne (de_callB cr_lenAll ops_len (by rfl) T.b_len BT_len (das_cons (de_var 0) das_nil)) (de_callB cr_lenAll ops_len (by rfl) T.b_len BT_len (das_cons (de_var 1) das_nil)) (nomark _)) (dss_one (ds_ret de_bl)) dss_nil)
  (dss_cons (ds_for [2] poCx rfl (di_range1 (by rfl) T.b_range (de_callB cr_lenAll ops_len (by rfl) T.b_len BT_len (das_cons (de_var 1) das_nil))) (pg_name (i := 2) sc__law_same_items.nd rfl (by first | exact Or.inl rfl | exact Or.inr rfl)) tg_name (dss_one (ds_if (dt_not (dt_tru (de_cal c__law_same (hr.mono (Nat.le_refl _)) tkCx (by rfl) (das_cons (de_frz (de_ix (ix_all (hu_of hr)) ops_ix (de_var 0) (de_var 2) (fun _ _ => rfl))) (das_cons (de_frz (de_ix (ix_all (hu_of hr)) ops_ix (de_var 1) (de_var 2) (fun _ _ => rfl))) das_nil))))) (dss_one (ds_ret de_bl)) dss_nil)))
  (dss_one (ds_ret de_bl))))
    · exact cal_fn X__law_same sc__law_same (by decide) (by decide) fun f cdv A outer s H E hr => show DSs _ _ _ (d__law_same _ _) from (dss_cons (ds_if (dt_cmp op_isN ops_isN (de_var 1) de_non (nomark _)) (dss_one (ds_ret (de_cmp op_isN ops_isN (de_var 0) de_non (nomark _)))) dss_nil)
  (dss_cons (ds_if (dt_tru (de_isi (de_var 1) (by rfl) T.b_isinstance (by rfl) T.b_bool BT_bool)) (dss_one (ds_ret (de_and (de_isi (de_var 0) (by rfl) T.b_isinstance (by rfl) T.b_bool BT_bool) (de_one (de_cmp (op_eqR hr.units) ops_eq (de_var 0) (de_var 1) (nomark _)))))) dss_nil)
  (dss_cons (ds_if (dt_tru (de_isi (de_var 1) (by rfl) T.b_isinstance (by rfl) T.b_int BT_int)) (dss_one (ds_ret (de_and (de_cal c__law_is_integer (hr.mono (Nat.le_trans (by decide : 1 ≤ 1) (Nat.le_add_right 1 n))) tkCx (by rfl) (das_cons (de_frz (de_var 0)) das_nil)) (de_one (de_cmp (op_eqR hr.units) ops_eq (de_var 0) (de_var 1) (nomark _)))))) dss_nil)
  (dss_cons (ds_if (dt_tru (de_isi (de_var 1) (by rfl) T.b_isinstance (by rfl) T.b_str BT_str)) (dss_one (ds_ret (de_and (de_isi (de_var 0) (by rfl) T.b_isinstance (by rfl) T.b_str BT_str) (de_one (de_cmp (op_eqR hr.units) ops_eq (de_var 0) (de_var 1) (nomark _)))))) dss_nil)
  (dss_cons (ds_if (dt_tru (de_isi (de_var 1) (by rfl) T.b_isinstance (by rfl) T.b_tuple BT_tuple)) (dss_one (ds_ret (de_and (de_isi (de_var 0) (by rfl) T.b_isinstance (by rfl) T.b_tuple BT_tuple) (de_one (de_cal c__law_same_items (hr.mono (Nat.le_refl _)) tkCx (by rfl) (das_cons (de_frz (de_var 0)) (das_cons (de_frz (de_var 1)) das_nil))))))) dss_nil)
  (dss_cons (ds_if (dt_tru (de_isi (de_var 1) (by rfl) T.b_isinstance (by rfl) T.b_list BT_list)) (dss_one (ds_ret (de_and (de_isi (de_var 0) (by rfl) T.b_isinstance (by rfl) T.b_list BT_list) (de_one (de_cal c__law_same_items (hr.mono (Nat.le_refl _)) tkCx (by rfl) (das_cons (de_frz (de_var 0)) (das_cons (de_frz (de_var 1)) das_nil))))))) dss_nil)
  (dss_cons (ds_if (DW.dt (dw_or (dt_not (dt_tru (de_isi (de_var 0) (by rfl) T.b_isinstance (by rfl) T.b_dict BT_dict))) (dw_or1 (dt_cmp (op_neR hr.units) ops_ne (de_callB cr_lenAll ops_len (by rfl) T.b_len BT_len (das_cons (de_var 0) das_nil)) (de_callB cr_lenAll ops_len (by rfl) T.b_len BT_len (das_cons (de_var 1) das_nil)) (nomark _))))) (dss_one (ds_ret de_bl)) dss_nil)
  (dss_cons (ds_forU [2] poCx rfl (se_var 1) (ds_for [2] poCx rfl (di_seq (de_frz (de_var 1))) (pg_name (i := 2) sc__law_same.nd rfl (by first | exact Or.inl rfl | exact Or.inr rfl)) tg_name (dss_one (ds_if (DW.dt (dw_or (dt_cmp (op_notInAll hr.units) ops_in (de_var 2) (de_var 0) (by rfl)) (dw_or1 (dt_not (dt_tru (de_cal c__law_same (hr.mono (Nat.le_refl _)) tkCx (by rfl) (das_cons (de_frz (de_ix (ix_all (hu_of hr)) ops_ix (de_var 0) (de_var 2) (fun _ _ => rfl))) (das_cons (de_frz (de_ix (ix_all (hu_of hr)) ops_ix (de_var 1) (de_var 2) (fun _ _ => rfl))) das_nil)))))))) (dss_one (ds_ret de_bl)) dss_nil))) (pg_name (i := 2) sc__law_same.nd rfl (by first | exact Or.inl rfl | exact Or.inr rfl)) tg_name (dss_one (ds_if (DW.dt (dw_or (dt_cmp (op_notInAll hr.units) ops_in (de_var 2) (de_var 0) (by rfl)) (dw_or1 (dt_not (dt_tru (de_cal c__law_same (hr.mono (Nat.le_refl _)) tkCx (by rfl) (das_cons (de_frz (de_ix (ix_all (hu_of hr)) ops_ix (de_var 0) (de_var 2) (fun _ _ => rfl))) (das_cons (de_frz (de_ix (ix_all (hu_of hr)) ops_ix (de_var 1) (de_var 2) (fun _ _ => rfl))) das_nil)))))))) (dss_one (ds_ret de_bl)) dss_nil)))
  (dss_cons (ds_forU [2] poCx rfl (se_var 0) (ds_for [2] poCx rfl (di_seq (de_frz (de_var 0))) (pg_name (i := 2) sc__law_same.nd rfl (by first | exact Or.inl rfl | exact Or.inr rfl)) tg_name (dss_one (ds_if (dt_tru (de_isi (de_var 2) (by rfl) T.b_isinstance (by rfl) T.b_bool BT_bool)) (dss_one (ds_ret de_bl)) dss_nil))) (pg_name (i := 2) sc__law_same.nd rfl (by first | exact Or.inl rfl | exact Or.inr rfl)) tg_name (dss_one (ds_if (dt_tru (de_isi (de_var 2) (by rfl) T.b_isinstance (by rfl) T.b_bool BT_bool)) (dss_one (ds_ret de_bl)) dss_nil)))
  (dss_one (ds_ret de_bl)))))))))))
theorem cal__law_same_items (T : Txt K mg) (X__law_same_items : Fx K mg "_law_same_items" "_law_same_items" s__law_same_items ["_law_actual", "_law_expected"]) (X__law_same : Fx K mg "_law_same" "_law_same" s__law_same ["_law_actual", "_law_expected"]) (c__law_is_integer : Cal P w K mg base 1 "_law_is_integer" ["_law_actual"] [] F__law_is_integer) : Cal P w K mg base 31 "_law_same_items" ["_law_actual", "_law_expected"] [] F__law_same_items := ((calR_law_same_items__law_same T X__law_same_items X__law_same c__law_is_integer 30).1)
theorem cal__law_same (T : Txt K mg) (X__law_same_items : Fx K mg "_law_same_items" "_law_same_items" s__law_same_items ["_law_actual", "_law_expected"]) (X__law_same : Fx K mg "_law_same" "_law_same" s__law_same ["_law_actual", "_law_expected"]) (c__law_is_integer : Cal P w K mg base 1 "_law_is_integer" ["_law_actual"] [] F__law_is_integer) : Cal P w K mg base 31 "_law_same" ["_law_actual", "_law_expected"] [] F__law_same := ((calR_law_same_items__law_same T X__law_same_items X__law_same c__law_is_integer 30).2)

theorem sc__law_copy : FnScope ["_law_thing", "_law_item", "_law_result", "_law_key"] ["_law_thing"] (defScope s__law_copy) := ⟨rfl, rfl, rfl, by decide +kernel, rfl, by decide +kernel, by decide +kernel⟩
theorem calR_law_copy (T : Txt K mg) (X__law_copy : Fx K mg "_law_copy" "_law_copy" s__law_copy ["_law_thing"])  : ∀ n : Nat, Cal P w K mg base (0 + n) "_law_copy" ["_law_thing"] [] (R_law_copy n)
  | 0 => cal_zero X__law_copy
  | n + 1 => by
    have c__law_copy := calR_law_copy T X__law_copy  n
    · exact cal_fn X__law_copy sc__law_copy (by decide) (by decide) fun f cdv A outer s H E hr => show DSs _ _ _ (d__law_copy _) from (dss_cons (ds_if (dt_tru (de_isi (de_var 0) (by rfl) T.b_isinstance (by rfl) T.b_list BT_list)) (dss_one (ds_ret (de_lcU rfl sc__law_copy.nd (se_var 0) (own := [("_law_item", 1)]) (blkOk_by (by rfl)) tg_name (by decide) (fun _ _ _ _ _ => (pg_name (i := 1) sc__law_copy.nd rfl (by first | exact Or.inl rfl | exact Or.inr rfl))) (fun _ _ _ _ _ => dts_nil) (fun _ _ _ _ _ => (de_cal c__law_copy (hr.mono (Nat.le_refl _)) takes0 (by rfl) (das_cons (de_frz (de_var 1)) das_nil))) (de_lc rfl sc__law_copy.nd (di_seq (de_frz (de_var 0))) (own := [("_law_item", 1)]) (blkOk_by (by rfl)) tg_name (by decide) (fun _ _ _ _ _ => (pg_name (i := 1) sc__law_copy.nd rfl (by first | exact Or.inl rfl | exact Or.inr rfl))) (fun _ _ _ _ _ => dts_nil) (fun _ _ _ _ _ => (de_cal c__law_copy (hr.mono (Nat.le_refl _)) takes0 (by rfl) (das_cons (de_frz (de_var 1)) das_nil))))))) dss_nil)
  (dss_cons (ds_if (dt_tru (de_isi (de_var 0) (by rfl) T.b_isinstance (by rfl) T.b_tuple BT_tuple)) (dss_one (ds_ret (de_callTy call_tuple_of ops_tuple (by rfl) T.b_tuple BT_tuple (das_cons (de_lcU rfl sc__law_copy.nd (se_var 0) (own := [("_law_item", 1)]) (blkOk_by (by rfl)) tg_name (by decide) (fun _ _ _ _ _ => (pg_name (i := 1) sc__law_copy.nd rfl (by first | exact Or.inl rfl | exact Or.inr rfl))) (fun _ _ _ _ _ => dts_nil) (fun _ _ _ _ _ => (de_cal c__law_copy (hr.mono (Nat.le_refl _)) takes0 (by rfl) (das_cons (de_frz (de_var 1)) das_nil))) (de_lc rfl sc__law_copy.nd (di_seq (de_frz (de_var 0))) (own := [("_law_item", 1)]) (blkOk_by (by rfl)) tg_name (by decide) (fun _ _ _ _ _ => (pg_name (i := 1) sc__law_copy.nd rfl (by first | exact Or.inl rfl | exact Or.inr rfl))) (fun _ _ _ _ _ => dts_nil) (fun _ _ _ _ _ => (de_cal c__law_copy (hr.mono (Nat.le_refl _)) takes0 (by rfl) (das_cons (de_frz (de_var 1)) das_nil))))) das_nil)))) dss_nil)
  (dss_cons (ds_if (dt_tru (de_isi (de_var 0) (by rfl) T.b_isinstance (by rfl) T.b_dict BT_dict)) (dss_cons (ds_set 2 sc__law_copy.nd de_dict0)
  (dss_cons (ds_forU [3] poCx rfl (se_var 0) (ds_for [3] poCx rfl (di_seq (de_frz (de_var 0))) (pg_name (i := 3) sc__law_copy.nd rfl (by first | exact Or.inl rfl | exact Or.inr rfl)) tg_name (dss_one (ds_setItem (hu_of hr) (de_cal c__law_copy (hr.mono (Nat.le_refl _)) tkCx (by rfl) (das_cons (de_frz (de_ix (ix_all (hu_of hr)) ops_ix (de_var 0) (de_var 3) (fun _ _ => rfl))) das_nil)) (de_var 2) (de_var 3)))) (pg_name (i := 3) sc__law_copy.nd rfl (by first | exact Or.inl rfl | exact Or.inr rfl)) tg_name (dss_one (ds_setItem (hu_of hr) (de_cal c__law_copy (hr.mono (Nat.le_refl _)) tkCx (by rfl) (das_cons (de_frz (de_ix (ix_all (hu_of hr)) ops_ix (de_var 0) (de_var 3) (fun _ _ => rfl))) das_nil)) (de_var 2) (de_var 3))))
  (dss_one (ds_ret (de_move (de_var 2)))))) dss_nil)
  (dss_one (ds_ret (de_frz (de_var 0)))))))
theorem cal__law_copy (T : Txt K mg) (X__law_copy : Fx K mg "_law_copy" "_law_copy" s__law_copy ["_law_thing"])  : Cal P w K mg base 30 "_law_copy" ["_law_thing"] [] F__law_copy := (calR_law_copy T X__law_copy  30)

theorem sc__law_char : FnScope ["_law_tape_here", "_law_chars"] ["_law_tape_here"] (defScope s__law_char) := ⟨rfl, rfl, rfl, by decide +kernel, rfl, by decide +kernel, by decide +kernel⟩
theorem cal__law_char (T : Txt K mg) (X : Fx K mg "_law_char" "_law_char" s__law_char ["_law_tape_here"]) (c__law_take : Cal P w K mg base 1 "_law_take" ["_law_tape_here", "_law_many"] [0] F__law_take) : Cal P w K mg base 2 "_law_char" ["_law_tape_here"] [0] F__law_char :=
  cal_fn X sc__law_char (by decide) (by decide) fun f cdv A outer s H E hr => show DSs _ _ _ d__law_char from (dss_cons (ds_set 1 sc__law_char.nd de_str)
  (dss_cons (ds_set 1 sc__law_char.nd (de_op op_addAll ops_add (de_var 1) de_str))
  (dss_cons (ds_if (dt_cmp (op_eqR hr.units) ops_eq (de_cal c__law_take (hr.mono (by decide)) tkCx (by rfl) (das_cons (de_var 0) (das_cons de_int das_nil))) de_int (nomark _)) (dss_one (ds_ret (de_frz (de_ix (ix_all (hu_of hr)) ops_ix (de_var 1) (de_cal c__law_take (hr.mono (by decide)) tkCx (by rfl) (das_cons (de_var 0) (das_cons de_int das_nil))) (fun _ _ => rfl))))) dss_nil)
  (dss_one (ds_ret (de_frz (de_ix (ix_all (hu_of hr)) ops_ix de_str (de_cal c__law_take (hr.mono (by decide)) tkCx (by rfl) (das_cons (de_var 0) (das_cons de_int das_nil))) (fun _ _ => rfl))))))))

theorem sc__law_text : FnScope ["_law_tape_here", "_law_size", "_law_k"] ["_law_tape_here"] (defScope s__law_text) := ⟨rfl, rfl, rfl, by decide +kernel, rfl, by decide +kernel, by decide +kernel⟩
theorem cal__law_text (T : Txt K mg) (X : Fx K mg "_law_text" "_law_text" s__law_text ["_law_tape_here"]) (c__law_char : Cal P w K mg base 2 "_law_char" ["_law_tape_here"] [0] F__law_char) (c__law_take : Cal P w K mg base 1 "_law_take" ["_law_tape_here", "_law_many"] [0] F__law_take) : Cal P w K mg base 3 "_law_text" ["_law_tape_here"] [0] F__law_text :=
  cal_fn X sc__law_text (by decide) (by decide) fun f cdv A outer s H E hr => show DSs _ _ _ d__law_text from (dss_cons (ds_set 1 sc__law_text.nd (de_frz (de_cal c__law_take (hr.mono (by decide)) tkCx (by rfl) (das_cons (de_var 0) (das_cons de_int das_nil)))))
  (dss_cons (ds_if (dt_cmp (op_eqR hr.units) ops_eq (de_cal c__law_take (hr.mono (by decide)) tkCx (by rfl) (das_cons (de_var 0) (das_cons de_int das_nil))) de_int (nomark _)) (dss_one (ds_set 1 sc__law_text.nd (de_op op_addAll ops_add de_int (de_cal c__law_take (hr.mono (by decide)) tkCx (by rfl) (das_cons (de_var 0) (das_cons de_int das_nil)))))) dss_nil)
  (dss_one (ds_ret (de_sm PySem.F.slot_str_join PySem.F.type_str_join mt_join ops_join de_str (de_lc rfl sc__law_text.nd (di_range1 (by rfl) T.b_range (de_var 1)) (own := [("_law_k", 2)]) (blkOk_by (by rfl)) tg_name (by decide) (fun _ _ _ _ _ => (pg_name (i := 2) sc__law_text.nd rfl (by first | exact Or.inl rfl | exact Or.inr rfl))) (fun _ _ _ _ _ => dts_nil) (fun _ _ _ _ _ => (de_cal c__law_char (hr.mono (by decide)) takes0 (by rfl) (das_cons (de_var 0) das_nil)))))))))

theorem sc__law_integer : FnScope ["_law_tape_here", "_law_choice"] ["_law_tape_here"] (defScope s__law_integer) := ⟨rfl, rfl, rfl, by decide +kernel, rfl, by decide +kernel, by decide +kernel⟩
theorem cal__law_integer (T : Txt K mg) (X : Fx K mg "_law_integer" "_law_integer" s__law_integer ["_law_tape_here"]) (c__law_take : Cal P w K mg base 1 "_law_take" ["_law_tape_here", "_law_many"] [0] F__law_take) : Cal P w K mg base 2 "_law_integer" ["_law_tape_here"] [0] F__law_integer :=
  cal_fn X sc__law_integer (by decide) (by decide) fun f cdv A outer s H E hr => show DSs _ _ _ d__law_integer from (dss_cons (ds_set 1 sc__law_integer.nd (de_frz (de_cal c__law_take (hr.mono (by decide)) tkCx (by rfl) (das_cons (de_var 0) (das_cons de_int das_nil)))))
  (dss_cons (ds_if (dt_cmp (op_eqR hr.units) ops_eq (de_var 1) de_int (nomark _)) (dss_one (ds_ret (de_op op_sub ops_sub (de_cal c__law_take (hr.mono (by decide)) tkCx (by rfl) (das_cons (de_var 0) (das_cons de_int das_nil))) de_int))) dss_nil)
  (dss_cons (ds_if (dt_cmp (op_eqR hr.units) ops_eq (de_var 1) de_int (nomark _)) (dss_one (ds_ret (de_frz (de_ix (ix_all (hu_of hr)) ops_ix (de_lstO (das_cons de_int (das_cons (de_un un_neg ops_neg de_int) (das_cons de_int (das_cons de_int das_nil))))) (de_cal c__law_take (hr.mono (by decide)) tkCx (by rfl) (das_cons (de_var 0) (das_cons de_int das_nil))) (fun _ _ => rfl))))) dss_nil)
  (dss_cons (ds_if (dt_cmp (op_eqR hr.units) ops_eq (de_var 1) de_int (nomark _)) (dss_one (ds_ret (de_un un_neg ops_neg (de_cal c__law_take (hr.mono (by decide)) tkCx (by rfl) (das_cons (de_var 0) (das_cons de_int das_nil)))))) dss_nil)
  (dss_one (ds_ret (de_cal c__law_take (hr.mono (by decide)) tkCx (by rfl) (das_cons (de_var 0) (das_cons de_int das_nil)))))))))

theorem sc__law_value : FnScope ["_law_tape_here", "_law_kind", "_law_nullable"] ["_law_tape_here", "_law_kind", "_law_nullable"] (defScope s__law_value) := ⟨rfl, rfl, rfl, by decide +kernel, rfl, by decide +kernel, by decide +kernel⟩
theorem cal__law_value (T : Txt K mg) (X : Fx K mg "_law_value" "_law_value" s__law_value ["_law_tape_here", "_law_kind", "_law_nullable"]) (c__law_integer : Cal P w K mg base 2 "_law_integer" ["_law_tape_here"] [0] F__law_integer) (c__law_take : Cal P w K mg base 1 "_law_take" ["_law_tape_here", "_law_many"] [0] F__law_take) (c__law_text : Cal P w K mg base 3 "_law_text" ["_law_tape_here"] [0] F__law_text) : Cal P w K mg base 4 "_law_value" ["_law_tape_here", "_law_kind", "_law_nullable"] [0] F__law_value :=
  cal_fn X sc__law_value (by decide) (by decide) fun f cdv A outer s H E hr => show DSs _ _ _ d__law_value from (dss_cons (ds_if (DW.dt (dw_and (dt_tru (de_var 2)) (dw_and1 (dt_cmp (op_eqR hr.units) ops_eq (de_cal c__law_take (hr.mono (by decide)) tkCx (by rfl) (das_cons (de_var 0) (das_cons de_int das_nil))) de_int (nomark _))))) (dss_one (ds_ret de_non)) dss_nil)
  (dss_cons (ds_if (dt_cmp (op_eqR hr.units) ops_eq (de_var 1) de_str (nomark _)) (dss_one (ds_ret (de_cal c__law_integer (hr.mono (by decide)) tkCx (by rfl) (das_cons (de_var 0) das_nil)))) dss_nil)
  (dss_cons (ds_if (dt_cmp (op_eqR hr.units) ops_eq (de_cal c__law_take (hr.mono (by decide)) tkCx (by rfl) (das_cons (de_var 0) (das_cons de_int das_nil))) de_int (nomark _)) (dss_one (ds_ret (de_op op_addAll ops_add (de_ix (ix_all (hu_of hr)) ops_ix (de_lstO (das_cons de_str (das_cons de_str (das_cons de_str (das_cons de_str das_nil))))) (de_cal c__law_take (hr.mono (by decide)) tkCx (by rfl) (das_cons (de_var 0) (das_cons de_int das_nil))) (fun _ _ => rfl)) (de_callTy call_str_int ops_str (by rfl) T.b_str BT_str (das_cons (de_cal c__law_integer (hr.mono (by decide)) tkCx (by rfl) (das_cons (de_var 0) das_nil)) das_nil))))) dss_nil)
  (dss_one (ds_ret (de_cal c__law_text (hr.mono (by decide)) tkCx (by rfl) (das_cons (de_var 0) das_nil)))))))

theorem sc__law_name : FnScope ["_law_tape_here", "_law_used", "_law_letters", "_law_signs", "_law_size", "_law_name_here", "_law_k"] ["_law_tape_here", "_law_used"] (defScope s__law_name) := ⟨rfl, rfl, rfl, by decide +kernel, rfl, by decide +kernel, by decide +kernel⟩
theorem cal__law_name (T : Txt K mg) (X : Fx K mg "_law_name" "_law_name" s__law_name ["_law_tape_here", "_law_used"]) (c__law_take : Cal P w K mg base 1 "_law_take" ["_law_tape_here", "_law_many"] [0] F__law_take) : Cal P w K mg base 2 "_law_name" ["_law_tape_here", "_law_used"] [0, 1] F__law_name :=
  cal_fn X sc__law_name (by decide) (by decide) fun f cdv A outer s H E hr => show DSs _ _ _ d__law_name from (dss_cons (ds_set 2 sc__law_name.nd de_str)
  (dss_cons (ds_set 3 sc__law_name.nd (de_op op_addAll ops_add (de_var 2) de_str))
  (dss_cons (ds_set 4 sc__law_name.nd (de_frz (de_cal c__law_take (hr.mono (by decide)) tkCx (by rfl) (das_cons (de_var 0) (das_cons de_int das_nil)))))
  (dss_cons (ds_if (dt_cmp (op_eqR hr.units) ops_eq (de_cal c__law_take (hr.mono (by decide)) tkCx (by rfl) (das_cons (de_var 0) (das_cons de_int das_nil))) de_int (nomark _)) (dss_one (ds_set 4 sc__law_name.nd de_int)) dss_nil)
  (dss_cons (ds_set 5 sc__law_name.nd (de_op op_addAll ops_add (de_ix (ix_all (hu_of hr)) ops_ix (de_var 2) (de_cal c__law_take (hr.mono (by decide)) tkCx (by rfl) (das_cons (de_var 0) (das_cons de_int das_nil))) (fun _ _ => rfl)) (de_sm PySem.F.slot_str_join PySem.F.type_str_join mt_join ops_join de_str (de_lc rfl sc__law_name.nd (di_range1 (by rfl) T.b_range (de_var 4)) (own := [("_law_k", 6)]) (blkOk_by (by rfl)) tg_name (by decide) (fun _ _ _ _ _ => (pg_name (i := 6) sc__law_name.nd rfl (by first | exact Or.inl rfl | exact Or.inr rfl))) (fun _ _ _ _ _ => dts_nil) (fun _ _ _ _ _ => (de_frz (de_ix (ix_all (hu_of hr)) ops_ix (de_var 3) (de_cal c__law_take (hr.mono (by decide)) takes0 (by rfl) (das_cons (de_var 0) (das_cons de_int das_nil))) (fun _ _ => rfl))))))))
  (dss_cons (ds_for [6] poCx rfl (di_range1 (by rfl) T.b_range de_int) (pg_name (i := 6) sc__law_name.nd rfl (by first | exact Or.inl rfl | exact Or.inr rfl)) tg_name (dss_one (ds_if (dt_cmp (op_inAll hr.units) ops_in (de_var 5) (de_var 1) (by rfl)) (dss_one (ds_set 5 sc__law_name.nd (de_frz (de_op op_addAll ops_add (de_ix (ix_all (hu_of hr)) ops_ix (de_var 2) (de_var 6) (fun _ _ => rfl)) (de_sl_h (de_var 5) de_int))))) dss_nil)))
  (dss_cons (ds_expr (de_append (de_var 1) (de_frz (de_var 5))))
  (dss_one (ds_ret (de_move (de_var 5)))))))))))

theorem sc__law_columns : FnScope ["_law_tape_here", "_law_used", "_law_many", "_law_kinds", "_law_columns_here", "_law_k"] ["_law_tape_here", "_law_used", "_law_many"] (defScope s__law_columns) := ⟨rfl, rfl, rfl, by decide +kernel, rfl, by decide +kernel, by decide +kernel⟩
theorem cal__law_columns (T : Txt K mg) (X : Fx K mg "_law_columns" "_law_columns" s__law_columns ["_law_tape_here", "_law_used", "_law_many"]) (c__law_name : Cal P w K mg base 2 "_law_name" ["_law_tape_here", "_law_used"] [0, 1] F__law_name) (c__law_take : Cal P w K mg base 1 "_law_take" ["_law_tape_here", "_law_many"] [0] F__law_take) : Cal P w K mg base 3 "_law_columns" ["_law_tape_here", "_law_used", "_law_many"] [0, 1] F__law_columns :=
  cal_fn X sc__law_columns (by decide) (by decide) fun f cdv A outer s H E hr => show DSs _ _ _ d__law_columns from (dss_cons (ds_set 3 sc__law_columns.nd (de_frz (de_lstO (das_cons de_str (das_cons de_str das_nil)))))
  (dss_cons (ds_set 4 sc__law_columns.nd (de_lstO (das_cons (de_tupD (das_cons (de_frz (de_cal c__law_name (hr.mono (by decide)) tkCx (by rfl) (das_cons (de_var 0) (das_cons (de_var 1) das_nil)))) (das_cons (de_frz (de_ix (ix_all (hu_of hr)) ops_ix (de_var 3) (de_cal c__law_take (hr.mono (by decide)) tkCx (by rfl) (das_cons (de_var 0) (das_cons de_int das_nil))) (fun _ _ => rfl))) (das_cons de_bl das_nil)))) das_nil)))
  (dss_cons (ds_for [5] poCx rfl (di_range1 (by rfl) T.b_range (de_var 2)) (pg_name (i := 5) sc__law_columns.nd rfl (by first | exact Or.inl rfl | exact Or.inr rfl)) tg_name (dss_one (ds_expr (de_append (de_var 4) (de_tupD (das_cons (de_frz (de_cal c__law_name (hr.mono (by decide)) tkCx (by rfl) (das_cons (de_var 0) (das_cons (de_var 1) das_nil)))) (das_cons (de_frz (de_ix (ix_all (hu_of hr)) ops_ix (de_var 3) (de_cal c__law_take (hr.mono (by decide)) tkCx (by rfl) (das_cons (de_var 0) (das_cons de_int das_nil))) (fun _ _ => rfl))) (das_cons (de_cmp (op_eqR hr.units) ops_eq (de_cal c__law_take (hr.mono (by decide)) tkCx (by rfl) (das_cons (de_var 0) (das_cons de_int das_nil))) de_int (nomark _)) das_nil))))))))
  (dss_one (ds_ret (de_move (de_var 4)))))))

theorem sc__law_table : FnScope ["_law_columns_here"] ["_law_columns_here"] (defScope s__law_table) := ⟨rfl, rfl, rfl, by decide +kernel, rfl, by decide +kernel, by decide +kernel⟩
theorem cal__law_table (T : Txt K mg) (X : Fx K mg "_law_table" "_law_table" s__law_table ["_law_columns_here"])  : Cal P w K mg base 1 "_law_table" ["_law_columns_here"] [] F__law_table :=
  cal_fn X sc__law_table (by decide) (by decide) fun f cdv A outer s H E hr => show DSs _ _ _ d__law_table from (dss_one (ds_ret (de_disp (dps_str (de_callTy call_list_of ops_list (by rfl) T.b_list BT_list (das_cons (de_frz (de_var 0)) das_nil)) (dps_str (de_lstO das_nil) (dps_str (de_lstO das_nil) (dps_str (de_lstO das_nil) dps_nil)))))))

theorem sc__law_names : FnScope ["_law_columns_here", "_law_column"] ["_law_columns_here"] (defScope s__law_names) := ⟨rfl, rfl, rfl, by decide +kernel, rfl, by decide +kernel, by decide +kernel⟩
theorem cal__law_names (T : Txt K mg) (X : Fx K mg "_law_names" "_law_names" s__law_names ["_law_columns_here"])  : Cal P w K mg base 1 "_law_names" ["_law_columns_here"] [] F__law_names :=
  cal_fn X sc__law_names (by decide) (by decide) fun f cdv A outer s H E hr => show DSs _ _ _ d__law_names from (dss_one (ds_ret (de_lcU rfl sc__law_names.nd (se_var 0) (own := [("_law_column", 1)]) (blkOk_by (by rfl)) tg_name (by decide) (fun _ _ _ _ _ => (pg_name (i := 1) sc__law_names.nd rfl (by first | exact Or.inl rfl | exact Or.inr rfl))) (fun _ _ _ _ _ => dts_nil) (fun _ _ _ _ _ => (de_frz (de_ix (ix_all (hu_of hr)) ops_ix (de_var 1) de_int (fun _ _ => rfl)))) (de_lc rfl sc__law_names.nd (di_seq (de_frz (de_var 0))) (own := [("_law_column", 1)]) (blkOk_by (by rfl)) tg_name (by decide) (fun _ _ _ _ _ => (pg_name (i := 1) sc__law_names.nd rfl (by first | exact Or.inl rfl | exact Or.inr rfl))) (fun _ _ _ _ _ => dts_nil) (fun _ _ _ _ _ => (de_frz (de_ix (ix_all (hu_of hr)) ops_ix (de_var 1) de_int (fun _ _ => rfl))))))))

theorem sc__law_clause : FnScope ["_law_tape_here", "_law_columns_here", "_law_column", "_law_operator"] ["_law_tape_here", "_law_columns_here"] (defScope s__law_clause) := ⟨rfl, rfl, rfl, by decide +kernel, rfl, by decide +kernel, by decide +kernel⟩
theorem cal__law_clause (T : Txt K mg) (X : Fx K mg "_law_clause" "_law_clause" s__law_clause ["_law_tape_here", "_law_columns_here"]) (c__law_take : Cal P w K mg base 1 "_law_take" ["_law_tape_here", "_law_many"] [0] F__law_take) (c__law_value : Cal P w K mg base 4 "_law_value" ["_law_tape_here", "_law_kind", "_law_nullable"] [0] F__law_value) : Cal P w K mg base 5 "_law_clause" ["_law_tape_here", "_law_columns_here"] [0] F__law_clause :=
  cal_fn X sc__law_clause (by decide) (by decide) fun f cdv A outer s H E hr => show DSs _ _ _ d__law_clause from (dss_cons (ds_set 2 sc__law_clause.nd (de_frz (de_ix (ix_all (hu_of hr)) ops_ix (de_var 1) (de_cal c__law_take (hr.mono (by decide)) tkCx (by rfl) (das_cons (de_var 0) (das_cons (de_callB cr_lenAll ops_len (by rfl) T.b_len BT_len (das_cons (de_var 1) das_nil)) das_nil))) (fun _ _ => rfl))))
  (dss_cons (ds_set 3 sc__law_clause.nd (de_frz (de_ix (ix_all (hu_of hr)) ops_ix (de_lstO (das_cons de_str (das_cons de_str (das_cons de_str (das_cons de_str (das_cons de_str (das_cons de_str (das_cons de_str (das_cons de_str das_nil))))))))) (de_cal c__law_take (hr.mono (by decide)) tkCx (by rfl) (das_cons (de_var 0) (das_cons de_int das_nil))) (fun _ _ => rfl))))
  (dss_cons (ds_if (DW.dt (dw_or (dt_cmp (op_eqR hr.units) ops_eq (de_var 3) de_str (nomark _)) (dw_or1 (dt_cmp (op_eqR hr.units) ops_eq (de_var 3) de_str (nomark _))))) (dss_one (ds_ret (de_tupD (das_cons (de_frz (de_ix (ix_all (hu_of hr)) ops_ix (de_var 2) de_int (fun _ _ => rfl))) (das_cons (de_frz (de_var 3)) (das_cons de_non das_nil)))))) dss_nil)
  (dss_one (ds_ret (de_tupD (das_cons (de_frz (de_ix (ix_all (hu_of hr)) ops_ix (de_var 2) de_int (fun _ _ => rfl))) (das_cons (de_frz (de_var 3)) (das_cons (de_frz (de_cal c__law_value (hr.mono (by decide)) tkCx (by rfl) (das_cons (de_var 0) (das_cons (de_frz (de_ix (ix_all (hu_of hr)) ops_ix (de_var 2) de_int (fun _ _ => rfl))) (das_cons de_bl das_nil))))) das_nil)))))))))

theorem sc__law_condition : FnScope ["_law_tape_here", "_law_columns_here", "_law_condition_here", "_law_k", "_law_many", "_law_j"] ["_law_tape_here", "_law_columns_here"] (defScope s__law_condition) := ⟨rfl, rfl, rfl, by decide +kernel, rfl, by decide +kernel, by decide +kernel⟩
theorem cal__law_condition (T : Txt K mg) (X : Fx K mg "_law_condition" "_law_condition" s__law_condition ["_law_tape_here", "_law_columns_here"]) (c__law_clause : Cal P w K mg base 5 "_law_clause" ["_law_tape_here", "_law_columns_here"] [0] F__law_clause) (c__law_take : Cal P w K mg base 1 "_law_take" ["_law_tape_here", "_law_many"] [0] F__law_take) : Cal P w K mg base 6 "_law_condition" ["_law_tape_here", "_law_columns_here"] [0] F__law_condition :=
  cal_fn X sc__law_condition (by decide) (by decide) fun f cdv A outer s H E hr => show DSs _ _ _ d__law_condition from (dss_cons (ds_set 2 sc__law_condition.nd (de_lstO das_nil))
  (dss_cons (ds_for [3, 4] poCx rfl (di_range1 (by rfl) T.b_range (de_ix (ix_all (hu_of hr)) ops_ix (de_lstO (das_cons de_int (das_cons de_int (das_cons de_int (das_cons de_int (das_cons de_int das_nil)))))) (de_cal c__law_take (hr.mono (by decide)) tkCx (by rfl) (das_cons (de_var 0) (das_cons de_int das_nil))) (fun _ _ => rfl))) (pg_name (i := 3) sc__law_condition.nd rfl (by first | exact Or.inl rfl | exact Or.inr rfl)) tg_name (dss_cons (ds_set 4 sc__law_condition.nd (de_frz (de_ix (ix_all (hu_of hr)) ops_ix (de_lstO (das_cons de_int (das_cons de_int (das_cons de_int (das_cons de_int (das_cons de_int das_nil)))))) (de_cal c__law_take (hr.mono (by decide)) tkCx (by rfl) (das_cons (de_var 0) (das_cons de_int das_nil))) (fun _ _ => rfl))))
  (dss_one (ds_expr (de_append (de_var 2) (de_callTy call_tuple_of ops_tuple (by rfl) T.b_tuple BT_tuple (das_cons (de_lc rfl sc__law_condition.nd (di_range1 (by rfl) T.b_range (de_var 4)) (own := [("_law_j", 5)]) (blkOk_by (by rfl)) tg_name (by decide) (fun _ _ _ _ _ => (pg_name (i := 5) sc__law_condition.nd rfl (by first | exact Or.inl rfl | exact Or.inr rfl))) (fun _ _ _ _ _ => dts_nil) (fun _ _ _ _ _ => (de_cal c__law_clause (hr.mono (by decide)) takes0 (by rfl) (das_cons (de_var 0) (das_cons (de_frz (de_var 1)) das_nil))))) das_nil)))))))
  (dss_one (ds_ret (de_callTy call_tuple_of ops_tuple (by rfl) T.b_tuple BT_tuple (das_cons (de_move (de_var 2)) das_nil))))))

theorem sc__law_limits : FnScope ["_law_tape_here", "_law_schema_here", "_law_table_here", "_law_columns_here", "_law_names_here", "_law_others", "_law_name_here", "_law_k", "_law_column", "_law_other"] ["_law_tape_here", "_law_schema_here", "_law_table_here"] (defScope s__law_limits) := ⟨rfl, rfl, rfl, by decide +kernel, rfl, by decide +kernel, by decide +kernel⟩
theorem cal__law_limits (T : Txt K mg) (X : Fx K mg "_law_limits" "_law_limits" s__law_limits ["_law_tape_here", "_law_schema_here", "_law_table_here"]) (c__law_condition : Cal P w K mg base 6 "_law_condition" ["_law_tape_here", "_law_columns_here"] [0] F__law_condition) (c__law_names : Cal P w K mg base 1 "_law_names" ["_law_columns_here"] [] F__law_names) (c__law_take : Cal P w K mg base 1 "_law_take" ["_law_tape_here", "_law_many"] [0] F__law_take) : Cal P w K mg base 7 "_law_limits" ["_law_tape_here", "_law_schema_here", "_law_table_here"] [0, 1] F__law_limits :=
  cal_fn X sc__law_limits (by decide) (by decide) fun f cdv A outer s H E hr => show DSs _ _ _ d__law_limits from (dss_cons (ds_set 3 sc__law_limits.nd (de_frz (de_ix (ix_all (hu_of hr)) ops_ix (de_ix (ix_all (hu_of hr)) ops_ix (de_var 1) (de_var 2) (fun _ _ => rfl)) de_str (fun _ _ => rfl))))
  (dss_cons (ds_set 4 sc__law_limits.nd (de_frz (de_sl_l (de_cal c__law_names (hr.mono (by decide)) tkCx (by rfl) (das_cons (de_frz (de_var 3)) das_nil)) de_int)))
  (dss_cons (ds_setLc (i := 5) rfl sc__law_limits.nd rfl rfl (sw_true rfl rfl rfl rfl) (di_seq (de_frz (de_callB (cr_sortK rfl) ops_sort (by rfl) T.b_sorted BT_sorted (das_cons (de_var 1) das_nil)))) (own := [("_law_name_here", 6)]) (blkOk_by (by rfl)) tg_name (by decide) (fun _ _ _ _ _ => (pg_name (i := 6) sc__law_limits.nd rfl (by first | exact Or.inl rfl | exact Or.inr rfl))) (fun _ _ _ _ _ => (dts_one (dt_cmp (op_neR hr.units) ops_ne (de_var 6) (de_var 2) (nomark _)))) (fun _ _ _ _ _ => (de_frz (de_var 6))))
  (dss_cons (ds_for [7] poCx rfl (di_range1 (by rfl) T.b_range (de_ix (ix_all (hu_of hr)) ops_ix (de_lstO (das_cons de_int (das_cons de_int (das_cons de_int (das_cons de_int das_nil))))) (de_cal c__law_take (hr.mono (by decide)) tkCx (by rfl) (das_cons (de_var 0) (das_cons de_int das_nil))) (fun _ _ => rfl))) (pg_name (i := 7) sc__law_limits.nd rfl (by first | exact Or.inl rfl | exact Or.inr rfl)) tg_name (dss_one (ds_expr (de_append (de_ix (ix_all (hu_of hr)) ops_ix (de_ix (ix_all (hu_of hr)) ops_ix (de_var 1) (de_var 2) (fun _ _ => rfl)) de_str (fun _ _ => rfl)) (de_cal c__law_condition (hr.mono (by decide)) tkCx (by rfl) (das_cons (de_var 0) (das_cons (de_frz (de_var 3)) das_nil)))))))
  (dss_cons (ds_pre fz_ok (ds_forU [6] poCx rfl (se_var 4) (ds_for [6] poCx rfl (di_seq (de_frz (de_var 4))) (pg_name (i := 6) sc__law_limits.nd rfl (by first | exact Or.inl rfl | exact Or.inr rfl)) tg_name (dss_one (ds_if (DW.dt (dw_and (dt_cmp (op_eqR hr.units) ops_eq (de_cal c__law_take (hr.mono (by decide)) tkCx (by rfl) (das_cons (de_var 0) (das_cons de_int das_nil))) de_int (nomark _)) (dw_and1 (dt_cmp op_ltS ops_ord (de_callB cr_lenAll ops_len (by rfl) T.b_len BT_len (das_cons (de_ix (ix_all (hu_of hr)) ops_ix (de_ix (ix_all (hu_of hr)) ops_ix (de_var 1) (de_var 2) (fun _ _ => rfl)) de_str (fun _ _ => rfl)) das_nil)) de_int (nomark _))))) (dss_one (ds_expr (de_append (de_ix (ix_all (hu_of hr)) ops_ix (de_ix (ix_all (hu_of hr)) ops_ix (de_var 1) (de_var 2) (fun _ _ => rfl)) de_str (fun _ _ => rfl)) (de_frz (de_var 6))))) dss_nil))) (pg_name (i := 6) sc__law_limits.nd rfl (by first | exact Or.inl rfl | exact Or.inr rfl)) tg_name (dss_one (ds_if (DW.dt (dw_and (dt_cmp (op_eqR hr.units) ops_eq (de_cal c__law_take (hr.mono (by decide)) tkCx (by rfl) (das_cons (de_var 0) (das_cons de_int das_nil))) de_int (nomark _)) (dw_and1 (dt_cmp op_ltS ops_ord (de_callB cr_lenAll ops_len (by rfl) T.b_len BT_len (das_cons (de_ix (ix_all (hu_of hr)) ops_ix (de_ix (ix_all (hu_of hr)) ops_ix (de_var 1) (de_var 2) (fun _ _ => rfl)) de_str (fun _ _ => rfl)) das_nil)) de_int (nomark _))))) (dss_one (ds_expr (de_append (de_ix (ix_all (hu_of hr)) ops_ix (de_ix (ix_all (hu_of hr)) ops_ix (de_var 1) (de_var 2) (fun _ _ => rfl)) de_str (fun _ _ => rfl)) (de_frz (de_var 6))))) dss_nil))))
  (dss_one (ds_for [8, 9] poCx rfl (di_seq (de_frz (de_sl_l (de_var 3) de_int))) (pg_name (i := 8) sc__law_limits.nd rfl (by first | exact Or.inl rfl | exact Or.inr rfl)) tg_name (dss_one (ds_if (DW.dt (dw_and (dt_cmp (op_neR hr.units) ops_ne (de_var 5) (de_lstO das_nil) (nomark _)) (dw_and (dt_cmp (op_eqR hr.units) ops_eq (de_cal c__law_take (hr.mono (by decide)) tkCx (by rfl) (das_cons (de_var 0) (das_cons de_int das_nil))) de_int (nomark _)) (dw_and1 (dt_cmp op_ltS ops_ord (de_callB cr_lenAll ops_len (by rfl) T.b_len BT_len (das_cons (de_ix (ix_all (hu_of hr)) ops_ix (de_ix (ix_all (hu_of hr)) ops_ix (de_var 1) (de_var 2) (fun _ _ => rfl)) de_str (fun _ _ => rfl)) das_nil)) de_int (nomark _)))))) (dss_cons (ds_set 9 sc__law_limits.nd (de_frz (de_ix (ix_all (hu_of hr)) ops_ix (de_var 5) (de_cal c__law_take (hr.mono (by decide)) tkCx (by rfl) (das_cons (de_var 0) (das_cons (de_callB cr_lenAll ops_len (by rfl) T.b_len BT_len (das_cons (de_var 5) das_nil)) das_nil))) (fun _ _ => rfl))))
  (dss_one (ds_if (dt_cmp (op_eqR hr.units) ops_eq (de_ix (ix_all (hu_of hr)) ops_ix (de_ix (ix_all (hu_of hr)) ops_ix (de_ix (ix_all (hu_of hr)) ops_ix (de_ix (ix_all (hu_of hr)) ops_ix (de_var 1) (de_var 9) (fun _ _ => rfl)) de_str (fun _ _ => rfl)) de_int (fun _ _ => rfl)) de_int (fun _ _ => rfl)) (de_ix (ix_all (hu_of hr)) ops_ix (de_var 8) de_int (fun _ _ => rfl)) (nomark _)) (dss_one (ds_expr (de_append (de_ix (ix_all (hu_of hr)) ops_ix (de_ix (ix_all (hu_of hr)) ops_ix (de_var 1) (de_var 2) (fun _ _ => rfl)) de_str (fun _ _ => rfl)) (de_tupD (das_cons (de_frz (de_ix (ix_all (hu_of hr)) ops_ix (de_var 8) de_int (fun _ _ => rfl))) (das_cons (de_frz (de_var 9)) das_nil)))))) dss_nil))) dss_nil)))))))))

theorem sc__law_schema : FnScope ["_law_tape_here", "_law_least", "_law_most", "_law_used", "_law_schema_here", "_law_k", "_law_table_here"] ["_law_tape_here", "_law_least", "_law_most"] (defScope s__law_schema) := ⟨rfl, rfl, rfl, by decide +kernel, rfl, by decide +kernel, by decide +kernel⟩
theorem cal__law_schema (T : Txt K mg) (X : Fx K mg "_law_schema" "_law_schema" s__law_schema ["_law_tape_here", "_law_least", "_law_most"]) (c__law_columns : Cal P w K mg base 3 "_law_columns" ["_law_tape_here", "_law_used", "_law_many"] [0, 1] F__law_columns) (c__law_limits : Cal P w K mg base 7 "_law_limits" ["_law_tape_here", "_law_schema_here", "_law_table_here"] [0, 1] F__law_limits) (c__law_name : Cal P w K mg base 2 "_law_name" ["_law_tape_here", "_law_used"] [0, 1] F__law_name) (c__law_table : Cal P w K mg base 1 "_law_table" ["_law_columns_here"] [] F__law_table) (c__law_take : Cal P w K mg base 1 "_law_take" ["_law_tape_here", "_law_many"] [0] F__law_take) : Cal P w K mg base 8 "_law_schema" ["_law_tape_here", "_law_least", "_law_most"] [0] F__law_schema :=
  cal_fn X sc__law_schema (by decide) (by decide) fun f cdv A outer s H E hr => show DSs _ _ _ d__law_schema from (dss_cons (ds_set 3 sc__law_schema.nd (de_lstO das_nil))
  (dss_cons (ds_set 4 sc__law_schema.nd de_dict0)
  (dss_cons (ds_for [5] poCx rfl (di_range1 (by rfl) T.b_range (de_op op_addAll ops_add (de_var 1) (de_cal c__law_take (hr.mono (by decide)) tkCx (by rfl) (das_cons (de_var 0) (das_cons (de_op op_addAll ops_add (de_op op_sub ops_sub (de_var 2) (de_var 1)) de_int) das_nil))))) (pg_name (i := 5) sc__law_schema.nd rfl (by first | exact Or.inl rfl | exact Or.inr rfl)) tg_name (dss_one (ds_setItem (hu_of hr) (de_cal c__law_table (hr.mono (by decide)) tkCx (by rfl) (das_cons (de_frz (de_cal c__law_columns (hr.mono (by decide)) tkCx (by rfl) (das_cons (de_var 0) (das_cons (de_lstO das_nil) (das_cons (de_frz (de_cal c__law_take (hr.mono (by decide)) tkCx (by rfl) (das_cons (de_var 0) (das_cons de_int das_nil)))) das_nil))))) das_nil)) (de_var 4) (de_cal c__law_name (hr.mono (by decide)) tkCx (by rfl) (das_cons (de_var 0) (das_cons (de_var 3) das_nil))))))
  (dss_cons (ds_for [6] poCx rfl (di_seq (de_frz (de_callB (cr_sortK rfl) ops_sort (by rfl) T.b_sorted BT_sorted (das_cons (de_var 4) das_nil)))) (pg_name (i := 6) sc__law_schema.nd rfl (by first | exact Or.inl rfl | exact Or.inr rfl)) tg_name (dss_one (ds_expr (de_cal c__law_limits (hr.mono (by decide)) tkCx (by rfl) (das_cons (de_var 0) (das_cons (de_var 4) (das_cons (de_frz (de_var 6)) das_nil)))))))
  (dss_one (ds_ret (de_move (de_var 4))))))))

theorem sc__law_uses : FnScope ["_law_description", "_law_name_here", "_law_check", "_law_alternative", "_law_clause_here", "_law_reference"] ["_law_description", "_law_name_here"] (defScope s__law_uses) := ⟨rfl, rfl, rfl, by decide +kernel, rfl, by decide +kernel, by decide +kernel⟩
theorem cal__law_uses (T : Txt K mg) (X : Fx K mg "_law_uses" "_law_uses" s__law_uses ["_law_description", "_law_name_here"])  : Cal P w K mg base 1 "_law_uses" ["_law_description", "_law_name_here"] [] F__law_uses :=
  cal_fn X sc__law_uses (by decide) (by decide) fun f cdv A outer s H E hr => show DSs _ _ _ d__law_uses from (dss_cons (ds_forU [2, 3, 4] poCx rfl (se_ix (hu_of hr) (se_var 0) se_str (fun _ _ => rfl)) (ds_for [2, 3, 4] poCx rfl (di_seq (de_frz (de_ix (ix_all (hu_of hr)) ops_ix (de_var 0) de_str (fun _ _ => rfl)))) (pg_name (i := 2) sc__law_uses.nd rfl (by first | exact Or.inl rfl | exact Or.inr rfl)) tg_name (dss_one (ds_pre fz_ok (ds_forU [3, 4] poCx rfl (se_var 2) (ds_for [3, 4] poCx rfl (di_seq (de_frz (de_var 2))) (pg_name (i := 3) sc__law_uses.nd rfl (by first | exact Or.inl rfl | exact Or.inr rfl)) tg_name (dss_one (ds_pre fz_ok (ds_forU [4] poCx rfl (se_var 3) (ds_for [4] poCx rfl (di_seq (de_frz (de_var 3))) (pg_name (i := 4) sc__law_uses.nd rfl (by first | exact Or.inl rfl | exact Or.inr rfl)) tg_name (dss_one (ds_if (dt_cmp (op_eqR hr.units) ops_eq (de_ix (ix_all (hu_of hr)) ops_ix (de_var 4) de_int (fun _ _ => rfl)) (de_var 1) (nomark _)) (dss_one (ds_ret de_bl)) dss_nil))) (pg_name (i := 4) sc__law_uses.nd rfl (by first | exact Or.inl rfl | exact Or.inr rfl)) tg_name (dss_one (ds_if (dt_cmp (op_eqR hr.units) ops_eq (de_ix (ix_all (hu_of hr)) ops_ix (de_var 4) de_int (fun _ _ => rfl)) (de_var 1) (nomark _)) (dss_one (ds_ret de_bl)) dss_nil)))))) (pg_name (i := 3) sc__law_uses.nd rfl (by first | exact Or.inl rfl | exact Or.inr rfl)) tg_name (dss_one (ds_pre fz_ok (ds_forU [4] poCx rfl (se_var 3) (ds_for [4] poCx rfl (di_seq (de_frz (de_var 3))) (pg_name (i := 4) sc__law_uses.nd rfl (by first | exact Or.inl rfl | exact Or.inr rfl)) tg_name (dss_one (ds_if (dt_cmp (op_eqR hr.units) ops_eq (de_ix (ix_all (hu_of hr)) ops_ix (de_var 4) de_int (fun _ _ => rfl)) (de_var 1) (nomark _)) (dss_one (ds_ret de_bl)) dss_nil))) (pg_name (i := 4) sc__law_uses.nd rfl (by first | exact Or.inl rfl | exact Or.inr rfl)) tg_name (dss_one (ds_if (dt_cmp (op_eqR hr.units) ops_eq (de_ix (ix_all (hu_of hr)) ops_ix (de_var 4) de_int (fun _ _ => rfl)) (de_var 1) (nomark _)) (dss_one (ds_ret de_bl)) dss_nil))))))))) (pg_name (i := 2) sc__law_uses.nd rfl (by first | exact Or.inl rfl | exact Or.inr rfl)) tg_name (dss_one (ds_pre fz_ok (ds_forU [3, 4] poCx rfl (se_var 2) (ds_for [3, 4] poCx rfl (di_seq (de_frz (de_var 2))) (pg_name (i := 3) sc__law_uses.nd rfl (by first | exact Or.inl rfl | exact Or.inr rfl)) tg_name (dss_one (ds_pre fz_ok (ds_forU [4] poCx rfl (se_var 3) (ds_for [4] poCx rfl (di_seq (de_frz (de_var 3))) (pg_name (i := 4) sc__law_uses.nd rfl (by first | exact Or.inl rfl | exact Or.inr rfl)) tg_name (dss_one (ds_if (dt_cmp (op_eqR hr.units) ops_eq (de_ix (ix_all (hu_of hr)) ops_ix (de_var 4) de_int (fun _ _ => rfl)) (de_var 1) (nomark _)) (dss_one (ds_ret de_bl)) dss_nil))) (pg_name (i := 4) sc__law_uses.nd rfl (by first | exact Or.inl rfl | exact Or.inr rfl)) tg_name (dss_one (ds_if (dt_cmp (op_eqR hr.units) ops_eq (de_ix (ix_all (hu_of hr)) ops_ix (de_var 4) de_int (fun _ _ => rfl)) (de_var 1) (nomark _)) (dss_one (ds_ret de_bl)) dss_nil)))))) (pg_name (i := 3) sc__law_uses.nd rfl (by first | exact Or.inl rfl | exact Or.inr rfl)) tg_name (dss_one (ds_pre fz_ok (ds_forU [4] poCx rfl (se_var 3) (ds_for [4] poCx rfl (di_seq (de_frz (de_var 3))) (pg_name (i := 4) sc__law_uses.nd rfl (by first | exact Or.inl rfl | exact Or.inr rfl)) tg_name (dss_one (ds_if (dt_cmp (op_eqR hr.units) ops_eq (de_ix (ix_all (hu_of hr)) ops_ix (de_var 4) de_int (fun _ _ => rfl)) (de_var 1) (nomark _)) (dss_one (ds_ret de_bl)) dss_nil))) (pg_name (i := 4) sc__law_uses.nd rfl (by first | exact Or.inl rfl | exact Or.inr rfl)) tg_name (dss_one (ds_if (dt_cmp (op_eqR hr.units) ops_eq (de_ix (ix_all (hu_of hr)) ops_ix (de_var 4) de_int (fun _ _ => rfl)) (de_var 1) (nomark _)) (dss_one (ds_ret de_bl)) dss_nil)))))))))
  (dss_cons (ds_forU [5] poCx rfl (se_ix (hu_of hr) (se_var 0) se_str (fun _ _ => rfl)) (ds_for [5] poCx rfl (di_seq (de_frz (de_ix (ix_all (hu_of hr)) ops_ix (de_var 0) de_str (fun _ _ => rfl)))) (pg_name (i := 5) sc__law_uses.nd rfl (by first | exact Or.inl rfl | exact Or.inr rfl)) tg_name (dss_one (ds_if (dt_cmp (op_eqR hr.units) ops_eq (de_ix (ix_all (hu_of hr)) ops_ix (de_var 5) de_int (fun _ _ => rfl)) (de_var 1) (nomark _)) (dss_one (ds_ret de_bl)) dss_nil))) (pg_name (i := 5) sc__law_uses.nd rfl (by first | exact Or.inl rfl | exact Or.inr rfl)) tg_name (dss_one (ds_if (dt_cmp (op_eqR hr.units) ops_eq (de_ix (ix_all (hu_of hr)) ops_ix (de_var 5) de_int (fun _ _ => rfl)) (de_var 1) (nomark _)) (dss_one (ds_ret de_bl)) dss_nil)))
  (dss_one (ds_ret (de_cmp (op_inAll hr.units) ops_in (de_var 1) (de_ix (ix_all (hu_of hr)) ops_ix (de_var 0) de_str (fun _ _ => rfl)) (by rfl))))))

theorem sc__law_leads : FnScope ["_law_schema_here", "_law_table_here", "_law_name_here", "_law_reference"] ["_law_schema_here", "_law_table_here"] (defScope s__law_leads) := ⟨rfl, rfl, rfl, by decide +kernel, rfl, by decide +kernel, by decide +kernel⟩
theorem cal__law_leads (T : Txt K mg) (X : Fx K mg "_law_leads" "_law_leads" s__law_leads ["_law_schema_here", "_law_table_here"])  : Cal P w K mg base 1 "_law_leads" ["_law_schema_here", "_law_table_here"] [] F__law_leads :=
  cal_fn X sc__law_leads (by decide) (by decide) fun f cdv A outer s H E hr => show DSs _ _ _ d__law_leads from (dss_cons (ds_forU [2, 3] poCx rfl (se_var 0) (ds_for [2, 3] poCx rfl (di_seq (de_frz (de_var 0))) (pg_name (i := 2) sc__law_leads.nd rfl (by first | exact Or.inl rfl | exact Or.inr rfl)) tg_name (dss_one (ds_forU [3] poCx rfl (se_ix (hu_of hr) (se_ix (hu_of hr) (se_var 0) (se_var 2) (fun _ _ => rfl)) se_str (fun _ _ => rfl)) (ds_for [3] poCx rfl (di_seq (de_frz (de_ix (ix_all (hu_of hr)) ops_ix (de_ix (ix_all (hu_of hr)) ops_ix (de_var 0) (de_var 2) (fun _ _ => rfl)) de_str (fun _ _ => rfl)))) (pg_name (i := 3) sc__law_leads.nd rfl (by first | exact Or.inl rfl | exact Or.inr rfl)) tg_name (dss_one (ds_if (dt_cmp (op_eqR hr.units) ops_eq (de_ix (ix_all (hu_of hr)) ops_ix (de_var 3) de_int (fun _ _ => rfl)) (de_var 1) (nomark _)) (dss_one (ds_ret de_bl)) dss_nil))) (pg_name (i := 3) sc__law_leads.nd rfl (by first | exact Or.inl rfl | exact Or.inr rfl)) tg_name (dss_one (ds_if (dt_cmp (op_eqR hr.units) ops_eq (de_ix (ix_all (hu_of hr)) ops_ix (de_var 3) de_int (fun _ _ => rfl)) (de_var 1) (nomark _)) (dss_one (ds_ret de_bl)) dss_nil))))) (pg_name (i := 2) sc__law_leads.nd rfl (by first | exact Or.inl rfl | exact Or.inr rfl)) tg_name (dss_one (ds_forU [3] poCx rfl (se_ix (hu_of hr) (se_ix (hu_of hr) (se_var 0) (se_var 2) (fun _ _ => rfl)) se_str (fun _ _ => rfl)) (ds_for [3] poCx rfl (di_seq (de_frz (de_ix (ix_all (hu_of hr)) ops_ix (de_ix (ix_all (hu_of hr)) ops_ix (de_var 0) (de_var 2) (fun _ _ => rfl)) de_str (fun _ _ => rfl)))) (pg_name (i := 3) sc__law_leads.nd rfl (by first | exact Or.inl rfl | exact Or.inr rfl)) tg_name (dss_one (ds_if (dt_cmp (op_eqR hr.units) ops_eq (de_ix (ix_all (hu_of hr)) ops_ix (de_var 3) de_int (fun _ _ => rfl)) (de_var 1) (nomark _)) (dss_one (ds_ret de_bl)) dss_nil))) (pg_name (i := 3) sc__law_leads.nd rfl (by first | exact Or.inl rfl | exact Or.inr rfl)) tg_name (dss_one (ds_if (dt_cmp (op_eqR hr.units) ops_eq (de_ix (ix_all (hu_of hr)) ops_ix (de_var 3) de_int (fun _ _ => rfl)) (de_var 1) (nomark _)) (dss_one (ds_ret de_bl)) dss_nil)))))
  (dss_one (ds_ret de_bl)))

theorem sc_law : FnScope ["_law_script", "_law_tape_here", "_law_schema_here", "_law_before", "_law_twin", "_law_table_here", "_law_description", "_law_names_here", "_law_name_here", "_law_part"] ["_law_script"] (defScope s_law) := ⟨rfl, rfl, rfl, by decide +kernel, rfl, by decide +kernel, by decide +kernel⟩
theorem law_c (T : Txt K mg) {f : Addr} {fd : FuncData} (h1 : Fun K "law" "law" s_law f fd) (c_tape : Tape P w K mg base 1 "_law_tape" ["_law_script"]) (c__law_copy : Cal P w K mg base 30 "_law_copy" ["_law_thing"] [] F__law_copy) (c__law_leads : Cal P w K mg base 1 "_law_leads" ["_law_schema_here", "_law_table_here"] [] F__law_leads) (c__law_names : Cal P w K mg base 1 "_law_names" ["_law_columns_here"] [] F__law_names) (c__law_same : Cal P w K mg base 31 "_law_same" ["_law_actual", "_law_expected"] [] F__law_same) (c__law_schema : Cal P w K mg base 8 "_law_schema" ["_law_tape_here", "_law_least", "_law_most"] [0] F__law_schema) (c__law_uses : Cal P w K mg base 1 "_law_uses" ["_law_description", "_law_name_here"] [] F__law_uses) (c_column_names : Cal P w K mg base 1 "column_names" ["description"] [] F_column_names) (c_copy_schema : Cal P w K mg base 2 "copy_schema" ["schema"] [] F_copy_schema) (c_is_referenced : Cal P w K mg base 1 "is_referenced" ["schema", "table"] [] F_is_referenced) (c_is_used : Cal P w K mg base 2 "is_used" ["description", "column"] [] F_is_used)
    (den : ∀ ns, Script ns → ∃ ρ', d_law ⟨[.own (.leaf none), .own (tape0 ns)] ++ List.replicate 8 .emp, [], []⟩ = some (.ok (.ret (lf (.bool true))), ρ')) : FnOk P w K mg base (L2.CX P w) 32 f fd ["_law_script"] (spLaw K) := by
  refine law_fn (k := 31) h1 sc_law rfl (m := 8) rfl (fun cdv A outer s H E hr => ⟨?_, ?_⟩) den
  · exact ps_set (i := 1) sc_law.nd rfl (by first | exact Or.inl rfl | exact Or.inr rfl) (pe_tape c_tape (hr.mono (by decide)) tkCx (by rfl) (pa_cons (pv 0) pa_nil))
  · exact (dss_cons (ds_set 2 sc_law.nd (de_frz (de_cal c__law_schema (hr.mono (by decide)) tkCx (by rfl) (das_cons (de_var 1) (das_cons de_int (das_cons de_int das_nil))))))
  (dss_cons (ds_set 3 sc_law.nd (de_frz (de_cal c__law_copy (hr.mono (by decide)) tkCx (by rfl) (das_cons (de_frz (de_var 2)) das_nil))))
  (dss_cons (ds_set 4 sc_law.nd (de_cal c_copy_schema (hr.mono (by decide)) tkCx (by rfl) (das_cons (de_frz (de_var 2)) das_nil)))
  (dss_cons (ds_if (dt_not (dt_tru (de_calR c__law_same (hr.mono (by decide)) tkCx (by rfl) (das_cons (de_var 4) (das_cons (de_var 3) das_nil))))) (dss_one (ds_ret de_bl)) dss_nil)
  (dss_cons (ds_for [5, 6, 7, 8] poCx rfl (di_seq (de_frz (de_callB (cr_sortK rfl) ops_sort (by rfl) T.b_sorted BT_sorted (das_cons (de_var 2) das_nil)))) (pg_name (i := 5) sc_law.nd rfl (by first | exact Or.inl rfl | exact Or.inr rfl)) tg_name (dss_cons (ds_set 6 sc_law.nd (de_frz (de_ix (ix_all (hu_of hr)) ops_ix (de_var 2) (de_var 5) (fun _ _ => rfl))))
  (dss_cons (ds_set 7 sc_law.nd (de_frz (de_cal c__law_names (hr.mono (by decide)) tkCx (by rfl) (das_cons (de_frz (de_ix (ix_all (hu_of hr)) ops_ix (de_var 6) de_str (fun _ _ => rfl))) das_nil))))
  (dss_cons (ds_if (dt_not (dt_tru (de_calR c__law_same (hr.mono (by decide)) tkCx (by rfl) (das_cons (de_cal c_column_names (hr.mono (by decide)) tkCx (by rfl) (das_cons (de_frz (de_var 6)) das_nil)) (das_cons (de_var 7) das_nil))))) (dss_one (ds_ret de_bl)) dss_nil)
  (dss_one (ds_for [8] poCx rfl (di_seq (de_frz (de_op op_addAll ops_add (de_var 7) (de_lstO (das_cons de_str das_nil))))) (pg_name (i := 8) sc_law.nd rfl (by first | exact Or.inl rfl | exact Or.inr rfl)) tg_name (dss_one (ds_if (dt_not (dt_tru (de_calR c__law_same (hr.mono (by decide)) tkCx (by rfl) (das_cons (de_calR c_is_used (hr.mono (by decide)) tkCx (by rfl) (das_cons (de_var 6) (das_cons (de_var 8) das_nil))) (das_cons (de_calR c__law_uses (hr.mono (by decide)) tkCx (by rfl) (das_cons (de_var 6) (das_cons (de_var 8) das_nil))) das_nil))))) (dss_one (ds_ret de_bl)) dss_nil))))))))
  (dss_cons (ds_for [5] poCx rfl (di_seq (de_frz (de_op op_addAll ops_add (de_callB (cr_sortK rfl) ops_sort (by rfl) T.b_sorted BT_sorted (das_cons (de_var 2) das_nil)) (de_lstO (das_cons de_str das_nil))))) (pg_name (i := 5) sc_law.nd rfl (by first | exact Or.inl rfl | exact Or.inr rfl)) tg_name (dss_one (ds_if (dt_not (dt_tru (de_calR c__law_same (hr.mono (by decide)) tkCx (by rfl) (das_cons (de_calR c_is_referenced (hr.mono (by decide)) tkCx (by rfl) (das_cons (de_var 2) (das_cons (de_var 5) das_nil))) (das_cons (de_calR c__law_leads (hr.mono (by decide)) tkCx (by rfl) (das_cons (de_var 2) (das_cons (de_var 5) das_nil))) das_nil))))) (dss_one (ds_ret de_bl)) dss_nil)))
  (dss_cons (ds_for [5, 9] poCx rfl (di_seq (de_frz (de_callB (cr_sortK rfl) ops_sort (by rfl) T.b_sorted BT_sorted (das_cons (de_var 4) das_nil)))) (pg_name (i := 5) sc_law.nd rfl (by first | exact Or.inl rfl | exact Or.inr rfl)) tg_name (dss_cons (ds_for [9] poCx rfl (di_seq (de_frz (de_lstO (das_cons de_str (das_cons de_str (das_cons de_str (das_cons de_str das_nil))))))) (pg_name (i := 9) sc_law.nd rfl (by first | exact Or.inl rfl | exact Or.inr rfl)) tg_name (dss_one (ds_expr (de_append (de_ix (ix_all (hu_of hr)) ops_ix (de_ix (ix_all (hu_of hr)) ops_ix (de_var 4) (de_var 5) (fun _ _ => rfl)) (de_var 9) (fun _ _ => rfl)) (de_frz (de_var 9))))))
  (dss_one (ds_setItem (hu_of hr) (de_lstO das_nil) (de_ix (ix_all (hu_of hr)) ops_ix (de_var 4) (de_var 5) (fun _ _ => rfl)) de_str))))
  (dss_cons (ds_setItem (hu_of hr) de_dict0 (de_var 4) de_str)
  (dss_one (ds_ret (de_calR c__law_same (hr.mono (by decide)) tkCx (by rfl) (das_cons (de_var 2) (das_cons (de_var 3) das_nil)))))))))))))

end
theorem all_mk {l : PySem.W.OpenLaw} {w : World} {K : PySem.W.Frag} {h : Heap} {mg : Str → Option Value} {fa : Addr} (X : K.In h) (G : h.Ns mainGlobals mg) (hfa : mg "law" = some (.ref fa))
    {f1 : Addr} {od1 an1 : Option Addr} {sl1 : Array (Option Value)} {oc1 kV1 dc1 pm1 cd1 ct1 : Value}
    (a1 : PySem.W.nsIn K mainGlobals "mentions" = some (some (.ref f1))) (l1 : K.lookup f1 = some ⟨oc1, od1, .func (PySem.W.fnOf "mentions" "mentions" (defArgs s_mentions) (defBody s_mentions) (defScope s_mentions) .none kV1 dc1 pm1 an1 cd1 ct1), sl1⟩) (c1 : PySem.W.codeIn K cd1 "mentions" = true) (k1 : PySem.W.keepIn K (.ref f1) = true)
    {f2 : Addr} {od2 an2 : Option Addr} {sl2 : Array (Option Value)} {oc2 kV2 dc2 pm2 cd2 ct2 : Value}
    (a2 : PySem.W.nsIn K mainGlobals "column_names" = some (some (.ref f2))) (l2 : K.lookup f2 = some ⟨oc2, od2, .func (PySem.W.fnOf "column_names" "column_names" (defArgs s_column_names) (defBody s_column_names) (defScope s_column_names) .none kV2 dc2 pm2 an2 cd2 ct2), sl2⟩) (c2 : PySem.W.codeIn K cd2 "column_names" = true) (k2 : PySem.W.keepIn K (.ref f2) = true)
    {f3 : Addr} {od3 an3 : Option Addr} {sl3 : Array (Option Value)} {oc3 kV3 dc3 pm3 cd3 ct3 : Value}
    (a3 : PySem.W.nsIn K mainGlobals "copy_description" = some (some (.ref f3))) (l3 : K.lookup f3 = some ⟨oc3, od3, .func (PySem.W.fnOf "copy_description" "copy_description" (defArgs s_copy_description) (defBody s_copy_description) (defScope s_copy_description) .none kV3 dc3 pm3 an3 cd3 ct3), sl3⟩) (c3 : PySem.W.codeIn K cd3 "copy_description" = true) (k3 : PySem.W.keepIn K (.ref f3) = true)
    {f4 : Addr} {od4 an4 : Option Addr} {sl4 : Array (Option Value)} {oc4 kV4 dc4 pm4 cd4 ct4 : Value}
    (a4 : PySem.W.nsIn K mainGlobals "copy_schema" = some (some (.ref f4))) (l4 : K.lookup f4 = some ⟨oc4, od4, .func (PySem.W.fnOf "copy_schema" "copy_schema" (defArgs s_copy_schema) (defBody s_copy_schema) (defScope s_copy_schema) .none kV4 dc4 pm4 an4 cd4 ct4), sl4⟩) (c4 : PySem.W.codeIn K cd4 "copy_schema" = true) (k4 : PySem.W.keepIn K (.ref f4) = true)
    {f5 : Addr} {od5 an5 : Option Addr} {sl5 : Array (Option Value)} {oc5 kV5 dc5 pm5 cd5 ct5 : Value}
    (a5 : PySem.W.nsIn K mainGlobals "is_used" = some (some (.ref f5))) (l5 : K.lookup f5 = some ⟨oc5, od5, .func (PySem.W.fnOf "is_used" "is_used" (defArgs s_is_used) (defBody s_is_used) (defScope s_is_used) .none kV5 dc5 pm5 an5 cd5 ct5), sl5⟩) (c5 : PySem.W.codeIn K cd5 "is_used" = true) (k5 : PySem.W.keepIn K (.ref f5) = true)
    {f6 : Addr} {od6 an6 : Option Addr} {sl6 : Array (Option Value)} {oc6 kV6 dc6 pm6 cd6 ct6 : Value}
    (a6 : PySem.W.nsIn K mainGlobals "is_referenced" = some (some (.ref f6))) (l6 : K.lookup f6 = some ⟨oc6, od6, .func (PySem.W.fnOf "is_referenced" "is_referenced" (defArgs s_is_referenced) (defBody s_is_referenced) (defScope s_is_referenced) .none kV6 dc6 pm6 an6 cd6 ct6), sl6⟩) (c6 : PySem.W.codeIn K cd6 "is_referenced" = true) (k6 : PySem.W.keepIn K (.ref f6) = true)
    {f7 : Addr} {od7 an7 : Option Addr} {sl7 : Array (Option Value)} {oc7 kV7 dc7 pm7 cd7 ct7 : Value}
    (a7 : PySem.W.nsIn K mainGlobals "_law_tape" = some (some (.ref f7))) (l7 : K.lookup f7 = some ⟨oc7, od7, .func (PySem.W.fnOf "_law_tape" "_law_tape" (defArgs s__law_tape) (defBody s__law_tape) (defScope s__law_tape) .none kV7 dc7 pm7 an7 cd7 ct7), sl7⟩) (c7 : PySem.W.codeIn K cd7 "_law_tape" = true) (k7 : PySem.W.keepIn K (.ref f7) = true)
    {f8 : Addr} {od8 an8 : Option Addr} {sl8 : Array (Option Value)} {oc8 kV8 dc8 pm8 cd8 ct8 : Value}
    (a8 : PySem.W.nsIn K mainGlobals "_law_take" = some (some (.ref f8))) (l8 : K.lookup f8 = some ⟨oc8, od8, .func (PySem.W.fnOf "_law_take" "_law_take" (defArgs s__law_take) (defBody s__law_take) (defScope s__law_take) .none kV8 dc8 pm8 an8 cd8 ct8), sl8⟩) (c8 : PySem.W.codeIn K cd8 "_law_take" = true) (k8 : PySem.W.keepIn K (.ref f8) = true)
    {f9 : Addr} {od9 an9 : Option Addr} {sl9 : Array (Option Value)} {oc9 kV9 dc9 pm9 cd9 ct9 : Value}
    (a9 : PySem.W.nsIn K mainGlobals "_law_is_integer" = some (some (.ref f9))) (l9 : K.lookup f9 = some ⟨oc9, od9, .func (PySem.W.fnOf "_law_is_integer" "_law_is_integer" (defArgs s__law_is_integer) (defBody s__law_is_integer) (defScope s__law_is_integer) .none kV9 dc9 pm9 an9 cd9 ct9), sl9⟩) (c9 : PySem.W.codeIn K cd9 "_law_is_integer" = true) (k9 : PySem.W.keepIn K (.ref f9) = true)
    {f10 : Addr} {od10 an10 : Option Addr} {sl10 : Array (Option Value)} {oc10 kV10 dc10 pm10 cd10 ct10 : Value}
    (a10 : PySem.W.nsIn K mainGlobals "_law_same_items" = some (some (.ref f10))) (l10 : K.lookup f10 = some ⟨oc10, od10, .func (PySem.W.fnOf "_law_same_items" "_law_same_items" (defArgs s__law_same_items) (defBody s__law_same_items) (defScope s__law_same_items) .none kV10 dc10 pm10 an10 cd10 ct10), sl10⟩) (c10 : PySem.W.codeIn K cd10 "_law_same_items" = true) (k10 : PySem.W.keepIn K (.ref f10) = true)
    {f11 : Addr} {od11 an11 : Option Addr} {sl11 : Array (Option Value)} {oc11 kV11 dc11 pm11 cd11 ct11 : Value}
    (a11 : PySem.W.nsIn K mainGlobals "_law_same" = some (some (.ref f11))) (l11 : K.lookup f11 = some ⟨oc11, od11, .func (PySem.W.fnOf "_law_same" "_law_same" (defArgs s__law_same) (defBody s__law_same) (defScope s__law_same) .none kV11 dc11 pm11 an11 cd11 ct11), sl11⟩) (c11 : PySem.W.codeIn K cd11 "_law_same" = true) (k11 : PySem.W.keepIn K (.ref f11) = true)
    {f12 : Addr} {od12 an12 : Option Addr} {sl12 : Array (Option Value)} {oc12 kV12 dc12 pm12 cd12 ct12 : Value}
    (a12 : PySem.W.nsIn K mainGlobals "_law_copy" = some (some (.ref f12))) (l12 : K.lookup f12 = some ⟨oc12, od12, .func (PySem.W.fnOf "_law_copy" "_law_copy" (defArgs s__law_copy) (defBody s__law_copy) (defScope s__law_copy) .none kV12 dc12 pm12 an12 cd12 ct12), sl12⟩) (c12 : PySem.W.codeIn K cd12 "_law_copy" = true) (k12 : PySem.W.keepIn K (.ref f12) = true)
    {f13 : Addr} {od13 an13 : Option Addr} {sl13 : Array (Option Value)} {oc13 kV13 dc13 pm13 cd13 ct13 : Value}
    (a13 : PySem.W.nsIn K mainGlobals "_law_char" = some (some (.ref f13))) (l13 : K.lookup f13 = some ⟨oc13, od13, .func (PySem.W.fnOf "_law_char" "_law_char" (defArgs s__law_char) (defBody s__law_char) (defScope s__law_char) .none kV13 dc13 pm13 an13 cd13 ct13), sl13⟩) (c13 : PySem.W.codeIn K cd13 "_law_char" = true) (k13 : PySem.W.keepIn K (.ref f13) = true)
    {f14 : Addr} {od14 an14 : Option Addr} {sl14 : Array (Option Value)} {oc14 kV14 dc14 pm14 cd14 ct14 : Value}
    (a14 : PySem.W.nsIn K mainGlobals "_law_text" = some (some (.ref f14))) (l14 : K.lookup f14 = some ⟨oc14, od14, .func (PySem.W.fnOf "_law_text" "_law_text" (defArgs s__law_text) (defBody s__law_text) (defScope s__law_text) .none kV14 dc14 pm14 an14 cd14 ct14), sl14⟩) (c14 : PySem.W.codeIn K cd14 "_law_text" = true) (k14 : PySem.W.keepIn K (.ref f14) = true)
    {f15 : Addr} {od15 an15 : Option Addr} {sl15 : Array (Option Value)} {oc15 kV15 dc15 pm15 cd15 ct15 : Value}
    (a15 : PySem.W.nsIn K mainGlobals "_law_integer" = some (some (.ref f15))) (l15 : K.lookup f15 = some ⟨oc15, od15, .func (PySem.W.fnOf "_law_integer" "_law_integer" (defArgs s__law_integer) (defBody s__law_integer) (defScope s__law_integer) .none kV15 dc15 pm15 an15 cd15 ct15), sl15⟩) (c15 : PySem.W.codeIn K cd15 "_law_integer" = true) (k15 : PySem.W.keepIn K (.ref f15) = true)
    {f16 : Addr} {od16 an16 : Option Addr} {sl16 : Array (Option Value)} {oc16 kV16 dc16 pm16 cd16 ct16 : Value}
    (a16 : PySem.W.nsIn K mainGlobals "_law_value" = some (some (.ref f16))) (l16 : K.lookup f16 = some ⟨oc16, od16, .func (PySem.W.fnOf "_law_value" "_law_value" (defArgs s__law_value) (defBody s__law_value) (defScope s__law_value) .none kV16 dc16 pm16 an16 cd16 ct16), sl16⟩) (c16 : PySem.W.codeIn K cd16 "_law_value" = true) (k16 : PySem.W.keepIn K (.ref f16) = true)
    {f17 : Addr} {od17 an17 : Option Addr} {sl17 : Array (Option Value)} {oc17 kV17 dc17 pm17 cd17 ct17 : Value}
    (a17 : PySem.W.nsIn K mainGlobals "_law_name" = some (some (.ref f17))) (l17 : K.lookup f17 = some ⟨oc17, od17, .func (PySem.W.fnOf "_law_name" "_law_name" (defArgs s__law_name) (defBody s__law_name) (defScope s__law_name) .none kV17 dc17 pm17 an17 cd17 ct17), sl17⟩) (c17 : PySem.W.codeIn K cd17 "_law_name" = true) (k17 : PySem.W.keepIn K (.ref f17) = true)
    {f18 : Addr} {od18 an18 : Option Addr} {sl18 : Array (Option Value)} {oc18 kV18 dc18 pm18 cd18 ct18 : Value}
    (a18 : PySem.W.nsIn K mainGlobals "_law_columns" = some (some (.ref f18))) (l18 : K.lookup f18 = some ⟨oc18, od18, .func (PySem.W.fnOf "_law_columns" "_law_columns" (defArgs s__law_columns) (defBody s__law_columns) (defScope s__law_columns) .none kV18 dc18 pm18 an18 cd18 ct18), sl18⟩) (c18 : PySem.W.codeIn K cd18 "_law_columns" = true) (k18 : PySem.W.keepIn K (.ref f18) = true)
    {f19 : Addr} {od19 an19 : Option Addr} {sl19 : Array (Option Value)} {oc19 kV19 dc19 pm19 cd19 ct19 : Value}
    (a19 : PySem.W.nsIn K mainGlobals "_law_table" = some (some (.ref f19))) (l19 : K.lookup f19 = some ⟨oc19, od19, .func (PySem.W.fnOf "_law_table" "_law_table" (defArgs s__law_table) (defBody s__law_table) (defScope s__law_table) .none kV19 dc19 pm19 an19 cd19 ct19), sl19⟩) (c19 : PySem.W.codeIn K cd19 "_law_table" = true) (k19 : PySem.W.keepIn K (.ref f19) = true)
    {f20 : Addr} {od20 an20 : Option Addr} {sl20 : Array (Option Value)} {oc20 kV20 dc20 pm20 cd20 ct20 : Value}
    (a20 : PySem.W.nsIn K mainGlobals "_law_names" = some (some (.ref f20))) (l20 : K.lookup f20 = some ⟨oc20, od20, .func (PySem.W.fnOf "_law_names" "_law_names" (defArgs s__law_names) (defBody s__law_names) (defScope s__law_names) .none kV20 dc20 pm20 an20 cd20 ct20), sl20⟩) (c20 : PySem.W.codeIn K cd20 "_law_names" = true) (k20 : PySem.W.keepIn K (.ref f20) = true)
    {f21 : Addr} {od21 an21 : Option Addr} {sl21 : Array (Option Value)} {oc21 kV21 dc21 pm21 cd21 ct21 : Value}
    (a21 : PySem.W.nsIn K mainGlobals "_law_clause" = some (some (.ref f21))) (l21 : K.lookup f21 = some ⟨oc21, od21, .func (PySem.W.fnOf "_law_clause" "_law_clause" (defArgs s__law_clause) (defBody s__law_clause) (defScope s__law_clause) .none kV21 dc21 pm21 an21 cd21 ct21), sl21⟩) (c21 : PySem.W.codeIn K cd21 "_law_clause" = true) (k21 : PySem.W.keepIn K (.ref f21) = true)
    {f22 : Addr} {od22 an22 : Option Addr} {sl22 : Array (Option Value)} {oc22 kV22 dc22 pm22 cd22 ct22 : Value}
    (a22 : PySem.W.nsIn K mainGlobals "_law_condition" = some (some (.ref f22))) (l22 : K.lookup f22 = some ⟨oc22, od22, .func (PySem.W.fnOf "_law_condition" "_law_condition" (defArgs s__law_condition) (defBody s__law_condition) (defScope s__law_condition) .none kV22 dc22 pm22 an22 cd22 ct22), sl22⟩) (c22 : PySem.W.codeIn K cd22 "_law_condition" = true) (k22 : PySem.W.keepIn K (.ref f22) = true)
    {f23 : Addr} {od23 an23 : Option Addr} {sl23 : Array (Option Value)} {oc23 kV23 dc23 pm23 cd23 ct23 : Value}
    (a23 : PySem.W.nsIn K mainGlobals "_law_limits" = some (some (.ref f23))) (l23 : K.lookup f23 = some ⟨oc23, od23, .func (PySem.W.fnOf "_law_limits" "_law_limits" (defArgs s__law_limits) (defBody s__law_limits) (defScope s__law_limits) .none kV23 dc23 pm23 an23 cd23 ct23), sl23⟩) (c23 : PySem.W.codeIn K cd23 "_law_limits" = true) (k23 : PySem.W.keepIn K (.ref f23) = true)
    {f24 : Addr} {od24 an24 : Option Addr} {sl24 : Array (Option Value)} {oc24 kV24 dc24 pm24 cd24 ct24 : Value}
    (a24 : PySem.W.nsIn K mainGlobals "_law_schema" = some (some (.ref f24))) (l24 : K.lookup f24 = some ⟨oc24, od24, .func (PySem.W.fnOf "_law_schema" "_law_schema" (defArgs s__law_schema) (defBody s__law_schema) (defScope s__law_schema) .none kV24 dc24 pm24 an24 cd24 ct24), sl24⟩) (c24 : PySem.W.codeIn K cd24 "_law_schema" = true) (k24 : PySem.W.keepIn K (.ref f24) = true)
    {f25 : Addr} {od25 an25 : Option Addr} {sl25 : Array (Option Value)} {oc25 kV25 dc25 pm25 cd25 ct25 : Value}
    (a25 : PySem.W.nsIn K mainGlobals "_law_uses" = some (some (.ref f25))) (l25 : K.lookup f25 = some ⟨oc25, od25, .func (PySem.W.fnOf "_law_uses" "_law_uses" (defArgs s__law_uses) (defBody s__law_uses) (defScope s__law_uses) .none kV25 dc25 pm25 an25 cd25 ct25), sl25⟩) (c25 : PySem.W.codeIn K cd25 "_law_uses" = true) (k25 : PySem.W.keepIn K (.ref f25) = true)
    {f26 : Addr} {od26 an26 : Option Addr} {sl26 : Array (Option Value)} {oc26 kV26 dc26 pm26 cd26 ct26 : Value}
    (a26 : PySem.W.nsIn K mainGlobals "_law_leads" = some (some (.ref f26))) (l26 : K.lookup f26 = some ⟨oc26, od26, .func (PySem.W.fnOf "_law_leads" "_law_leads" (defArgs s__law_leads) (defBody s__law_leads) (defScope s__law_leads) .none kV26 dc26 pm26 an26 cd26 ct26), sl26⟩) (c26 : PySem.W.codeIn K cd26 "_law_leads" = true) (k26 : PySem.W.keepIn K (.ref f26) = true)
    {f27 : Addr} {od27 an27 : Option Addr} {sl27 : Array (Option Value)} {oc27 kV27 dc27 pm27 cd27 ct27 : Value}
    (a27 : PySem.W.nsIn K mainGlobals "law" = some (some (.ref f27))) (l27 : K.lookup f27 = some ⟨oc27, od27, .func (PySem.W.fnOf "law" "law" (defArgs s_law) (defBody s_law) (defScope s_law) .none kV27 dc27 pm27 an27 cd27 ct27), sl27⟩) (c27 : PySem.W.codeIn K cd27 "law" = true) (k27 : PySem.W.keepIn K (.ref f27) = true)
    (z_abs : PySem.W.nsIn K mainGlobals "abs" = some none)
    (z_bool : PySem.W.nsIn K mainGlobals "bool" = some none)
    (z_dict : PySem.W.nsIn K mainGlobals "dict" = some none)
    (z_int : PySem.W.nsIn K mainGlobals "int" = some none)
    (z_isinstance : PySem.W.nsIn K mainGlobals "isinstance" = some none)
    (z_len : PySem.W.nsIn K mainGlobals "len" = some none)
    (z_list : PySem.W.nsIn K mainGlobals "list" = some none)
    (z_range : PySem.W.nsIn K mainGlobals "range" = some none)
    (z_sorted : PySem.W.nsIn K mainGlobals "sorted" = some none)
    (z_str : PySem.W.nsIn K mainGlobals "str" = some none)
    (z_tuple : PySem.W.nsIn K mainGlobals "tuple" = some none) :
    ∃ fd : FuncData, (∀ (s : Shared) (v : Value), BindsTo s fd ⟨[v], []⟩ [("_law_script", v)]) ∧ ∀ base : Heap, K.In base → base.Ns mainGlobals mg → FnOk l.prog w K mg base (L2.CX l.prog w) 32 fa fd ["_law_script"] (spLaw K) := by
  have e := hfa.symm.trans (PySem.W.mg_of X G a27)
  cases e
  have T : Txt K mg := ⟨PySem.W.mg_none_of X G z_abs, PySem.W.mg_none_of X G z_bool, PySem.W.mg_none_of X G z_dict, PySem.W.mg_none_of X G z_int, PySem.W.mg_none_of X G z_isinstance, PySem.W.mg_none_of X G z_len, PySem.W.mg_none_of X G z_list, PySem.W.mg_none_of X G z_range, PySem.W.mg_none_of X G z_sorted, PySem.W.mg_none_of X G z_str, PySem.W.mg_none_of X G z_tuple⟩
  have X_mentions : Fx K mg "mentions" "mentions" s_mentions ["condition", "name"] := fx_mk X G a1 l1 c1 k1 fun _ _ _ _ _ _ us hl => match us, hl with | [_, _], _ => rfl
  have X_column_names : Fx K mg "column_names" "column_names" s_column_names ["description"] := fx_mk X G a2 l2 c2 k2 fun _ _ _ _ _ _ us hl => match us, hl with | [_], _ => rfl
  have X_copy_description : Fx K mg "copy_description" "copy_description" s_copy_description ["description"] := fx_mk X G a3 l3 c3 k3 fun _ _ _ _ _ _ us hl => match us, hl with | [_], _ => rfl
  have X_copy_schema : Fx K mg "copy_schema" "copy_schema" s_copy_schema ["schema"] := fx_mk X G a4 l4 c4 k4 fun _ _ _ _ _ _ us hl => match us, hl with | [_], _ => rfl
  have X_is_used : Fx K mg "is_used" "is_used" s_is_used ["description", "column"] := fx_mk X G a5 l5 c5 k5 fun _ _ _ _ _ _ us hl => match us, hl with | [_, _], _ => rfl
  have X_is_referenced : Fx K mg "is_referenced" "is_referenced" s_is_referenced ["schema", "table"] := fx_mk X G a6 l6 c6 k6 fun _ _ _ _ _ _ us hl => match us, hl with | [_, _], _ => rfl
  have X__law_tape : Fx K mg "_law_tape" "_law_tape" s__law_tape ["_law_script"] := fx_mk X G a7 l7 c7 k7 fun _ _ _ _ _ _ us hl => match us, hl with | [_], _ => rfl
  have X__law_take : Fx K mg "_law_take" "_law_take" s__law_take ["_law_tape_here", "_law_many"] := fx_mk X G a8 l8 c8 k8 fun _ _ _ _ _ _ us hl => match us, hl with | [_, _], _ => rfl
  have X__law_is_integer : Fx K mg "_law_is_integer" "_law_is_integer" s__law_is_integer ["_law_actual"] := fx_mk X G a9 l9 c9 k9 fun _ _ _ _ _ _ us hl => match us, hl with | [_], _ => rfl
  have X__law_same_items : Fx K mg "_law_same_items" "_law_same_items" s__law_same_items ["_law_actual", "_law_expected"] := fx_mk X G a10 l10 c10 k10 fun _ _ _ _ _ _ us hl => match us, hl with | [_, _], _ => rfl
  have X__law_same : Fx K mg "_law_same" "_law_same" s__law_same ["_law_actual", "_law_expected"] := fx_mk X G a11 l11 c11 k11 fun _ _ _ _ _ _ us hl => match us, hl with | [_, _], _ => rfl
  have X__law_copy : Fx K mg "_law_copy" "_law_copy" s__law_copy ["_law_thing"] := fx_mk X G a12 l12 c12 k12 fun _ _ _ _ _ _ us hl => match us, hl with | [_], _ => rfl
  have X__law_char : Fx K mg "_law_char" "_law_char" s__law_char ["_law_tape_here"] := fx_mk X G a13 l13 c13 k13 fun _ _ _ _ _ _ us hl => match us, hl with | [_], _ => rfl
  have X__law_text : Fx K mg "_law_text" "_law_text" s__law_text ["_law_tape_here"] := fx_mk X G a14 l14 c14 k14 fun _ _ _ _ _ _ us hl => match us, hl with | [_], _ => rfl
  have X__law_integer : Fx K mg "_law_integer" "_law_integer" s__law_integer ["_law_tape_here"] := fx_mk X G a15 l15 c15 k15 fun _ _ _ _ _ _ us hl => match us, hl with | [_], _ => rfl
  have X__law_value : Fx K mg "_law_value" "_law_value" s__law_value ["_law_tape_here", "_law_kind", "_law_nullable"] := fx_mk X G a16 l16 c16 k16 fun _ _ _ _ _ _ us hl => match us, hl with | [_, _, _], _ => rfl
  have X__law_name : Fx K mg "_law_name" "_law_name" s__law_name ["_law_tape_here", "_law_used"] := fx_mk X G a17 l17 c17 k17 fun _ _ _ _ _ _ us hl => match us, hl with | [_, _], _ => rfl
  have X__law_columns : Fx K mg "_law_columns" "_law_columns" s__law_columns ["_law_tape_here", "_law_used", "_law_many"] := fx_mk X G a18 l18 c18 k18 fun _ _ _ _ _ _ us hl => match us, hl with | [_, _, _], _ => rfl
  have X__law_table : Fx K mg "_law_table" "_law_table" s__law_table ["_law_columns_here"] := fx_mk X G a19 l19 c19 k19 fun _ _ _ _ _ _ us hl => match us, hl with | [_], _ => rfl
  have X__law_names : Fx K mg "_law_names" "_law_names" s__law_names ["_law_columns_here"] := fx_mk X G a20 l20 c20 k20 fun _ _ _ _ _ _ us hl => match us, hl with | [_], _ => rfl
  have X__law_clause : Fx K mg "_law_clause" "_law_clause" s__law_clause ["_law_tape_here", "_law_columns_here"] := fx_mk X G a21 l21 c21 k21 fun _ _ _ _ _ _ us hl => match us, hl with | [_, _], _ => rfl
  have X__law_condition : Fx K mg "_law_condition" "_law_condition" s__law_condition ["_law_tape_here", "_law_columns_here"] := fx_mk X G a22 l22 c22 k22 fun _ _ _ _ _ _ us hl => match us, hl with | [_, _], _ => rfl
  have X__law_limits : Fx K mg "_law_limits" "_law_limits" s__law_limits ["_law_tape_here", "_law_schema_here", "_law_table_here"] := fx_mk X G a23 l23 c23 k23 fun _ _ _ _ _ _ us hl => match us, hl with | [_, _, _], _ => rfl
  have X__law_schema : Fx K mg "_law_schema" "_law_schema" s__law_schema ["_law_tape_here", "_law_least", "_law_most"] := fx_mk X G a24 l24 c24 k24 fun _ _ _ _ _ _ us hl => match us, hl with | [_, _, _], _ => rfl
  have X__law_uses : Fx K mg "_law_uses" "_law_uses" s__law_uses ["_law_description", "_law_name_here"] := fx_mk X G a25 l25 c25 k25 fun _ _ _ _ _ _ us hl => match us, hl with | [_, _], _ => rfl
  have X__law_leads : Fx K mg "_law_leads" "_law_leads" s__law_leads ["_law_schema_here", "_law_table_here"] := fx_mk X G a26 l26 c26 k26 fun _ _ _ _ _ _ us hl => match us, hl with | [_, _], _ => rfl
  refine ⟨PySem.W.fnOf "law" "law" (defArgs s_law) (defBody s_law) (defScope s_law) .none kV27 dc27 pm27 an27 cd27 ct27, fun s v => .of_eq rfl, fun base _ _ => ?_⟩
  have c_mentions : Cal l.prog w K mg base 1 "mentions" ["condition", "name"] [] F_mentions := cal_mentions T X_mentions 
  have c_column_names : Cal l.prog w K mg base 1 "column_names" ["description"] [] F_column_names := cal_column_names T X_column_names 
  have c_copy_description : Cal l.prog w K mg base 1 "copy_description" ["description"] [] F_copy_description := cal_copy_description T X_copy_description 
  have c_copy_schema : Cal l.prog w K mg base 2 "copy_schema" ["schema"] [] F_copy_schema := cal_copy_schema T X_copy_schema c_copy_description
  have c_is_used : Cal l.prog w K mg base 2 "is_used" ["description", "column"] [] F_is_used := cal_is_used T X_is_used c_mentions
  have c_is_referenced : Cal l.prog w K mg base 1 "is_referenced" ["schema", "table"] [] F_is_referenced := cal_is_referenced T X_is_referenced 
  have c_tape : Tape l.prog w K mg base 1 "_law_tape" ["_law_script"] := tape_c T X__law_tape
  have c__law_take : Cal l.prog w K mg base 1 "_law_take" ["_law_tape_here", "_law_many"] [0] F__law_take := cal__law_take T X__law_take 
  have c__law_is_integer : Cal l.prog w K mg base 1 "_law_is_integer" ["_law_actual"] [] F__law_is_integer := cal__law_is_integer T X__law_is_integer 
  have c__law_same_items : Cal l.prog w K mg base 31 "_law_same_items" ["_law_actual", "_law_expected"] [] F__law_same_items := cal__law_same_items T X__law_same_items X__law_same c__law_is_integer
  have c__law_same : Cal l.prog w K mg base 31 "_law_same" ["_law_actual", "_law_expected"] [] F__law_same := cal__law_same T X__law_same_items X__law_same c__law_is_integer
  have c__law_copy : Cal l.prog w K mg base 30 "_law_copy" ["_law_thing"] [] F__law_copy := cal__law_copy T X__law_copy 
  have c__law_char : Cal l.prog w K mg base 2 "_law_char" ["_law_tape_here"] [0] F__law_char := cal__law_char T X__law_char c__law_take
  have c__law_text : Cal l.prog w K mg base 3 "_law_text" ["_law_tape_here"] [0] F__law_text := cal__law_text T X__law_text c__law_char c__law_take
  have c__law_integer : Cal l.prog w K mg base 2 "_law_integer" ["_law_tape_here"] [0] F__law_integer := cal__law_integer T X__law_integer c__law_take
  have c__law_value : Cal l.prog w K mg base 4 "_law_value" ["_law_tape_here", "_law_kind", "_law_nullable"] [0] F__law_value := cal__law_value T X__law_value c__law_integer c__law_take c__law_text
  have c__law_name : Cal l.prog w K mg base 2 "_law_name" ["_law_tape_here", "_law_used"] [0, 1] F__law_name := cal__law_name T X__law_name c__law_take
  have c__law_columns : Cal l.prog w K mg base 3 "_law_columns" ["_law_tape_here", "_law_used", "_law_many"] [0, 1] F__law_columns := cal__law_columns T X__law_columns c__law_name c__law_take
  have c__law_table : Cal l.prog w K mg base 1 "_law_table" ["_law_columns_here"] [] F__law_table := cal__law_table T X__law_table 
  have c__law_names : Cal l.prog w K mg base 1 "_law_names" ["_law_columns_here"] [] F__law_names := cal__law_names T X__law_names 
  have c__law_clause : Cal l.prog w K mg base 5 "_law_clause" ["_law_tape_here", "_law_columns_here"] [0] F__law_clause := cal__law_clause T X__law_clause c__law_take c__law_value
  have c__law_condition : Cal l.prog w K mg base 6 "_law_condition" ["_law_tape_here", "_law_columns_here"] [0] F__law_condition := cal__law_condition T X__law_condition c__law_clause c__law_take
  have c__law_limits : Cal l.prog w K mg base 7 "_law_limits" ["_law_tape_here", "_law_schema_here", "_law_table_here"] [0, 1] F__law_limits := cal__law_limits T X__law_limits c__law_condition c__law_names c__law_take
  have c__law_schema : Cal l.prog w K mg base 8 "_law_schema" ["_law_tape_here", "_law_least", "_law_most"] [0] F__law_schema := cal__law_schema T X__law_schema c__law_columns c__law_limits c__law_name c__law_table c__law_take
  have c__law_uses : Cal l.prog w K mg base 1 "_law_uses" ["_law_description", "_law_name_here"] [] F__law_uses := cal__law_uses T X__law_uses 
  have c__law_leads : Cal l.prog w K mg base 1 "_law_leads" ["_law_schema_here", "_law_table_here"] [] F__law_leads := cal__law_leads T X__law_leads 
  exact law_c T (fun_mk l27 c27 k27) c_tape c__law_copy c__law_leads c__law_names c__law_same c__law_schema c__law_uses c_column_names c_copy_schema c_is_referenced c_is_used law_den
theorem walk {l : PySem.W.OpenLaw} {q : Program} {loose : List Str} {XP : (Str → Option Value) → Heap → Prop} {YP : World → Heap → Prop} {d : DefRec} {K : Params → PySem.W.Frag} (hn : l.most = some 63) (hdf : d.params.defaults = [])
    (hY : ∀ (w : World) (h : Heap), YP w h → (K w.params).In h)
    (F : ∀ (w : World) (mg : Str → Option Value) (fa : Addr) (h : Heap), (K w.params).In h → h.Ns mainGlobals mg → mg d.name = some (.ref fa) →
      ∃ fd : FuncData, (∀ (s : Shared) (u : Value), BindsTo s fd ⟨[u], []⟩ [("_law_script", u)]) ∧ ∀ base : Heap, (K w.params).In base → base.Ns mainGlobals mg → FnOk l.prog w (K w.params) mg base (L2.CX l.prog w) 32 fa fd ["_law_script"] (spLaw (K w.params))) :
    PySem.W.WalkO q loose XP YP l.row.toRowW d [] (fun f vs => PySem.call f vs) :=
  L2.walk_ofB (n := 63) (k := 32) (x := "_law_script") (CX := fun w => L2.CX l.prog w) (sp := fun w => spLaw (K w.params)) hn (by decide) hdf ⟨rfl, by decide, by decide⟩ hY F (fun _ _ a ns hl hb _ hS => ⟨a, ns, rfl, hS, ⟨hl, hb⟩, fun _ => rfl⟩) fun _ _ _ _ _ z => by
    obtain ⟨_, _, _, _, _, _, _, _, _, _, _, _, z⟩ := z
    exact z.elim
end Ck07

open PySem PySem.W PyProof.Rows in
set_option maxRecDepth 100000 in
set_option maxHeartbeats 0 in
theorem PySem.Challenge.cw_lenstree_k07_schema_helpers_holds : PySem.Challenge.rw_lenstree_k07_schema_helpers.Holds := by
  w_on; o_law; k_head; (case hw => w_witness2)
  k_fill
  refine Ck07.walk (l := PySem.Challenge.rw_lenstree_k07_schema_helpers) rfl rfl (fun w h Y => PySem.W.kIn_of Y) ?F
  case F =>
    intro w mg fa h KX G hmg
    refine' Ck07.all_mk KX G hmg ?a1 ?l1 ?c1 ?k1 ?a2 ?l2 ?c2 ?k2 ?a3 ?l3 ?c3 ?k3 ?a4 ?l4 ?c4 ?k4 ?a5 ?l5 ?c5 ?k5 ?a6 ?l6 ?c6 ?k6 ?a7 ?l7 ?c7 ?k7 ?a8 ?l8 ?c8 ?k8 ?a9 ?l9 ?c9 ?k9 ?a10 ?l10 ?c10 ?k10 ?a11 ?l11 ?c11 ?k11 ?a12 ?l12 ?c12 ?k12 ?a13 ?l13 ?c13 ?k13 ?a14 ?l14 ?c14 ?k14 ?a15 ?l15 ?c15 ?k15 ?a16 ?l16 ?c16 ?k16 ?a17 ?l17 ?c17 ?k17 ?a18 ?l18 ?c18 ?k18 ?a19 ?l19 ?c19 ?k19 ?a20 ?l20 ?c20 ?k20 ?a21 ?l21 ?c21 ?k21 ?a22 ?l22 ?c22 ?k22 ?a23 ?l23 ?c23 ?k23 ?a24 ?l24 ?c24 ?k24 ?a25 ?l25 ?c25 ?k25 ?a26 ?l26 ?c26 ?k26 ?a27 ?l27 ?c27 ?k27 ?z_abs ?z_bool ?z_dict ?z_int ?z_isinstance ?z_len ?z_list ?z_range ?z_sorted ?z_str ?z_tuple
    (case a1 => k_is)
    (case l1 => k_is)
    (case c1 => k_is)
    (case k1 => k_is)
    (case a2 => k_is)
    (case l2 => k_is)
    (case c2 => k_is)
    (case k2 => k_is)
    (case a3 => k_is)
    (case l3 => k_is)
    (case c3 => k_is)
    (case k3 => k_is)
    (case a4 => k_is)
    (case l4 => k_is)
    (case c4 => k_is)
    (case k4 => k_is)
    (case a5 => k_is)
    (case l5 => k_is)
    (case c5 => k_is)
    (case k5 => k_is)
    (case a6 => k_is)
    (case l6 => k_is)
    (case c6 => k_is)
    (case k6 => k_is)
    (case a7 => k_is)
    (case l7 => k_is)
    (case c7 => k_is)
    (case k7 => k_is)
    (case a8 => k_is)
    (case l8 => k_is)
    (case c8 => k_is)
    (case k8 => k_is)
    (case a9 => k_is)
    (case l9 => k_is)
    (case c9 => k_is)
    (case k9 => k_is)
    (case a10 => k_is)
    (case l10 => k_is)
    (case c10 => k_is)
    (case k10 => k_is)
    (case a11 => k_is)
    (case l11 => k_is)
    (case c11 => k_is)
    (case k11 => k_is)
    (case a12 => k_is)
    (case l12 => k_is)
    (case c12 => k_is)
    (case k12 => k_is)
    (case a13 => k_is)
    (case l13 => k_is)
    (case c13 => k_is)
    (case k13 => k_is)
    (case a14 => k_is)
    (case l14 => k_is)
    (case c14 => k_is)
    (case k14 => k_is)
    (case a15 => k_is)
    (case l15 => k_is)
    (case c15 => k_is)
    (case k15 => k_is)
    (case a16 => k_is)
    (case l16 => k_is)
    (case c16 => k_is)
    (case k16 => k_is)
    (case a17 => k_is)
    (case l17 => k_is)
    (case c17 => k_is)
    (case k17 => k_is)
    (case a18 => k_is)
    (case l18 => k_is)
    (case c18 => k_is)
    (case k18 => k_is)
    (case a19 => k_is)
    (case l19 => k_is)
    (case c19 => k_is)
    (case k19 => k_is)
    (case a20 => k_is)
    (case l20 => k_is)
    (case c20 => k_is)
    (case k20 => k_is)
    (case a21 => k_is)
    (case l21 => k_is)
    (case c21 => k_is)
    (case k21 => k_is)
    (case a22 => k_is)
    (case l22 => k_is)
    (case c22 => k_is)
    (case k22 => k_is)
    (case a23 => k_is)
    (case l23 => k_is)
    (case c23 => k_is)
    (case k23 => k_is)
    (case a24 => k_is)
    (case l24 => k_is)
    (case c24 => k_is)
    (case k24 => k_is)
    (case a25 => k_is)
    (case l25 => k_is)
    (case c25 => k_is)
    (case k25 => k_is)
    (case a26 => k_is)
    (case l26 => k_is)
    (case c26 => k_is)
    (case k26 => k_is)
    (case a27 => k_is)
    (case l27 => k_is)
    (case c27 => k_is)
    (case k27 => k_is)
    (case z_abs => k_is)
    (case z_bool => k_is)
    (case z_dict => k_is)
    (case z_int => k_is)
    (case z_isinstance => k_is)
    (case z_len => k_is)
    (case z_list => k_is)
    (case z_range => k_is)
    (case z_sorted => k_is)
    (case z_str => k_is)
    (case z_tuple => k_is)

