import PyProof.Rows.All
import Wide.All
import OpenK.AllK
import Wide.FinOn
import HandS.ForMost
import HandS.Deep
import HandS.IsInst
import HandS.TupAny
import HandS.TupMul
import HandS.Style
import KE.KDictKeyed
import KE.KDictWalk
import KE.KDictCopyH
import KE.KDictList
import KE.KDictItemsList
import KE.KDictPairs
import KE.KDictDisplayH
import HandS.Conv
import HandS.Zip
import HandS.Wide
import HandS.DictComp
import KE.GoesEnum
import KE.GoesMore
import KE.SortData
import KE.LtData
import HandS.Codes
import HandS.Exc
import HandS.ExcOwn
import KE.KExcSuper
import KE.KExcMake
import HandS.SortInts
import HandS.FStrTup
import HandS.RaiseMore
import PyProof.StrLawsRepr
import PyProof.Rows.RegStrFacts
import PyProof.ReprHeads
import PySem.Challenge.RW_pumphouse_k07_whole_leads_judged
set_option Elab.async false
set_option linter.all false
set_option maxRecDepth 100000
set_option maxHeartbeats 4000000
/-! Pk, part A: data in the abstract heap. -/
namespace Pk
open PySem PySem.Spec PyProof.Rows L2

/-- what never changes once it is tracked -/
def Imm : HO → Prop
  | .tup _ => True
  | .frz _ _ => True
  | _ => False
/-- what never changes is kept -/
def ExI (H H' : Hp) : Prop := ∀ a o, H a = some o → Imm o → H' a = some o
theorem ExI.refl (H : Hp) : ExI H H := fun _ _ h _ => h
theorem ExI.trans {H H1 H2 : Hp} (a : ExI H H1) (b : ExI H1 H2) : ExI H H2 := fun x o h i => b x o (a x o h i) i
theorem exi_same {H H' : Hp} (e : Same H H') : ExI H H' := fun a o h _ => e a o h
theorem exi_new {H : Hp} {p : Addr} {o : HO} (h : H p = none) : ExI H (upd H p o) := fun a u e _ => by
  rw [upd_ne (ne_of_none e h)]; exact e
theorem exi_mut {H : Hp} {p : Addr} {o o' : HO} (h : H p = some o) (n : ¬ Imm o) : ExI H (upd H p o') := fun a u e i => by
  have : a ≠ p := by
    rintro rfl
    rw [h] at e; cases e; exact n i
  rw [upd_ne this]; exact e
theorem same_new {H : Hp} {p : Addr} {o : HO} (h : H p = none) : Same H (upd H p o) := fun a u e => by
  rw [upd_ne (ne_of_none e h)]; exact e

mutual
/-- the value v is the data d (never to change) -/
def Dd (H : Hp) : PyData → V → Prop
  | .none, v => v = .non
  | .bool b, v => v = .bl b
  | .int i, v => v = .int i
  | .str s, v => v = .str s
  | .list ds, v => ∃ a o xs, v = .ref a ∧ H a = some (.frz o (.lst xs)) ∧ DdAll H ds xs
  | .tuple ds, v => ∃ a o xs, v = .ref a ∧ H a = some (.frz o (.tup xs)) ∧ o.dict = none ∧ DdAll H ds xs
  | .dict _, _ => False
def DdAll (H : Hp) : List PyData → List V → Prop
  | [], vs => vs = []
  | d :: ds, vs => ∃ v r, vs = v :: r ∧ Dd H d v ∧ DdAll H ds r
end

mutual
theorem Dd.mono {H H' : Hp} (e : ExI H H') : ∀ (d : PyData) (v : V), Dd H d v → Dd H' d v
  | .none, _, h => h
  | .bool _, _, h => h
  | .int _, _, h => h
  | .str _, _, h => h
  | .list ds, _, h => by
    obtain ⟨a, o, xs, e1, e2, e3⟩ := (show ∃ a o xs, _ = V.ref a ∧ H a = some (.frz o (.lst xs)) ∧ DdAll H ds xs from by simpa only [Dd] using h)
    show Dd H' (.list ds) _
    simp only [Dd]
    exact ⟨a, o, xs, e1, e _ _ e2 trivial, DdAll.mono e ds xs e3⟩
  | .tuple ds, _, h => by
    obtain ⟨a, o, xs, e1, e2, e4, e3⟩ := (show ∃ a o xs, _ = V.ref a ∧ H a = some (.frz o (.tup xs)) ∧ o.dict = none ∧ DdAll H ds xs from by simpa only [Dd] using h)
    show Dd H' (.tuple ds) _
    simp only [Dd]
    exact ⟨a, o, xs, e1, e _ _ e2 trivial, e4, DdAll.mono e ds xs e3⟩
  | .dict _, _, h => by simp only [Dd] at h
theorem DdAll.mono {H H' : Hp} (e : ExI H H') : ∀ (ds : List PyData) (vs : List V), DdAll H ds vs → DdAll H' ds vs
  | [], _, h => h
  | d :: ds, _, h => by
    obtain ⟨v, r, e1, e2, e3⟩ := (show ∃ v r, _ = v :: r ∧ Dd H d v ∧ DdAll H ds r from by simpa only [DdAll] using h)
    show DdAll H' (d :: ds) _
    simp only [DdAll]
    exact ⟨v, r, e1, Dd.mono e d v e2, DdAll.mono e ds r e3⟩
end
section
variable {H H' : Hp} {v : V} {d : PyData} {ds es : List PyData} {xs ys : List V}
theorem dd_non : Dd H .none v ↔ v = .non := by simp only [Dd]
theorem dd_bl {b : Bool} : Dd H (.bool b) v ↔ v = .bl b := by simp only [Dd]
theorem dd_int {i : Int} : Dd H (.int i) v ↔ v = .int i := by simp only [Dd]
theorem dd_str {s : Str} : Dd H (.str s) v ↔ v = .str s := by simp only [Dd]
theorem dd_lst : Dd H (.list ds) v ↔ ∃ a o xs, v = .ref a ∧ H a = some (.frz o (.lst xs)) ∧ DdAll H ds xs := by simp only [Dd]
theorem dd_tup : Dd H (.tuple ds) v ↔ ∃ a o xs, v = .ref a ∧ H a = some (.frz o (.tup xs)) ∧ o.dict = none ∧ DdAll H ds xs := by simp only [Dd]
theorem da_nil : DdAll H [] xs ↔ xs = [] := by simp only [DdAll]
theorem da_cons : DdAll H (d :: ds) xs ↔ ∃ v r, xs = v :: r ∧ Dd H d v ∧ DdAll H ds r := by simp only [DdAll]
theorem DdAll.cons (h : Dd H d v) (t : DdAll H ds xs) : DdAll H (d :: ds) (v :: xs) := da_cons.mpr ⟨v, xs, rfl, h, t⟩
theorem DdAll.nil : DdAll H [] [] := da_nil.mpr rfl
theorem DdAll.length : ∀ {ds : List PyData} {xs : List V}, DdAll H ds xs → xs.length = ds.length
  | [], _, h => by rw [da_nil.mp h]; rfl
  | d :: ds, _, h => by
    obtain ⟨v, r, rfl, _, t⟩ := da_cons.mp h
    rw [List.length_cons, List.length_cons, DdAll.length t]
theorem DdAll.get : ∀ {ds : List PyData} {xs : List V} {i : Nat} {d : PyData}, DdAll H ds xs → ds[i]? = some d → ∃ x, xs[i]? = some x ∧ Dd H d x
  | [], _, _, _, _, e => by simp at e
  | c :: ds, _, i, d, h, e => by
    obtain ⟨v, r, rfl, hv, t⟩ := da_cons.mp h
    cases i with
    | zero =>
      have e' : c = d := by simpa using e
      subst e'
      exact ⟨v, rfl, hv⟩
    | succ j =>
      obtain ⟨x, h1, h2⟩ := DdAll.get (i := j) t (by simpa using e)
      exact ⟨x, by simpa using h1, h2⟩
theorem DdAll.getV : ∀ {ds : List PyData} {xs : List V} {i : Nat} {x : V}, DdAll H ds xs → xs[i]? = some x → ∃ d, ds[i]? = some d ∧ Dd H d x
  | [], _, _, _, h, e => by rw [da_nil.mp h] at e; simp at e
  | c :: ds, _, i, x, h, e => by
    obtain ⟨v, r, rfl, hv, t⟩ := da_cons.mp h
    cases i with
    | zero =>
      have e' : v = x := by simpa using e
      subst e'
      exact ⟨c, rfl, hv⟩
    | succ j =>
      obtain ⟨y, h1, h2⟩ := DdAll.getV (i := j) t (by simpa using e)
      exact ⟨y, by simpa using h1, h2⟩
theorem DdAll.append : ∀ {ds es : List PyData} {xs ys : List V}, DdAll H ds xs → DdAll H es ys → DdAll H (ds ++ es) (xs ++ ys)
  | [], _, _, _, h, k => by rw [da_nil.mp h]; exact k
  | d :: ds, _, _, _, h, k => by
    obtain ⟨v, r, rfl, hv, t⟩ := da_cons.mp h
    exact DdAll.cons hv (DdAll.append t k)
theorem DdAll.take (n : Nat) : ∀ {ds : List PyData} {xs : List V}, DdAll H ds xs → DdAll H (ds.take n) (xs.take n) := by
  induction n with
  | zero => intro ds xs _; rw [List.take_zero, List.take_zero]; exact DdAll.nil
  | succ n ih =>
    intro ds xs h
    cases ds with
    | nil => rw [da_nil.mp h]; exact DdAll.nil
    | cons d ds =>
      obtain ⟨v, r, rfl, hv, t⟩ := da_cons.mp h
      exact DdAll.cons hv (ih t)
theorem DdAll.drop (n : Nat) : ∀ {ds : List PyData} {xs : List V}, DdAll H ds xs → DdAll H (ds.drop n) (xs.drop n) := by
  induction n with
  | zero => intro ds xs h; exact h
  | succ n ih =>
    intro ds xs h
    cases ds with
    | nil => rw [da_nil.mp h]; exact DdAll.nil
    | cons d ds =>
      obtain ⟨v, r, rfl, hv, t⟩ := da_cons.mp h
      exact ih t
theorem DdAll.reverse : ∀ {ds : List PyData} {xs : List V}, DdAll H ds xs → DdAll H ds.reverse xs.reverse
  | [], _, h => by rw [da_nil.mp h]; exact DdAll.nil
  | d :: ds, _, h => by
    obtain ⟨v, r, rfl, hv, t⟩ := da_cons.mp h
    rw [List.reverse_cons, List.reverse_cons]
    exact DdAll.append (DdAll.reverse t) (DdAll.cons hv DdAll.nil)
theorem DdAll.set (n : Nat) : ∀ {ds : List PyData} {xs : List V}, DdAll H ds xs → Dd H d v → DdAll H (ds.set n d) (xs.set n v) := by
  induction n with
  | zero =>
    intro ds xs h hd
    cases ds with
    | nil => rw [da_nil.mp h]; exact DdAll.nil
    | cons d ds =>
      obtain ⟨v, r, rfl, hv, t⟩ := da_cons.mp h
      exact DdAll.cons hd t
  | succ n ih =>
    intro ds xs h hd
    cases ds with
    | nil => rw [da_nil.mp h]; exact DdAll.nil
    | cons d ds =>
      obtain ⟨v, r, rfl, hv, t⟩ := da_cons.mp h
      exact DdAll.cons hv (ih t hd)
theorem DdAll.ints : ∀ {ns : List Int} {xs : List V}, DdAll H (ns.map .int) xs ↔ xs = ns.map V.int
  | [], _ => da_nil
  | n :: ns, xs => by
    rw [List.map_cons, da_cons]
    constructor
    · rintro ⟨v, r, rfl, h, t⟩
      rw [dd_int.mp h, DdAll.ints.mp t]; rfl
    · rintro rfl
      exact ⟨_, _, rfl, dd_int.mpr rfl, DdAll.ints.mpr rfl⟩
theorem DdAll.bls : ∀ {ns : List Bool} {xs : List V}, DdAll H (ns.map .bool) xs ↔ xs = ns.map V.bl
  | [], _ => da_nil
  | n :: ns, xs => by
    rw [List.map_cons, da_cons]
    constructor
    · rintro ⟨v, r, rfl, h, t⟩
      rw [dd_bl.mp h, DdAll.bls.mp t]; rfl
    · rintro rfl
      exact ⟨_, _, rfl, dd_bl.mpr rfl, DdAll.bls.mpr rfl⟩
mutual
theorem Dd.dp {K : PySem.W.Frag} : ∀ (d : PyData) (v : V), Dd H d v → Dp K H v d
  | .none, _, h => by rw [dd_non.mp h]; exact .non
  | .bool b, _, h => by rw [dd_bl.mp h]; exact .bl b
  | .int i, _, h => by rw [dd_int.mp h]; exact .int i
  | .str s, _, h => by rw [dd_str.mp h]; exact .str s
  | .list ds, _, h => by
    obtain ⟨a, o, xs, rfl, e2, e3⟩ := dd_lst.mp h
    exact .lst (.inl (.inr ⟨o, e2⟩)) (DdAll.dp ds xs e3)
  | .tuple ds, _, h => by
    obtain ⟨a, o, xs, rfl, e2, _, e3⟩ := dd_tup.mp h
    exact .tup (.inl (.inr ⟨o, e2⟩)) (DdAll.dp ds xs e3)
  | .dict _, _, h => by simp only [Dd] at h
theorem DdAll.dp {K : PySem.W.Frag} : ∀ (ds : List PyData) (vs : List V), DdAll H ds vs → DpAll K H vs ds
  | [], _, h => by rw [da_nil.mp h]; exact .nil
  | d :: ds, _, h => by
    obtain ⟨v, r, rfl, e2, e3⟩ := da_cons.mp h
    exact .cons (Dd.dp d v e2) (DdAll.dp ds r e3)
end
end
end Pk
/-! Pk, part B: dicts whose keys are crews (nested tuples). -/
namespace Pk
open PySem PySem.Spec PyProof.Rows L2

structure Crew where
  level : Int
  past : List Int
  ages : List Int
  mark : Int
  deriving DecidableEq
def Crew.d (c : Crew) : PyData := .tuple [.int c.level, .tuple (c.past.map .int), .tuple (c.ages.map .int), .int c.mark]
def Crew.key (c : Crew) : NestedKey := .tup [.num c.level, .tup (c.past.map .num), .tup (c.ages.map .num), .num c.mark]
theorem nums_inj : ∀ {a b : List Int}, a.map NestedKey.num = b.map NestedKey.num → a = b
  | [], [], _ => rfl
  | [], _ :: _, h => by simp at h
  | _ :: _, [], h => by simp at h
  | x :: a, y :: b, h => by
    simp only [List.map_cons, List.cons.injEq, NestedKey.num.injEq] at h
    rw [h.1, nums_inj h.2]
theorem Crew.key_inj {a b : Crew} (h : a.key = b.key) : a = b := by
  obtain ⟨l, p, g, m⟩ := a
  obtain ⟨l', p', g', m'⟩ := b
  simp only [Crew.key, NestedKey.tup.injEq, List.cons.injEq, NestedKey.num.injEq, and_true] at h
  obtain ⟨rfl, h2, h3, rfl⟩ := h
  rw [nums_inj h2, nums_inj h3]
theorem nums_depth : ∀ a : List Int, NestedKey.depthAll (a.map NestedKey.num) = 0
  | [] => by simp [NestedKey.depthAll]
  | x :: a => by
    rw [List.map_cons, NestedKey.depthAll, nums_depth a]
    simp [NestedKey.depth]
theorem Crew.key_depth (c : Crew) : c.key.depth ≤ 8 := by
  simp only [Crew.key, NestedKey.depth, NestedKey.depthAll, nums_depth]
  omega
/-- crews as keys -/
def ck (prog : Program) (w : World) : HeapKind prog w Crew where
  is := fun h c a => (nestedKind prog w).is h c.key a
  hash := fun c => (nestedKind prog w).hash c.key
  draws := fun c => (nestedKind prog w).draws c.key
  room := (nestedKind prog w).room
  inj := fun hx hy => Crew.key_inj ((nestedKind prog w).inj hx hy)
  keeps := fun x a b c => (nestedKind prog w).keeps x a b c
  pyHash := fun r x h => (nestedKind prog w).pyHash r x h
  eqBool := fun {A E s x y a b Q} r hx hy h => (nestedKind prog w).eqBool r hx hy (by
    have e : decide (x.key = y.key) = decide (x = y) := by
      by_cases z : x = y
      · rw [decide_eq_true z, decide_eq_true (congrArg _ z)]
      · rw [decide_eq_false z, decide_eq_false fun q => z (Crew.key_inj q)]
    rw [e]; exact h)
  quiet := fun hk h => (nestedKind prog w).quiet hk h

/-! ### tables -/
section
variable {κ α : Type} [DecidableEq κ]
def look (m : List (κ × α)) (k : κ) : Option α := (m.find? fun e => decide (e.1 = k)).map (·.2)
def put (m : List (κ × α)) (k : κ) (v : α) : List (κ × α) :=
  if (look m k).isSome then m.map (fun e => if e.1 = k then (e.1, v) else e) else m ++ [(k, v)]
theorem look_nil (k : κ) : look ([] : List (κ × α)) k = none := rfl
theorem look_cons (e : κ × α) (m : List (κ × α)) (k : κ) : look (e :: m) k = if e.1 = k then some e.2 else look m k := by
  by_cases h : e.1 = k <;> simp [look, List.find?_cons, h]
theorem look_none {m : List (κ × α)} {k : κ} : look m k = none ↔ ∀ e ∈ m, e.1 ≠ k := by
  induction m with
  | nil => simp [look_nil]
  | cons e m ih =>
    rw [look_cons]
    by_cases h : e.1 = k
    · rw [if_pos h]
      simp [h]
    · rw [if_neg h, ih]
      simp [h]
theorem look_mem {m : List (κ × α)} {k : κ} {v : α} (h : look m k = some v) : (k, v) ∈ m := by
  induction m with
  | nil => simp [look_nil] at h
  | cons e m ih =>
    rw [look_cons] at h
    by_cases q : e.1 = k
    · rw [if_pos q] at h
      cases h
      rw [← q]
      exact List.mem_cons_self
    · rw [if_neg q] at h
      exact List.mem_cons_of_mem _ (ih h)
theorem look_some_of {m : List (κ × α)} {k : κ} {v : α} (h : (k, v) ∈ m) : ∃ u, look m k = some u := by
  cases e : look m k with
  | some u => exact ⟨u, rfl⟩
  | none => exact absurd rfl (look_none.mp e _ h)
theorem look_of_mem {m : List (κ × α)} (nd : (m.map (·.1)).Nodup) {k : κ} {v : α} (h : (k, v) ∈ m) : look m k = some v := by
  induction m with
  | nil => cases h
  | cons e m ih =>
    rw [List.map_cons, List.nodup_cons] at nd
    rw [look_cons]
    rcases List.mem_cons.mp h with q | q
    · rw [if_pos (by rw [← q]), ← q]
    · have : e.1 ≠ k := fun z => nd.1 (List.mem_map.mpr ⟨_, q, z.symm⟩)
      rw [if_neg this]
      exact ih nd.2 q
theorem look_map_put (k j : κ) (v : α) : ∀ m : List (κ × α), look (m.map fun e => if e.1 = k then (e.1, v) else e) j = (look m j).map fun x => if j = k then v else x
  | [] => rfl
  | e :: m => by
    rw [List.map_cons, look_cons, look_cons, look_map_put k j v m]
    by_cases h : e.1 = k
    · by_cases q : k = j
      · simp [h, q]
      · simp [h, q]
    · by_cases q : e.1 = j
      · have : j ≠ k := fun z => h (q.trans z)
        simp [h, q, this]
      · simp [h, q]
theorem look_snoc (k j : κ) (v : α) (m : List (κ × α)) (hn : look m k = none) : look (m ++ [(k, v)]) j = if j = k then some v else look m j := by
  induction m with
  | nil =>
    rw [List.nil_append, look_cons, look_nil]
    by_cases q : k = j <;> simp [q, eq_comm]
  | cons e m ih =>
    rw [look_none] at hn
    have h1 : e.1 ≠ k := hn e List.mem_cons_self
    rw [List.cons_append, look_cons, look_cons, ih (look_none.mpr fun x hx => hn x (List.mem_cons_of_mem _ hx))]
    by_cases q : e.1 = j
    · have : j ≠ k := fun z => h1 (q.trans z)
      simp [q, this]
    · simp [q]
theorem look_put (m : List (κ × α)) (k j : κ) (v : α) : look (put m k v) j = if j = k then some v else look m j := by
  unfold put
  cases e : look m k with
  | none =>
    rw [if_neg (by simp)]
    exact look_snoc k j v m e
  | some u =>
    rw [if_pos (by simp), look_map_put]
    by_cases h : j = k
    · rw [h, e]; simp
    · simp [h]
theorem keys_put (m : List (κ × α)) (k : κ) (v : α) : (put m k v).map (·.1) = if (look m k).isSome then m.map (·.1) else m.map (·.1) ++ [k] := by
  unfold put
  by_cases h : (look m k).isSome = true
  · rw [if_pos h, if_pos h, List.map_map]
    refine List.map_congr_left fun e _ => ?_
    by_cases q : e.1 = k <;> simp [q]
  · rw [if_neg h, if_neg h, List.map_append]; rfl
theorem nodup_put {m : List (κ × α)} (nd : (m.map (·.1)).Nodup) (k : κ) (v : α) : ((put m k v).map (·.1)).Nodup := by
  rw [keys_put]
  cases e : look m k with
  | some u => simpa using nd
  | none =>
    rw [if_neg (by simp)]
    refine List.nodup_append.mpr ⟨nd, by simp, fun a ha b hb => ?_⟩
    rw [List.mem_singleton] at hb
    subst hb
    obtain ⟨x, hx, rfl⟩ := List.mem_map.mp ha
    exact look_none.mp e x hx
theorem length_put (m : List (κ × α)) (k : κ) (v : α) : (put m k v).length ≤ m.length + 1 := by
  unfold put
  split
  · rw [List.length_map]; omega
  · rw [List.length_append]; simp
theorem length_put_new {m : List (κ × α)} {k : κ} (v : α) (h : look m k = none) : (put m k v).length = m.length + 1 := by
  unfold put
  rw [h, if_neg (by simp), List.length_append]; rfl
theorem length_put_old {m : List (κ × α)} {k : κ} {u : α} (v : α) (h : look m k = some u) : (put m k v).length = m.length := by
  unfold put
  rw [h, if_pos (by simp), List.length_map]
theorem mem_put {m : List (κ × α)} {k : κ} {v : α} {e : κ × α} (h : e ∈ put m k v) : e = (k, v) ∨ e ∈ m := by
  unfold put at h
  split at h
  · obtain ⟨x, hx, q⟩ := List.mem_map.mp h
    by_cases z : x.1 = k
    · rw [if_pos z] at q
      exact .inl (by rw [← q, z])
    · rw [if_neg z] at q
      exact .inr (q ▸ hx)
  · rcases List.mem_append.mp h with h | h
    · exact .inr h
    · exact .inl (by simpa using h)
end

/-! ### the object -/
/-- the dict's object: the keys, where their tuples stand, the values -/
def DnRaw (P : Program) (w : World) (p : Addr) (xs : List (Crew × Addr × V)) (h : Heap) : Prop :=
  xs.length ≤ sizeLine ∧ (p == sysModules) = false ∧ ∃ ys : List (Crew × Addr × Value), Paired (fun x y => x.1 = y.1 ∧ x.2.1 = y.2.1 ∧ RelV x.2.2 y.2.2) xs ys ∧
    ∃ o es ep, h.get? p = some o ∧ o.ExactDict ∧ o.data = .dict es ep ∧ es.toList = ys.map (entryOfKey (ck P w)) ∧ (ys.map (·.1)).Nodup
def DnO (P : Program) (w : World) (p : Addr) (xs : List (Crew × Addr × V)) : HO := .ext (DnRaw P w p xs)
theorem dn_ok {P : Program} {w : World} {H : Hp} {h : Heap} {p : Addr} {xs : List (Crew × Addr × V)} (x : DnRaw P w p xs h) : ObjOk P w H h p (DnO P w p xs) := by
  refine ⟨x, ?_, fun h1 h2 a k => ?_⟩
  · obtain ⟨_, _, _, _, o, _, _, e, _⟩ := x; exact ⟨o, e⟩
  · obtain ⟨z, y, ys, r, o, es, ep, e, c⟩ := a
    exact ⟨z, y, ys, r, o, es, ep, k _ e, c⟩
theorem dn_of {P : Program} {w : World} {H : Hp} {h : Heap} {p : Addr} {xs : List (Crew × Addr × V)} (ok : HOk P w H h) (e : Rd H p (DnO P w p xs)) : DnRaw P w p xs h := by
  have x : ObjOk P w H h p (DnO P w p xs) := e.ok ok
  exact x.1
/-- what the dict at p holds: its keys, its values, all data -/
def DKV (H : Hp) : List (Crew × PyData) → List (Crew × Addr × V) → Prop := Paired fun kv x => kv.1 = x.1 ∧ Dd H kv.1.d (.ref x.2.1) ∧ Dd H kv.2 x.2.2
def Dic (P : Program) (w : World) (H : Hp) (p : Addr) (kvs : List (Crew × PyData)) : Prop := ∃ xs, H p = some (DnO P w p xs) ∧ DKV H kvs xs
theorem DKV.mono {H H' : Hp} {kvs xs} (e : ExI H H') (r : DKV H kvs xs) : DKV H' kvs xs := Paired.mapP r fun _ _ z => ⟨z.1, Dd.mono e _ _ z.2.1, Dd.mono e _ _ z.2.2⟩
theorem Dic.mono {P w} {H H' : Hp} {p kvs} (e : ExI H H') (hp : ∀ o, H p = some o → H' p = some o) (d : Dic P w H p kvs) : Dic P w H' p kvs := by
  obtain ⟨xs, h, r⟩ := d
  exact ⟨xs, hp _ h, r.mono e⟩
theorem Dic.same {P w} {H H' : Hp} {p kvs} (e : Same H H') (d : Dic P w H p kvs) : Dic P w H' p kvs := d.mono (exi_same e) fun o h => e _ _ h

section
variable {X : Cx} {pins : List (Addr × Obj)} {σ : L2.St} {H : Hp} {s : Shared} {p b : Addr} {c : Crew} {kvs : List (Crew × PyData)}
theorem nums_are {h : Heap} : ∀ {ns : List Int} {us : List Value}, Vals (ns.map V.int) us → NestedAll h (ns.map NestedKey.num) us
  | [], _, r => by rw [List.map_nil] at r; cases r; exact .nil
  | n :: ns, _, r => by
    rw [List.map_cons] at r
    cases r with
    | cons r t =>
      obtain ⟨tk, rfl⟩ := r
      exact .cons (.int n tk) (nums_are t)
theorem nums_tup (I : Inv X pins σ H s) {ns : List Int} {v : V} {u : Value} (h : Dd H (.tuple (ns.map .int)) v) (r : RelV v u) : NestedIs s.heap (.tup (ns.map .num)) u := by
  obtain ⟨a, oo, xs, rfl, e, _, t⟩ := dd_tup.mp h
  rw [DdAll.ints] at t
  subst t
  cases r
  obtain ⟨_, _, its, rv, o, h1, h2, n, h3⟩ := (show ObjOk X.prog X.w H s.heap a (.frz oo (.tup (ns.map V.int))) from I.hok a _ e)
  exact .tup h1 h2 h3 (by simpa using nums_are rv)
theorem crew_is (I : Inv X pins σ H s) (h : Dd H c.d (.ref b)) : (ck X.prog X.w).is s.heap c b := by
  obtain ⟨a, oo, xs, e0, e, _, t⟩ := dd_tup.mp h
  cases e0
  obtain ⟨v1, r1, rfl, d1, t⟩ := da_cons.mp t
  obtain ⟨v2, r2, rfl, d2, t⟩ := da_cons.mp t
  obtain ⟨v3, r3, rfl, d3, t⟩ := da_cons.mp t
  obtain ⟨v4, r4, rfl, d4, t⟩ := da_cons.mp t
  rw [da_nil.mp t] at e
  obtain ⟨_, _, its, rv, o, h1, h2, n, h3⟩ := (show ObjOk X.prog X.w H s.heap b (.frz oo (.tup [v1, v2, v3, v4])) from I.hok b _ e)
  cases rv with
  | cons q1 rv =>
    cases rv with
    | cons q2 rv =>
      cases rv with
      | cons q3 rv =>
        cases rv with
        | cons q4 rv =>
          cases rv
          rw [dd_int.mp d1] at q1
          obtain ⟨t1, rfl⟩ := q1
          rw [dd_int.mp d4] at q4
          obtain ⟨t4, rfl⟩ := q4
          refine ⟨.tup h1 h2 h3 (.cons (.int _ _) (.cons (nums_tup I d2 q2) (.cons (nums_tup I d3 q3) (.cons (.int _ _) .nil)))), c.key_depth⟩
/-- the dict in the heap -/
theorem dic_heap (I : Inv X pins σ H s) (e : Rd H p (DnO X.prog X.w p xs)) (r : DKV H kvs xs) : ∃ ys : List (Crew × Addr × Value), Paired (fun x y => x.1 = y.1 ∧ x.2.1 = y.2.1 ∧ RelV x.2.2 y.2.2) xs ys ∧
    s.heap.DictOfH (ck X.prog X.w) p ys ∧ ys.length = kvs.length ∧ kvs.length ≤ sizeLine ∧ (p == sysModules) = false := by
  obtain ⟨z, y, ys, rel, o, es, ep, h1, h2, h3, h4, h5⟩ := dn_of I.hok e
  have l1 := Paired.length r
  have l2 := Paired.length rel
  refine ⟨ys, rel, ⟨o, es, ep, h1, h2, h3, h4, fun q hq => ?_, h5⟩, by omega, by omega, y⟩
  obtain ⟨i, hi⟩ := List.mem_iff_getElem?.mp hq
  have all : ∀ {xs : List (Crew × Addr × V)} {ys : List (Crew × Addr × Value)} {kvs : List (Crew × PyData)} , Paired (fun x y => x.1 = y.1 ∧ x.2.1 = y.2.1 ∧ RelV x.2.2 y.2.2) xs ys → DKV H kvs xs → ∀ q ∈ ys, Dd H q.1.d (.ref q.2.1) := by
    intro xs ys kvs r1
    induction r1 generalizing kvs with
    | nil => intro _ q hq; cases hq
    | @cons a b l1 l2 hh _ ih =>
      intro k q hq
      cases k with
      | cons k1 k2 =>
        rcases List.mem_cons.mp hq with e | hq
        · subst e
          rw [← hh.1, ← hh.2.1, ← k1.1]
          exact k1.2.1
        · exact ih k2 q hq
  exact crew_is I (all rel r q hq)
end
/-! ### reading and writing -/
abbrev XY : List (Crew × Addr × V) → List (Crew × Addr × Value) → Prop := Paired fun x y => x.1 = y.1 ∧ x.2.1 = y.2.1 ∧ RelV x.2.2 y.2.2
def putX (xs : List (Crew × Addr × V)) (c : Crew) (b : Addr) (v : V) : List (Crew × Addr × V) :=
  if (look xs c).isSome then xs.map (fun x => if x.1 = c then (x.1, x.2.1, v) else x) else xs ++ [(c, b, v)]
theorem dkv_look {H : Hp} {kvs : List (Crew × PyData)} {xs : List (Crew × Addr × V)} (r : DKV H kvs xs) (c : Crew) : (look kvs c = none ∧ look xs c = none) ∨ ∃ d b v, look kvs c = some d ∧ look xs c = some (b, v) ∧ Dd H d v ∧ Dd H c.d (.ref b) := by
  induction r with
  | nil => exact .inl ⟨rfl, rfl⟩
  | @cons kv x l1 l2 hh _ ih =>
    rw [look_cons, look_cons]
    by_cases q : kv.1 = c
    · rw [if_pos q, if_pos (by rw [← hh.1]; exact q)]
      exact .inr ⟨kv.2, x.2.1, x.2.2, rfl, rfl, hh.2.2, by rw [← q]; exact hh.2.1⟩
    · rw [if_neg q, if_neg (by rw [← hh.1]; exact q)]
      exact ih
theorem xy_look {xs : List (Crew × Addr × V)} {ys : List (Crew × Addr × Value)} (r : XY xs ys) (c : Crew) : (look xs c = none ∧ atKey ys c = none) ∨ ∃ b v u, look xs c = some (b, v) ∧ atKey ys c = some (b, u) ∧ RelV v u := by
  induction r with
  | nil => exact .inl ⟨rfl, rfl⟩
  | @cons x y l1 l2 hh _ ih =>
    have e : atKey (y :: l2) c = if y.1 = c then some y.2 else atKey l2 c := look_cons y l2 c
    rw [look_cons, e]
    by_cases q : x.1 = c
    · rw [if_pos q, if_pos (by rw [← hh.1]; exact q)]
      exact .inr ⟨x.2.1, x.2.2, y.2.2, rfl, by rw [hh.2.1], hh.2.2⟩
    · rw [if_neg q, if_neg (by rw [← hh.1]; exact q)]
      exact ih
theorem dkv_both {H : Hp} {kvs xs ys} (r : DKV H kvs xs) (r' : XY xs ys) (c : Crew) : (look kvs c = none ∧ atKey ys c = none) ∨ ∃ d b v u, look kvs c = some d ∧ atKey ys c = some (b, u) ∧ Dd H d v ∧ RelV v u := by
  rcases dkv_look r c with ⟨h1, h2⟩ | ⟨d, b, v, h1, h2, h3, _⟩
  · rcases xy_look r' c with ⟨_, h4⟩ | ⟨b, v, u, h4, _⟩
    · exact .inl ⟨h1, h4⟩
    · rw [h2] at h4; cases h4
  · rcases xy_look r' c with ⟨h4, _⟩ | ⟨b', v', u, h4, h5, h6⟩
    · rw [h2] at h4; cases h4
    · rw [h2] at h4; cases h4
      exact .inr ⟨d, b, v, u, h1, h5, h3, h6⟩
theorem paired_map {α β γ δ : Type} {F : α → β → Prop} {G : γ → δ → Prop} {f : α → γ} {g : β → δ} (h : ∀ a b, F a b → G (f a) (g b)) : ∀ {l : List α} {m : List β}, Paired F l m → Paired G (l.map f) (m.map g)
  | _, _, .nil => .nil
  | _, _, .cons x t => .cons (h _ _ x) (paired_map h t)
theorem dkv_put {H : Hp} {kvs xs} (r : DKV H kvs xs) {c : Crew} {b : Addr} {d : PyData} {v : V} (hb : Dd H c.d (.ref b)) (hd : Dd H d v) : DKV H (put kvs c d) (putX xs c b v) := by
  unfold put putX
  rcases dkv_look r c with ⟨h1, h2⟩ | ⟨d', b', v', h1, h2, _, _⟩
  · rw [h1, h2, if_neg (by simp), if_neg (by simp)]
    exact Paired.snoc r ⟨rfl, hb, hd⟩
  · rw [h1, h2, if_pos (by simp), if_pos (by simp)]
    refine paired_map (fun kv x z => ?_) r
    by_cases q : kv.1 = c
    · rw [if_pos q, if_pos (by rw [← z.1]; exact q)]
      exact ⟨z.1, z.2.1, hd⟩
    · rw [if_neg q, if_neg (by rw [← z.1]; exact q)]
      exact z
theorem xy_put {xs ys} (r : XY xs ys) {c : Crew} {b : Addr} {v : V} {u : Value} (rv : RelV v u) : XY (putX xs c b v) (storedH ys c b u) := by
  unfold putX storedH
  rcases xy_look r c with ⟨h1, h2⟩ | ⟨b', v', u', h1, h2, _⟩
  · rw [h1, h2, if_neg (by simp), if_neg (by simp)]
    exact Paired.snoc r ⟨rfl, rfl, rv⟩
  · rw [h1, h2, if_pos (by simp), if_pos (by simp)]
    refine paired_map (fun x y z => ?_) r
    unfold putAt
    by_cases q : x.1 = c
    · rw [if_pos q, if_pos (by rw [← z.1]; exact q)]
      exact ⟨z.1, z.2.1, rv⟩
    · rw [if_neg q, if_neg (by rw [← z.1]; exact q)]
      exact z
theorem putX_le (xs : List (Crew × Addr × V)) (c : Crew) (b : Addr) (v : V) : (putX xs c b v).length ≤ xs.length + 1 := by
  unfold putX
  split
  · rw [List.length_map]; omega
  · rw [List.length_append]; simp

section
variable {X : Cx} {pins : List (Addr × Obj)} {σ : L2.St} {H : Hp} {s : Shared} {p b : Addr} {c : Crew} {kvs : List (Crew × PyData)} {A : Around} {E : Value → Shared → Prop} {xs : List (Crew × Addr × V)}
theorem ck_room (hu : A.units + 16 < cLine) : (ck X.prog X.w).room A.in1 := by
  show A.units + 1 + 8 < cLine
  omega
theorem n_get {d : PyData} {Q : Value → Shared → Prop} (hu : A.units + 16 < cLine) (I : Inv X pins σ H s) (e : Rd H p (DnO X.prog X.w p xs)) (r : DKV H kvs xs) (hb : Dd H c.d (.ref b)) (hl : look kvs c = some d)
    (h : ∀ v u s', Inv X pins σ H s' → Dd H d v → RelV v u → Q u s') : wpAny (model X.prog X.w) A (getItem (.ref p) (.ref b)) Q E s := by
  obtain ⟨ys, rel, dd, _, _, _⟩ := dic_heap I e r
  rcases dkv_both r rel c with ⟨h1, _⟩ | ⟨d', b', v, u, h1, h2, h3, h4⟩
  · rw [hl] at h1; cases h1
  · rw [hl] at h1; cases h1
    exact wpAny_getItem_heap (ck_room (X := X) hu) (crew_is I hb) dd h2 (h v u _ (I.tok _) h3 h4)
theorem n_in {Q : Value → Shared → Prop} (hu : A.units + 16 < cLine) (I : Inv X pins σ H s) (e : Rd H p (DnO X.prog X.w p xs)) (r : DKV H kvs xs) (hb : Dd H c.d (.ref b))
    (h : ∀ s', Inv X pins σ H s' → Q (.bool (look kvs c).isSome) s') : wpAny (model X.prog X.w) A (compareOp .In (.ref b) (.ref p)) Q E s := by
  obtain ⟨ys, rel, dd, _, _, y⟩ := dic_heap I e r
  refine wpAny_in_heap (ck_room (X := X) hu) (crew_is I hb) y dd ?_
  have q : (atKey ys c).isSome = (look kvs c).isSome := by
    rcases dkv_both r rel c with ⟨h1, h2⟩ | ⟨d', b', v, u, h1, h2, _, _⟩ <;> rw [h1, h2] <;> rfl
  rw [q]
  exact h _ (I.tok _)
theorem n_notIn {Q : Value → Shared → Prop} (hu : A.units + 16 < cLine) (I : Inv X pins σ H s) (e : Rd H p (DnO X.prog X.w p xs)) (r : DKV H kvs xs) (hb : Dd H c.d (.ref b))
    (h : ∀ s', Inv X pins σ H s' → Q (.bool (!(look kvs c).isSome)) s') : wpAny (model X.prog X.w) A (compareOp .NotIn (.ref b) (.ref p)) Q E s := by
  obtain ⟨ys, rel, dd, _, _, y⟩ := dic_heap I e r
  refine wpAny_notIn_heap (ck_room (X := X) hu) (crew_is I hb) y dd ?_
  have q : (atKey ys c).isSome = (look kvs c).isSome := by
    rcases dkv_both r rel c with ⟨h1, h2⟩ | ⟨d', b', v, u, h1, h2, _, _⟩ <;> rw [h1, h2] <;> rfl
  rw [q]
  exact h _ (I.tok _)
theorem n_getOr {x : V} {xu : Value} {Q : Value → Shared → Prop} {dx : PyData} (hu : A.units + 16 < cLine) (I : Inv X pins σ H s) (e : Rd H p (DnO X.prog X.w p xs)) (r : DKV H kvs xs) (hb : Dd H c.d (.ref b)) (hx : Dd H dx x) (rx : RelV x xu)
    (h : ∀ v u s', Inv X pins σ H s' → Dd H ((look kvs c).getD dx) v → RelV v u → Q u s') : wpAny (model X.prog X.w) A (call (.builtin "dict.get") [.ref p, .ref b, xu]) Q E s := by
  obtain ⟨ys, rel, dd, _, _, y⟩ := dic_heap I e r
  refine call_meetsIn PySem.F.slot_dict_get dd.typeIs PySem.F.entry_dict_get (PySem.F.args_dict_get_3 _ _ _) (meetsH_dict_get_default (ck X.prog X.w) p b y xu) ⟨ck_room (X := X) hu, c, ys, crew_is I hb, dd, ?_⟩
  rcases dkv_both r rel c with ⟨h1, h2⟩ | ⟨d', b', v, u, h1, h2, h3, h4⟩
  · rw [h2]
    rw [h1] at h
    exact h x xu _ (I.tok _) hx rx
  · rw [h2]
    rw [h1] at h
    exact h v u _ (I.tok _) h3 h4
theorem n_len {Q : Value → Shared → Prop} (I : Inv X pins σ H s) (e : Rd H p (DnO X.prog X.w p xs)) (r : DKV H kvs xs) (h : ∀ t s', Inv X pins σ H s' → Q (.int kvs.length t) s') : wpAny (model X.prog X.w) A (call (.builtin "len") [.ref p]) Q E s := by
  obtain ⟨ys, rel, dd, hl, hz, y⟩ := dic_heap I e r
  have dk : s.heap.DictKeyed (ck X.prog X.w) p (pairsH ys) := ⟨ys, dd, rfl⟩
  refine PyProof.Rows.call_len_slot (n := kvs.length) dk.typeIs PySem.F.slot_dict_len (fun Q' hq => len_keyed y dk (by rw [pairsH_length, hl]; exact hq)) (by omega) (by rw [sizeLine_eq] at hz; omega) ?_
  exact h _ _ (I.tok _)
theorem n_write {h' : Heap} {t' : Nat} {ob : HO} (I : Inv X pins σ H s) (mu : Mut (H p)) (hs : Heap.SameBut p s.heap h') (he : ∃ q, h'.get? p = some q) (new : ObjOk X.prog X.w (upd H p ob) h' p ob) :
    Inv X pins σ (upd H p ob) { s with heap := h', toks := t' } :=
  I.write (x := p) (e := p) mu (.inl rfl) (fun b q hb z => (hs.2 b hb).trans z) he new
theorem n_set {v : V} {u : Value} {Q : Unit → Shared → Prop} (hu : A.units + 16 < cLine) (I : Inv X pins σ H s) (e : H p = some (DnO X.prog X.w p xs)) (r : DKV H kvs xs) (hb : Dd H c.d (.ref b)) (rv : RelV v u) (hz : kvs.length < sizeLine)
    (h : ∀ s', Inv X pins σ (upd H p (DnO X.prog X.w p (putX xs c b v))) s' → Q () s') : wpAny (model X.prog X.w) A (setItem (.ref p) (.ref b) u) Q E s := by
  obtain ⟨ys, rel, dd, hl, _, y⟩ := dic_heap I (.inl e) r
  have l1 := Paired.length r
  refine wpAny_setItem_heap (hsz := by omega) (ck_room (X := X) hu) (crew_is I hb) dd fun h' dd' hs => h _ ?_
  obtain ⟨q, es, ep, hq, h2, h3, h4, _, h5⟩ := dd'
  have l2 := putX_le xs c b v
  exact n_write I (by rw [e]; exact True.intro) hs ⟨q, hq⟩ (dn_ok ⟨by omega, y, _, xy_put rel rv, q, es, ep, hq, h2, h3, h4, h5⟩)
theorem n_dictSet {v : V} {u : Value} {Q : Unit → Shared → Prop} (hu : A.units + 16 < cLine) (I : Inv X pins σ H s) (e : H p = some (DnO X.prog X.w p xs)) (r : DKV H kvs xs) (hb : Dd H c.d (.ref b)) (rv : RelV v u) (hz : kvs.length < sizeLine)
    (h : ∀ s', Inv X pins σ (upd H p (DnO X.prog X.w p (putX xs c b v))) s' → Q () s') : wpAny (model X.prog X.w) A (dictSet p (.ref b) u) Q E s := by
  obtain ⟨ys, rel, dd, hl, _, y⟩ := dic_heap I (.inl e) r
  have l1 := Paired.length r
  refine wpAny_dictSet_heap (hsz := by omega) (show (ck X.prog X.w).room A from (by show A.units + 8 < cLine; omega)) (crew_is I hb) dd fun h' dd' hs => h _ ?_
  obtain ⟨q, es, ep, hq, h2, h3, h4, _, h5⟩ := dd'
  have l2 := putX_le xs c b v
  exact n_write I (by rw [e]; exact True.intro) hs ⟨q, hq⟩ (dn_ok ⟨by omega, y, _, xy_put rel rv, q, es, ep, hq, h2, h3, h4, h5⟩)
theorem dn_empty (P : Program) (w : World) (H' : Hp) (h : Heap) (hb : sysModules < h.objs.size) : ObjOk P w H' (h.push { cls := .type "dict", data := .dict #[] }) h.objs.size (DnO P w h.objs.size []) :=
  dn_ok ⟨Nat.zero_le _, beq_eq_false_iff_ne.mpr (Nat.ne_of_gt hb), [], .nil, _, #[], 0, Heap.get?_push_size _ rfl, ⟨rfl, rfl, rfl⟩, rfl, rfl, List.nodup_nil⟩
end
end Pk
/-! Pk, part C: rules by syntax for what the layer lacks. -/
namespace Pk
open PySem PySem.Spec PyProof.Rows L2

section
variable {X : Cx}
/-! ### the nested dict by values -/
abbrev NAt (X : Cx) (H : Hp) (p : Addr) (xs : List (Crew × Addr × V)) (kvs : List (Crew × PyData)) : Prop := Rd H p (DnO X.prog X.w p xs) ∧ DKV H kvs xs
def rIxN (P : Program) (w : World) : R2 := fun x y H Q => ∃ (p b : Addr) (xs : List (Crew × Addr × V)) (kvs : List (Crew × PyData)) (c : Crew) (d : PyData), x = .ref p ∧ y = .ref b ∧ Rd H p (DnO P w p xs) ∧ DKV H kvs xs ∧ Dd H c.d (.ref b) ∧ look kvs c = some d ∧
  ∀ v, Dd H d v → Q v H
theorem n_type {pins : List (Addr × Obj)} {σ : L2.St} {H : Hp} {s : Shared} {p : Addr} {xs : List (Crew × Addr × V)} (I : Inv X pins σ H s) (e : Rd H p (DnO X.prog X.w p xs)) : s.TypeIs (.ref p) "dict" := by
  obtain ⟨_, _, _, _, o, es, ep, h1, h2, _⟩ := dn_of I.hok e
  exact ⟨o, h1, h2.1⟩
theorem n_noDict {pins : List (Addr × Obj)} {σ : L2.St} {H : Hp} {s : Shared} {p : Addr} {xs : List (Crew × Addr × V)} (I : Inv X pins σ H s) (e : Rd H p (DnO X.prog X.w p xs)) :
    ∀ b, Value.ref p = .ref b → ∃ ob, s.heap.get? b = some ob ∧ ob.dict = none := fun b q => by
  cases q
  obtain ⟨_, _, _, _, o, es, ep, h1, h2, _⟩ := dn_of I.hok e
  exact ⟨o, h1, h2.2.1⟩
theorem ix_dn (hu : X.A.units + 16 < cLine) : IxR X (rIxN X.prog X.w) := by
  intro value slice pins s σ H x y v u Q I rx ry h hs
  obtain ⟨p, b, xs, kvs, c, d, rfl, rfl, e, r, hb, hl, q⟩ := h
  cases rx
  cases ry
  exact tail_any (n_type I e) PySem.F.slot_dict_getitem.lookup (n_get hu I e r hb hl fun z u' s' I' hd hr => ⟨z, H, I', hr, q z hd⟩) hs
/-- a dict by texts -/
def rIxK : R2 := fun x y H Q => ∃ (a : Addr) (v : V), x = .ref a ∧ DGet H a y (some v) ∧ Q v H
theorem ix_dk (hu : X.A.units + 1 < cLine) : IxR X rIxK := by
  intro value slice pins s σ H x y v u Q I rx ry h hs
  obtain ⟨a, z, rfl, g, q⟩ := h
  cases rx
  exact tail_any (dict_typeIs I g) PySem.F.slot_dict_getitem.lookup (d_getItem hu I g ry fun w' s3 I3 rw' => ⟨z, H, I3, rw', q⟩) hs
/-- any subscript -/
def rIxU (K : PySem.W.Frag) (P : Program) (w : World) : R2 := fun x y H Q => rIx K x y H Q ∨ rIxN P w x y H Q ∨ rIxK x y H Q
theorem ix_u (hu : X.A.units + 16 < cLine) : IxR X (rIxU X.K X.prog X.w) := ix_seq.or ((ix_dn hu).or (ix_dk (by omega)))
def rInN (P : Program) (w : World) (neg : Bool) : R2 := fun x y H Q => ∃ (b p : Addr) (xs : List (Crew × Addr × V)) (kvs : List (Crew × PyData)) (c : Crew), x = .ref b ∧ y = .ref p ∧ Rd H p (DnO P w p xs) ∧ DKV H kvs xs ∧ Dd H c.d (.ref b) ∧
  Q (.bl (if neg then !(look kvs c).isSome else (look kvs c).isSome)) H
theorem op_inN (hu : X.A.units + 16 < cLine) : OpR X (compareOp .In) (rInN X.prog X.w false) := by
  intro pins s σ H x y v u Q I rx ry h
  obtain ⟨b, p, xs, kvs, c, rfl, rfl, e, r, hb, q⟩ := h
  cases rx
  cases ry
  exact n_in hu I e r hb fun s' I' => ⟨.bl _, H, I', rfl, q⟩
theorem op_notInN (hu : X.A.units + 16 < cLine) : OpR X (compareOp .NotIn) (rInN X.prog X.w true) := by
  intro pins s σ H x y v u Q I rx ry h
  obtain ⟨b, p, xs, kvs, c, rfl, rfl, e, r, hb, q⟩ := h
  cases rx
  cases ry
  exact n_notIn hu I e r hb fun s' I' => ⟨.bl _, H, I', rfl, q⟩
/-- in a tuple of data -/
def rInDT (K : PySem.W.Frag) (neg : Bool) : R2 := fun x y H Q => ∃ d ds, Dp K H x d ∧ Dp K H y (.tuple ds) ∧ SeqAt.shaped d = true ∧ SeqAt.shaped (.tuple ds) = true ∧ Q (.bl (if neg then !ds.any fun z => PyData.eqv z d else ds.any fun z => PyData.eqv z d)) H
theorem op_inDT (hu : X.A.units + 65 < cLine) : OpR X (compareOp .In) (rInDT X.K false) := by
  intro pins s σ H x y v u Q I rx ry h
  obtain ⟨d, ds, hd, he, sd, se, q⟩ := h
  obtain ⟨as, r1⟩ := Dp.reads I d x v hd rx
  obtain ⟨bs, r2⟩ := Dp.reads I (.tuple ds) y u he ry
  exact SeqAt.in_tuple_reads r2 r1 (SeqAt.canLay_of_shaped se) (SeqAt.canLay_of_shaped sd) (room_in_shaped sd hu) ⟨.bl _, H, I, rfl, q⟩
theorem op_notInDT (hu : X.A.units + 65 < cLine) : OpR X (compareOp .NotIn) (rInDT X.K true) := by
  intro pins s σ H x y v u Q I rx ry h
  obtain ⟨d, ds, hd, he, sd, se, q⟩ := h
  obtain ⟨as, r1⟩ := Dp.reads I d x v hd rx
  obtain ⟨bs, r2⟩ := Dp.reads I (.tuple ds) y u he ry
  exact SeqAt.notIn_tuple_reads r2 r1 (SeqAt.canLay_of_shaped se) (SeqAt.canLay_of_shaped sd) (room_in_shaped sd hu) ⟨.bl _, H, I, rfl, q⟩
def rInU (K : PySem.W.Frag) (P : Program) (w : World) (neg : Bool) : R2 := fun x y H Q => rIn K neg x y H Q ∨ rInN P w neg x y H Q ∨ rInDT K neg x y H Q
theorem op_inU (hu : X.A.units + 65 < cLine) : OpR X (compareOp .In) (rInU X.K X.prog X.w false) := op_in_seq.or ((op_inN (by omega)).or (op_inDT hu))
theorem op_notInU (hu : X.A.units + 65 < cLine) : OpR X (compareOp .NotIn) (rInU X.K X.prog X.w true) := op_notIn_seq.or ((op_notInN (by omega)).or (op_notInDT hu))
def rEqU (K : PySem.W.Frag) : R2 := fun x y H Q => rEq x y H Q ∨ rEqD K x y H Q
theorem op_eqU (hu : X.A.units + 64 < cLine) : OpR X (compareOp .Eq) (rEqU X.K) := op_eq.or (op_eqD hu)
def rNeU (K : PySem.W.Frag) : R2 := fun x y H Q => rNe x y H Q ∨ rNeD K x y H Q
theorem op_neU (hu : X.A.units + 64 < cLine) : OpR X (compareOp .NotEq) (rNeU X.K) := op_ne.or (op_neD hu)

/-! ### stores -/
def rSetN (P : Program) (w : World) : TSet := fun o i v H Q => ∃ (p b : Addr) (xs : List (Crew × Addr × V)) (kvs : List (Crew × PyData)) (c : Crew), o = .ref p ∧ i = .ref b ∧ H p = some (DnO P w p xs) ∧ DKV H kvs xs ∧ Dd H c.d (.ref b) ∧ kvs.length < sizeLine ∧
  Q (upd H p (DnO P w p (putX xs c b v)))
theorem set_dn (hu : X.A.units + 16 < cLine) : PSet X (rSetN X.prog X.w) := by
  intro pins s σ H o i v ov iv u Q I ro ri rv h
  obtain ⟨p, b, xs, kvs, c, rfl, rfl, e, r, hb, hz, q⟩ := h
  cases ro
  cases ri
  exact n_set hu I e r hb rv hz fun s' I' => ⟨_, I', q⟩
def rSetK : TSet := fun o i v H Q => ∃ (a : Addr) (H' : Hp), o = .ref a ∧ DPut H a i v H' ∧ Q H'
theorem set_dk (hu : X.A.units + 1 < cLine) : PSet X rSetK := by
  intro pins s σ H o i v ov iv u Q I ro ri rv h
  obtain ⟨a, H', rfl, g, q⟩ := h
  cases ro
  exact d_setItem hu I g ri rv fun s' I' => ⟨H', I', q⟩
def rSetU (P : Program) (w : World) : TSet := fun o i v H Q => rSetL o i v H Q ∨ rSetN P w o i v H Q ∨ rSetK o i v H Q
theorem set_u (hu : X.A.units + 16 < cLine) : PSet X (rSetU X.prog X.w) := by
  intro pins s σ H o i v ov iv u Q I ro ri rv h
  rcases h with h | h | h
  · exact set_list pins s σ H o i v ov iv u Q I ro ri rv h
  · exact set_dn hu pins s σ H o i v ov iv u Q I ro ri rv h
  · exact set_dk (by omega) pins s σ H o i v ov iv u Q I ro ri rv h

/-! ### len, get, displays -/
def rLenN (P : Program) (w : World) : List V → Hp → VK → Prop := fun vs H Q => ∃ (p : Addr) (xs : List (Crew × Addr × V)) (kvs : List (Crew × PyData)), vs = [.ref p] ∧ Rd H p (DnO P w p xs) ∧ DKV H kvs xs ∧ Q (.int (kvs.length : Nat)) H
theorem call_lenN : CallR X (.builtin "len") (rLenN X.prog X.w) := by
  intro pins s σ H xs us Q I r h
  obtain ⟨p, ys, kvs, rfl, e, k, q⟩ := h
  obtain ⟨u, rfl, ru⟩ := vals1 r
  cases ru
  exact n_len I e k fun t s' I' => ⟨.int _, H, I', ⟨t, rfl⟩, q⟩
def rLenSq (K : PySem.W.Frag) : List V → Hp → VK → Prop := fun xs H Q => ∃ p ys, xs = [.ref p] ∧ (SqL K H p ys ∨ SqT K H p ys) ∧ Q (.int ys.length) H
def rLenU (K : PySem.W.Frag) (P : Program) (w : World) : List V → Hp → VK → Prop := fun xs H Q => rLenSq K xs H Q ∨ rLenN P w xs H Q
theorem call_lenU : CallR X (.builtin "len") (rLenU X.K X.prog X.w) := call_len_seq.or call_lenN
def tGetN (P : Program) (w : World) (td ty tx : TE) : TE := fun σ H Q => td σ H fun x H1 => (∃ p xs, x = .ref p ∧ Rd H1 p (DnO P w p xs)) ∧ ty σ H1 fun y H2 => tx σ H2 fun z H3 =>
  ∃ (p b : Addr) (xs : List (Crew × Addr × V)) (kvs : List (Crew × PyData)) (c : Crew) (dx : PyData), x = .ref p ∧ y = .ref b ∧ Rd H3 p (DnO P w p xs) ∧ DKV H3 kvs xs ∧ Dd H3 c.d (.ref b) ∧ Dd H3 dx z ∧ ∀ v, Dd H3 ((look kvs c).getD dx) v → Q v H3
theorem pe_getN {o e f : Expr} {apos cpos : Pos} {td ty tx : TE} (hu : X.A.units + 16 < cLine) (ho : PE X o td) (he : PE X e ty) (hf : PE X f tx) (m : M2 X o "get" apos e f cpos) : PE X (.Call (.Attribute o "get" apos) [e, f] [] cpos) (tGetN X.prog X.w td ty tx) := by
  refine ⟨fun pins s σ H Q I h => ?_⟩
  refine wpAny_Call_method m.base m.few m.line PySem.F.plainAttrs_dict PySem.F.slot_dict_get PySem.F.type_dict_get (thn (ho.run pins s σ H _ I h) fun u s1 ⟨x, H1, I1, rx, ⟨p, xs, ex, d⟩, q1⟩ => ?_)
  subst ex
  obtain rfl : u = Value.ref p := rx
  refine ⟨n_type I1 d, n_noDict I1 d, ?_⟩
  rw [m.trees]
  refine Calls.callWith_builtin rfl (Calls.evalArgs_plain (Calls.spliced_cons (thn (he.run pins s1 σ H1 _ I1 q1) fun iv s2 ⟨y, H2, I2, ry, q2⟩ =>
    Calls.spliced_cons (thn (hf.run pins s2 σ H2 _ I2 q2) fun fv s3 ⟨z, H3, I3, rz, p', b, ys, kvs, c, dx, e1, e2, g, r, hb, hx, q3⟩ => Calls.spliced_nil ?_))))
  cases e1
  subst e2
  cases ry
  exact n_getOr hu I3 g r hb hx rz fun w' u' s4 I4 hd rw' => ⟨w', H3, I4, rw', q3 w' hd⟩
/-- {} -/
def tNewN (P : Program) (w : World) : TE := fun _ H Q => ∀ p, H p = none → Q (.ref p) (upd H p (DnO P w p []))
theorem pe_newN {pos : Pos} : PE X (.Dict [] [] pos) (tNewN X.prog X.w) := ⟨fun pins s σ H Q I h =>
  wpAny_Dict_empty ⟨.ref s.heap.objs.size, _, I.laid (a := s.heap.objs.size) (o := DnO X.prog X.w s.heap.objs.size []) (t' := s.toks) (fun _ _ q => Heap.get?_push_of_some _ q) (Nat.le_refl _) (dn_empty _ _ _ _ I.big), rfl, h _ (I.hok.fresh (Nat.le_refl _))⟩⟩
/-- freezing a list that was made: it is never written again -/
def tFrz (te : TE) : TE := fun σ H Q => te σ H fun x H1 => ∃ (a : Addr) (xs : List V), x = .ref a ∧ H1 a = some (.lst xs) ∧ ∀ o, Q (.ref a) (upd H1 a (.frz o (.lst xs)))
theorem pe_frz {e : Expr} {te : TE} (h : PE X e te) : PE X e (tFrz te) := ⟨fun pins s σ H Q I hq => by
  refine thn (h.run pins s σ H _ I hq) fun u s1 ⟨x, H1, I1, rx, a, xs, ex, ha, q⟩ => ?_
  subst ex
  obtain ⟨od, I2⟩ := I1.lock ha True.intro
  exact ⟨.ref a, _, I2, rx, q od⟩⟩
end
end Pk
/-! Pk, part D: displays, walks and copies of the nested dict. -/
namespace Pk
open PySem PySem.Spec PyProof.Rows L2

section
variable {X : Cx}
/-- {k: v} -/
def tDisp1N (P : Program) (w : World) (tk tv : TE) : TE := fun σ H Q => ∀ p, H p = none → tk σ (upd H p (DnO P w p [])) fun y H1 => tv σ H1 fun z H2 =>
  ∃ (b : Addr) (c : Crew), y = .ref b ∧ Dd H2 c.d (.ref b) ∧ H2 p = some (DnO P w p []) ∧ Q (.ref p) (upd H2 p (DnO P w p [(c, b, z)]))
theorem pe_disp1N {pos : Pos} {k v : Expr} {tk tv : TE} (hu : X.A.units + 16 < cLine) (hk : PE X k tk) (hv : PE X v tv) : PE X (.Dict [some k] [v] pos) (tDisp1N X.prog X.w tk tv) := by
  refine ⟨fun pins s σ H Q I q => ?_⟩
  have hn := I.hok.fresh (Nat.le_refl s.heap.objs.size)
  have I1 := I.laid (a := s.heap.objs.size) (o := DnO X.prog X.w s.heap.objs.size []) (h' := s.heap.push { cls := .type "dict", data := .dict #[] }) (t' := s.toks) (fun _ _ q => Heap.get?_push_of_some _ q) (Nat.le_refl _) (dn_empty _ _ _ _ I.big)
  have hsh := zip_pairTrees [some k] [v] X.env pos rfl rfl
  have hln := pairTrees_length [some k] [v] X.env pos rfl rfl
  rw [arm_eval_Dict, hsh, dictDisplay_pairs (pairTrees [some k] [v] X.env pos) (by intro z; rw [z] at hln; cases hln) (by rw [hln]; exact (by decide : 1 < 17))]
  refine wpAny_bind (wpAny_standAt (wpAny_bind (wpAny_subDictH (knd := ck X.prog X.w) (show X.A.units + 8 < cLine by omega) (by rw [hln]; exact (by decide : 1 ≤ 15)) ?_)))
  refine pairTrees_cons_walk (thn (hk.run pins _ σ _ _ I1 (q _ hn)) fun u s1 ⟨y, H1, I2, ry, q1⟩ => thn (hv.run pins s1 σ H1 _ I2 q1) fun w2 s2 ⟨z, H2, I3, rz, b, c, ey, hb, e, q2⟩ => ?_)
  subst ey
  cases ry
  refine pairTrees_nil_walk ?_
  obtain ⟨ys, rel, dd, _, _, hy⟩ := dic_heap (kvs := []) I3 (.inl e) .nil
  cases rel
  refine ⟨[(c, b, w2)], ⟨rfl, rfl, crew_is I3 hb, trivial⟩, dd, fun h' tk' dd' hs => wpAny_pure ⟨.ref s.heap.objs.size, _, ?_, rfl, q2⟩⟩
  obtain ⟨o, es, ep, h1, h2, h3, h4, _, h5⟩ := dd'
  refine n_write I3 (by rw [e]; exact True.intro) hs ⟨o, h1⟩ (dn_ok ⟨by show 1 ≤ sizeLine; decide, hy, [(c, b, w2)], .cons ⟨rfl, rfl, rz⟩ .nil, o, es, ep, h1, h2, h3, h4, h5⟩)

/-! ### list(d), list(d.values()), list(d.items()) -/
/-- the entries of the dict -/
theorem dic_raw {pins : List (Addr × Obj)} {σ : L2.St} {H : Hp} {s : Shared} {p : Addr} {xs : List (Crew × Addr × V)} (I : Inv X pins σ H s) (e : Rd H p (DnO X.prog X.w p xs)) : ∃ (ys : List (Crew × Addr × Value)) (es : Array DictEntry) (ep : Nat), XY xs ys ∧ s.heap.DictRaw p es ep ∧
    es.toList = ys.map (entryOfKey (ck X.prog X.w)) ∧ es.size = xs.length ∧ xs.length ≤ sizeLine ∧ (p == sysModules) = false := by
  obtain ⟨z, y, ys, rel, o, es, ep, h1, h2, h3, h4, h5⟩ := dn_of I.hok e
  refine ⟨ys, es, ep, rel, ⟨o, h1, h2, h3⟩, h4, ?_, z, y⟩
  rw [← Array.length_toList, h4, List.length_map, ← Paired.length rel]
def rListN (P : Program) (w : World) : List V → Hp → VK → Prop := fun vs H Q => ∃ (p : Addr) (xs : List (Crew × Addr × V)), vs = [.ref p] ∧ Rd H p (DnO P w p xs) ∧ ∀ l, H l = none → Q (.ref l) (upd H l (.lst (xs.map fun x => V.ref x.2.1)))
theorem xy_at {xs : List (Crew × Addr × V)} {ys : List (Crew × Addr × Value)} (r : XY xs ys) {i : Nat} {y : Crew × Addr × Value} (h : ys[i]? = some y) : ∃ x, xs[i]? = some x ∧ x.1 = y.1 ∧ x.2.1 = y.2.1 ∧ RelV x.2.2 y.2.2 := by
  induction r generalizing i with
  | nil => simp at h
  | @cons a b l m hh _ ih =>
    cases i with
    | zero =>
      have e : b = y := by simpa using h
      subst e
      exact ⟨a, rfl, hh⟩
    | succ j => simpa using ih (by simpa using h)
theorem vals_items {P : Nat → V → Prop} : ∀ {vs : List V} {us : List Value}, vs.length = us.length → (∀ (i : Nat) (v : V) (u : Value), vs[i]? = some v → us[i]? = some u → RelV v u) → Vals vs us
  | [], [], _, _ => .nil
  | [], _ :: _, h, _ => by cases h
  | _ :: _, [], h, _ => by cases h
  | v :: vs, u :: us, h, k => .cons (k 0 v u rfl rfl) (vals_items (P := P) (by simpa using h) fun i a b e1 e2 => k (i + 1) a b (by simpa using e1) (by simpa using e2))
theorem call_listN (hc : X.calm = true) : CallR X (.type "list") (rListN X.prog X.w) := by
  intro pins s σ H vs us Q I r h
  obtain ⟨p, xs, rfl, e, q⟩ := h
  obtain ⟨u, rfl, ru⟩ := vals1 r
  cases ru
  obtain ⟨ys, es, ep, rel, hr, hes, hsz, hz, hy⟩ := dic_raw I e
  refine PySem.W.kdl_call (KdlSrc.rawDict (es := es) (ep := ep) hy) (I.ok.hd hc) hr (by omega) fun h' tk acc c hk hS hacc => ?_
  refine ⟨.ref s.heap.objs.size, _, I.laid (o := .lst (xs.map fun x => V.ref x.2.1)) (t' := tk) hk (Nat.le_refl _) ?_, rfl, q _ (I.hok.fresh (Nat.le_refl _))⟩
  refine ⟨by rw [List.length_map]; exact hz, acc.toList, c, ?_, by rw [Array.toArray_toList]; exact hS⟩
  obtain ⟨h1, h2⟩ := hacc
  refine vals_items (P := fun _ _ => True) (by have e0 : acc.toList.length = acc.size := Array.length_toList; rw [List.length_map, e0]; omega) fun i v u e1 e2 => ?_
  rw [Array.getElem?_toList] at e2
  obtain ⟨hi, eu⟩ := h2 i u e2
  have : es[i]? = some es[i] := Array.getElem?_eq_getElem hi
  rw [entry_at hes i] at this
  obtain ⟨y, ey, en⟩ := Option.map_eq_some_iff.mp this
  obtain ⟨x, ex, _, e3, _⟩ := xy_at rel ey
  rw [List.getElem?_map, ex] at e1
  cases e1
  rw [eu, ← en]
  show Value.ref y.2.1 = Value.ref x.2.1
  rw [e3]

/-- list(d.values()) -/
def rValsN (P : Program) (w : World) : V → Hp → VK → Prop := fun x H Q => ∃ (p : Addr) (xs : List (Crew × Addr × V)), x = .ref p ∧ Rd H p (DnO P w p xs) ∧ ∀ l, H l = none → Q (.ref l) (upd H l (.lst (xs.map fun x => x.2.2)))
def tListVals (P : Program) (w : World) (te : TE) : TE := fun σ H Q => te σ H fun x H1 => rValsN P w x H1 Q
theorem pe_listVals {e : Expr} {te : TE} {p apos cpos pos : Pos} (hc : X.calm = true) (he : PE X e te) (hg : Gl X "list") (hm : X.mg "list" = none) (hv : bootBuiltins "list" = some (.type "list")) (hbase : attributeBase e "values" X.env (eval e X.env) = eval e X.env := by rfl) (hline : (apos.endLine == cpos.line) = true := by rfl)
    (hs : starEach [.Call (.Attribute e "values" apos) [] [] cpos] X.env = (false, eval (.Call (.Attribute e "values" apos) [] [] cpos) X.env) :: starEach [] X.env := by rfl) :
    PE X (.Call (.Name "list" p) [.Call (.Attribute e "values" apos) [] [] cpos] [] pos) (tListVals X.prog X.w te) := by
  refine ⟨fun pins s σ H Q I hq => ?_⟩
  refine wpAny_Call_Name_kw (ld_blt I hg hm hv ?_)
  refine PyProof.Rows.callWith_type1 ?_ hs rfl
  rw [hs]
  show wpAny _ _ (spliced ((false, eval (.Call (.Attribute e "values" apos) [] [] cpos) X.env) :: backTo pos (starEach [] X.env))) _ _ s
  refine Calls.spliced_cons ?_
  refine wpAny_Call_method (T := "dict") (id := "dict.values") hbase rfl hline PySem.F.plainAttrs_dict PySem.F.slot_dict_values PySem.F.type_dict_values (thn (he.run pins s σ H _ I hq) fun u s1 ⟨x, H1, I1, rx, d, xs, ex, e1, q⟩ => ?_)
  subst ex
  obtain rfl : u = Value.ref d := rx
  obtain ⟨ys, es, ep, rel, hr, hes, hsz, hz, hy⟩ := dic_raw I1 e1
  have I2 : Inv X pins σ H1 { s1 with heap := s1.heap.push { cls := .type "dict_values", data := .fields #[.ref d] } } := I1.kept (t' := s1.toks) fun b ob q => Heap.get?_push_of_some _ q
  refine ⟨n_type I1 e1, n_noDict I1 e1, ?_⟩
  show wpAny _ _ (callWith cpos (.builtin "dict.values") [.ref d] [] []) _ X.xe s1
  refine method_meetsIn PySem.F.slot_dict_values PySem.F.entry_dict_values rfl (PySem.evalArgs_none ⟨rfl, n_type I1 e1, PySem.F.args_dict_values_1 _, _, meets_dict_values_raw d hy, ⟨es, ep, hr⟩, ?_⟩)
  refine Calls.spliced_nil ?_
  refine PySem.W.kdl_call (KdlSrc.rawValues (r := s1.heap.objs.size) (es := es) (ep := ep)) (I1.ok.hd hc) ⟨⟨_, Heap.get?_push_size _ rfl, rfl, rfl⟩, hr.push _⟩ (by omega) fun h' tk acc c hk hS hacc => ?_
  refine ⟨.ref _, _, I2.laid (o := .lst (xs.map fun x => x.2.2)) (t' := tk) hk (Nat.le_refl _) ?_, rfl, q _ (I2.hok.fresh (Nat.le_refl _))⟩
  refine ⟨by rw [List.length_map]; exact hz, acc.toList, c, ?_, by rw [Array.toArray_toList]; exact hS⟩
  obtain ⟨h1, h2⟩ := hacc
  refine vals_items (P := fun _ _ => True) (by have e0 : acc.toList.length = acc.size := Array.length_toList; rw [List.length_map, e0]; omega) fun i v u e1 e2 => ?_
  rw [Array.getElem?_toList] at e2
  obtain ⟨hi, eu⟩ := h2 i u e2
  have : es[i]? = some es[i] := Array.getElem?_eq_getElem hi
  rw [entry_at hes i] at this
  obtain ⟨y, ey, en⟩ := Option.map_eq_some_iff.mp this
  obtain ⟨x, ex, _, _, e4⟩ := xy_at rel ey
  rw [List.getElem?_map, ex] at e1
  cases e1
  rw [eu, ← en]
  exact e4

/-- objects tracked where they were laid -/
def putL : Hp → List (Addr × HO) → Hp
  | H, [] => H
  | H, e :: r => putL (upd H e.1 e.2) r
theorem putL_off {b : Addr} : ∀ (l : List (Addr × HO)) (H : Hp), b ∉ l.map (·.1) → putL H l b = H b
  | [], _, _ => rfl
  | e :: r, H, h => by
    rw [List.map_cons, List.mem_cons, not_or] at h
    show putL (upd H e.1 e.2) r b = H b
    rw [putL_off r _ h.2, upd_ne h.1]
theorem putL_at : ∀ (l : List (Addr × HO)) (H : Hp), (l.map (·.1)).Nodup → ∀ e ∈ l, putL H l e.1 = some e.2
  | [], _, _, e, he => by cases he
  | x :: r, H, hn, e, he => by
    rw [List.map_cons, List.nodup_cons] at hn
    rcases List.mem_cons.mp he with q | q
    · subst q
      show putL (upd H e.1 e.2) r e.1 = _
      rw [putL_off r _ hn.1, upd_same]
    · exact putL_at r _ hn.2 e q
/-- a tuple that is known to its object, without a dict -/
def PT (H : Hp) (t : Addr) (xs : List V) : Prop := ∃ o, H t = some (.frz o (.tup xs)) ∧ o.dict = none
def rItemsN (P : Program) (w : World) : V → Hp → VK → Prop := fun x H Q => ∃ (d : Addr) (xs : List (Crew × Addr × V)), x = .ref d ∧ Rd H d (DnO P w d xs) ∧
  ∀ (H' : Hp) (p : Addr) (ts : List Addr), Same H H' → H p = none → H' p = some (.lst (ts.map V.ref)) → Paired (fun (t : Addr) (x : Crew × Addr × V) => PT H' t [.ref x.2.1, x.2.2]) ts xs → Q (.ref p) H'
def tListItemsN (P : Program) (w : World) (te : TE) : TE := fun σ H Q => te σ H fun x H1 => rItemsN P w x H1 Q
theorem refs_vals : ∀ as : List Addr, Vals (as.map V.ref) (as.map Value.ref)
  | [] => .nil
  | _ :: as => .cons rfl (refs_vals as)
/-- what is tracked of a pair laid at a -/
def pairO (y : Crew × Addr × Value) (x : Crew × Addr × V) : HO := .frz { cls := .type "tuple", data := .seq #[.ref y.2.1, y.2.2] } (.tup [.ref x.2.1, x.2.2])
def pairL : List Addr → List (Crew × Addr × Value) → List (Crew × Addr × V) → List (Addr × HO)
  | a :: as, y :: ys, x :: xs => (a, pairO y x) :: pairL as ys xs
  | _, _, _ => []
theorem pairL_fst : ∀ (as : List Addr) (ys : List (Crew × Addr × Value)) (xs : List (Crew × Addr × V)), as.length = ys.length → ys.length = xs.length → (pairL as ys xs).map (·.1) = as
  | [], _, _, _, _ => rfl
  | a :: as, [], _, h, _ => by cases h
  | a :: as, y :: ys, [], _, h => by cases h
  | a :: as, y :: ys, x :: xs, h, h' => by
    show a :: _ = a :: as
    rw [pairL_fst as ys xs (Nat.succ.inj h) (Nat.succ.inj h')]
theorem pairL_get : ∀ (as : List Addr) (ys : List (Crew × Addr × Value)) (xs : List (Crew × Addr × V)) (j : Nat) (e : Addr × HO), (pairL as ys xs)[j]? = some e → ∃ a y x, as[j]? = some a ∧ ys[j]? = some y ∧ xs[j]? = some x ∧ e = (a, pairO y x)
  | [], _, _, _, _, h => by simp [pairL] at h
  | a :: as, [], _, _, _, h => by simp [pairL] at h
  | a :: as, y :: ys, [], _, _, h => by simp [pairL] at h
  | a :: as, y :: ys, x :: xs, j, e, h => by
    cases j with
    | zero =>
      have e' : (a, pairO y x) = e := by simpa [pairL] using h
      exact ⟨a, y, x, rfl, rfl, rfl, e'.symm⟩
    | succ j =>
      obtain ⟨a', y', x', h1, h2, h3, h4⟩ := pairL_get as ys xs j e (by simpa [pairL] using h)
      exact ⟨a', y', x', by simpa using h1, by simpa using h2, by simpa using h3, h4⟩
theorem pairL_paired {H : Hp} : ∀ (as : List Addr) (ys : List (Crew × Addr × Value)) (xs : List (Crew × Addr × V)), as.length = ys.length → ys.length = xs.length → (∀ e ∈ pairL as ys xs, H e.1 = some e.2) → Paired (fun (t : Addr) (x : Crew × Addr × V) => PT H t [.ref x.2.1, x.2.2]) as xs
  | [], [], [], _, _, _ => .nil
  | [], _ :: _, _, h, _, _ => by cases h
  | [], [], _ :: _, _, h, _ => by cases h
  | a :: as, [], _, h, _, _ => by cases h
  | a :: as, y :: ys, [], _, h, _ => by cases h
  | a :: as, y :: ys, x :: xs, h, h', k => .cons ⟨_, k (a, pairO y x) (by show _ ∈ (a, pairO y x) :: pairL as ys xs; exact List.mem_cons_self), rfl⟩
      (pairL_paired as ys xs (Nat.succ.inj h) (Nat.succ.inj h') fun e he => k e (by show e ∈ (a, pairO y x) :: pairL as ys xs; exact List.mem_cons_of_mem _ he))
theorem itemsN_laid {pins : List (Addr × Obj)} {σ : L2.St} {H : Hp} {s : Shared} {h' : Heap} {tk : Nat} {xs : List (Crew × Addr × V)} {ys : List (Crew × Addr × Value)} {es : Array DictEntry} {acc : Array Value} {c : Nat} {as : List Addr} (I : Inv X pins σ H s) (hz : xs.length ≤ sizeLine)
    (kv : XY xs ys) (hes : es.toList = ys.map (entryOfKey (ck X.prog X.w))) (hk : ∀ b o, s.heap.get? b = some o → h'.get? b = some o) (hS : h'.get? s.heap.objs.size = some { cls := .type "list", dict := none, data := .seq acc c, slots := #[] })
    (hl : as.length = es.size) (hG : PySem.W.DilG es s.heap.objs.size h' as) (hacc : acc.toList = as.map Value.ref) :
    ∃ H' : Hp, Same H H' ∧ H s.heap.objs.size = none ∧ H' s.heap.objs.size = some (.lst (as.map V.ref)) ∧ Paired (fun (t : Addr) (x : Crew × Addr × V) => PT H' t [.ref x.2.1, x.2.2]) as xs ∧ Inv X pins σ H' { s with heap := h', toks := tk } := by
  have hsz : es.size = ys.length := by rw [← Array.length_toList, hes, List.length_map]
  have lk : xs.length = ys.length := Paired.length kv
  have hfst := pairL_fst as ys xs (by omega) (by omega)
  have hSn : s.heap.objs.size ∉ as := fun z => Nat.lt_irrefl _ (hG.above _ z)
  have nd : as.Nodup := List.Pairwise.imp (fun {a b} (h : a < b) => Nat.ne_of_lt h) hG.rise
  have new : ∀ t ∈ as, H t = none := fun t ht => I.hok.fresh (Nat.le_of_lt (hG.above t ht))
  have newS : H s.heap.objs.size = none := I.hok.fresh (Nat.le_refl _)
  have atP := putL_at (pairL as ys xs) (upd H s.heap.objs.size (.lst (as.map V.ref))) (by rw [hfst]; exact nd)
  have off : ∀ b, b ∉ as → b ≠ s.heap.objs.size → putL (upd H s.heap.objs.size (.lst (as.map V.ref))) (pairL as ys xs) b = H b := fun b h1 h2 => by rw [putL_off _ _ (by rw [hfst]; exact h1), upd_ne h2]
  have low : ∀ b o, s.heap.get? b = some o → b ∉ as ∧ b ≠ s.heap.objs.size := fun b o e => ⟨fun z => absurd (Heap.lt_size e) (Nat.not_lt.mpr (Nat.le_of_lt (hG.above b z))), Nat.ne_of_lt (Heap.lt_size e)⟩
  have kp : ∀ b u, H b = some u → (putL (upd H s.heap.objs.size (.lst (as.map V.ref))) (pairL as ys xs)) b = some u := fun b u e => by
    rw [off b (fun z => by rw [new b z] at e; cases e) (fun z => by rw [z, newS] at e; cases e)]
    exact e
  have eS : putL (upd H s.heap.objs.size (.lst (as.map V.ref))) (pairL as ys xs) s.heap.objs.size = some (.lst (as.map V.ref)) := by rw [putL_off _ _ (by rw [hfst]; exact hSn), upd_same]
  refine ⟨_, kp, newS, eS, pairL_paired as ys xs (by omega) (by omega) atP, ?_⟩
  refine I.call' (ch := []) rfl ⟨fun b o q _ _ _ => hk b o q, fun b o q _ _ _ => ⟨o.slots, hk b o q⟩, fun b o q n _ => ?_, fun b o q _ => ⟨o, hk b o q⟩, fun b xs q => kp b _ q, fun b o u q => kp b _ q, fun b ps q => ⟨#[], by rw [kp b _ q]; simp⟩⟩ (fun b u q => ?_) I.bare fun b z => by simp at z
  · obtain ⟨z1, z2⟩ := low b o q
    rw [off b z1 z2]
    exact n
  · by_cases hb : b ∈ as
    · have hb' : b ∈ (pairL as ys xs).map (·.1) := by rw [hfst]; exact hb
      obtain ⟨e, he, rfl⟩ := List.mem_map.mp hb'
      rw [atP e he] at q
      cases q
      obtain ⟨j, hj⟩ := List.mem_iff_getElem?.mp he
      obtain ⟨a, y, x, g1, g2, g3, rfl⟩ := pairL_get as ys xs j e hj
      obtain ⟨hj2, f3⟩ := hG.pairs j a g1
      have hen : es[j]? = some es[j] := Array.getElem?_eq_getElem hj2
      rw [entry_at hes j, g2] at hen
      have en : entryOfKey (ck X.prog X.w) y = es[j] := by simpa using hen
      obtain ⟨x', ex', _, q2, q3⟩ := xy_at kv g2
      rw [g3] at ex'
      cases ex'
      rw [← en] at f3
      exact ⟨f3, by show 2 ≤ sizeLine; decide, [.ref y.2.1, y.2.2], .cons (by rw [q2]; rfl) (.cons q3 .nil), ⟨_, f3, rfl, _, rfl⟩⟩
    · by_cases hb2 : b = s.heap.objs.size
      · rw [hb2] at q ⊢
        rw [eS] at q
        cases q
        refine ⟨by rw [List.length_map]; omega, acc.toList, c, by rw [hacc]; exact refs_vals as, ?_⟩
        rw [Array.toArray_toList]
        exact hS
      · rw [off b hb hb2] at q
        exact (I.hok b u q).stay (fun d v _ y => hk d v y) (fun d y => kp d _ y) fun d xs y => kp d _ y
theorem pe_listItemsN {e : Expr} {te : TE} {p apos cpos pos : Pos} (hc : X.calm = true) (he : PE X e te) (hg : Gl X "list") (hm : X.mg "list" = none) (hv : bootBuiltins "list" = some (.type "list")) (hbase : attributeBase e "items" X.env (eval e X.env) = eval e X.env := by rfl) (hline : (apos.endLine == cpos.line) = true := by rfl)
    (hs : starEach [.Call (.Attribute e "items" apos) [] [] cpos] X.env = (false, eval (.Call (.Attribute e "items" apos) [] [] cpos) X.env) :: starEach [] X.env := by rfl) :
    PE X (.Call (.Name "list" p) [.Call (.Attribute e "items" apos) [] [] cpos] [] pos) (tListItemsN X.prog X.w te) := by
  refine ⟨fun pins s σ H Q I hq => ?_⟩
  refine wpAny_Call_Name_kw (ld_blt I hg hm hv ?_)
  refine PyProof.Rows.callWith_type1 ?_ hs rfl
  rw [hs]
  show wpAny _ _ (spliced ((false, eval (.Call (.Attribute e "items" apos) [] [] cpos) X.env) :: backTo pos (starEach [] X.env))) _ _ s
  refine Calls.spliced_cons ?_
  refine wpAny_Call_method (T := "dict") (id := "dict.items") hbase rfl hline PySem.F.plainAttrs_dict PySem.F.slot_dict_items PySem.F.type_dict_items (thn (he.run pins s σ H _ I hq) fun u s1 ⟨x, H1, I1, rx, d, xs, ex, e1, q⟩ => ?_)
  subst ex
  obtain rfl : u = Value.ref d := rx
  obtain ⟨ys, es, ep, rel, hr, hes, hsz, hz, hy⟩ := dic_raw I1 e1
  have I2 : Inv X pins σ H1 { s1 with heap := s1.heap.push { cls := .type "dict_items", data := .fields #[.ref d] } } := I1.kept (t' := s1.toks) fun b ob q => Heap.get?_push_of_some _ q
  refine ⟨n_type I1 e1, n_noDict I1 e1, ?_⟩
  show wpAny _ _ (callWith cpos (.builtin "dict.items") [.ref d] [] []) _ X.xe s1
  refine method_meetsIn PySem.F.slot_dict_items PySem.F.entry_dict_items rfl (PySem.evalArgs_none ⟨rfl, n_type I1 e1, PySem.F.args_dict_items_1 _, _, meets_dict_items_raw d hy, ⟨es, ep, hr⟩, ?_⟩)
  refine Calls.spliced_nil ?_
  refine PySem.W.dil_call (es := es) (ep := ep) (I1.ok.hd hc) ⟨_, Heap.get?_push_size _ rfl, rfl, rfl⟩ (hr.push _) (by omega) fun h' tk acc c as hk hS hl hG hacc => ?_
  obtain ⟨H', k1, k2, k3, k4, J⟩ := itemsN_laid (tk := tk) I2 hz rel hes hk hS hl hG hacc
  exact ⟨.ref _, H', J, rfl, q H' _ as k1 k2 k3 k4⟩

/-! ### for k in d: the keys of the locked dict -/
def ItN (P : Program) (w : World) (d : Addr) (o : Obj) (xs : List (Crew × Addr × V)) : It :=
  ⟨fun i H => H d = some (.frz o (DnO P w d xs)) ∧ i < xs.length, fun i H x H' => H' = H ∧ ∃ e, xs[i]? = some e ∧ x = .ref e.2.1, fun i H => H d = some (.frz o (DnO P w d xs)) ∧ xs.length ≤ i⟩
theorem frzN {pins : List (Addr × Obj)} {σ : L2.St} {H : Hp} {s : Shared} {d : Addr} {o : Obj} {xs : List (Crew × Addr × V)} (I : Inv X pins σ H s) (h : H d = some (.frz o (DnO X.prog X.w d xs))) :
    (d == sysModules) = false ∧ s.heap.get? d = some o ∧ o.ExactDict ∧ ∃ es ep, o.data = .dict es ep ∧ es.size = xs.length ∧ ∀ (i : Nat) (e : Crew × Addr × V), xs[i]? = some e → ∃ en, es[i]? = some en ∧ en.key = .ref e.2.1 := by
  obtain ⟨e1, x⟩ := (show ObjOk X.prog X.w H s.heap d (.frz o (DnO X.prog X.w d xs)) from I.hok d _ h)
  obtain ⟨⟨z, y, ys, rel, o', es, ep, h1, h2, h3, h4, h5⟩, _⟩ := (show ObjOk X.prog X.w H s.heap d (DnO X.prog X.w d xs) from x)
  rw [e1] at h1
  cases h1
  refine ⟨y, e1, h2, es, ep, h3, ?_, fun i e he => ?_⟩
  · rw [← Array.length_toList, h4, List.length_map, ← Paired.length rel]
  · obtain ⟨q, hq, _, q2, _⟩ := L2.paired_get rel he
    refine ⟨_, by rw [entry_at h4 i, hq]; rfl, ?_⟩
    show Value.ref q.2.1 = _
    rw [q2]
theorem turn_keysN {P : Program} {w : World} {K : PySem.W.Frag} {tg : Expr} {d : Addr} {o : Obj} {es : Array DictEntry} {ep : Nat} {xs : List (Crew × Addr × V)} (it : Addr) (hod : o.data = .dict es ep) :
    Turn P w K tg (ItN P w d o xs) [it] it (fun i h => h.IsKeyIter it d i xs.length ep) where
  mem := by simp
  obj := fun i h st b hb => by
    have e : b = it := by simpa using hb
    subst e
    obtain ⟨oi, e, c, dd⟩ := st
    exact ⟨oi, e, fun v z => by rw [dd] at z; cases z⟩
  keep := fun i h h' st k => st.at fun oi e => k it (by simp) oi e
  item := by
    intro X hP hw hK hc i pins s σ H E I hf st hg
    subst hP hw hK
    obtain ⟨hd, hi⟩ := hg
    obtain ⟨f0, f1, f2, f3, f4, f5⟩ := hf it (by simp)
    obtain ⟨hs, hgd, hx, es', ep', hdt, hsz, ent⟩ := frzN I hd
    obtain ⟨rfl, rfl⟩ := dict_ep hod hdt
    obtain ⟨e0, he0⟩ : ∃ e, xs[i]? = some e := ⟨xs[i], List.getElem?_eq_getElem hi⟩
    obtain ⟨en, hen, hkey⟩ := ent i e0 he0
    refine next_key_item st hgd hdt hsz hen fun h' st' sb => ?_
    have I1 : Inv X pins σ H { s with heap := h' } := I.turned (t' := s.toks) (fun b ob hb e => (sb.2 b hb).trans e) f0 f1 f3 f4 f5
    obtain ⟨oi, e, c, dd⟩ := id st'
    exact ⟨en.key, rfl, go_of (s := { s with heap := h' }) e c dd (by decide) ⟨.ref e0.2.1, H, I1, hkey, ⟨rfl, e0, he0, rfl⟩, st', fun b hb => (hf b hb).1⟩⟩
  done := by
    intro X hP hw hK hc i pins s σ H E I hf st hg
    subst hP hw hK
    obtain ⟨hd, hi⟩ := hg
    obtain ⟨f0, f1, f2, f3, f4, f5⟩ := hf it (by simp)
    obtain ⟨hs, hgd, hx, es', ep', hdt, hsz, ent⟩ := frzN I hd
    obtain ⟨rfl, rfl⟩ := dict_ep hod hdt
    exact next_key_end (I.ok.hd hc) st hgd hdt hsz hi fun h' eb => ⟨rfl, I.turned (t' := s.toks) (fun b ob hb e => eb b ob hb e) f0 f1 f3 f4 f5⟩
  self := fun A i s Q E st h => by
    refine wpAny_pyIter_slot st.typeIs PySem.F.slot_dict_keyiterator_iter (wpAny_call_entry PySem.F.slot_dict_keyiterator_iter st.typeIs PySem.F.entry_dict_keyiterator_iter ?_ (PySem.F.args_dict_keyiterator_iter_1 _))
    show wpAny _ _ (ret (.ref it)) _ _ s
    exact wpAny_pure ⟨_, rfl, "dict_keyiterator", _, st.typeIs, PySem.F.slot_dict_keyiterator_next.lookup, h⟩
def iKeysN (P : Program) (w : World) (td : TE) : TI := fun σ H R => td σ H fun x H1 => ∃ d o xs, x = .ref d ∧ H1 d = some (.frz o (DnO P w d xs)) ∧ R (ItN P w d o xs) H1
theorem pi_keysN {tg e : Expr} {td : TE} (he : PE X e td) : PI X tg e (iKeysN X.prog X.w td) := by
  refine ⟨fun pins s σ H R I h => ?_⟩
  refine thn (he.run pins s σ H _ I h) fun u s1 ⟨x, H1, I1, rx, d, o, xs, ex, hd, q⟩ => ?_
  subst ex
  obtain rfl : u = Value.ref d := rx
  obtain ⟨hs, hgd, hx, es, ep, hdt, hsz, ent⟩ := frzN I1 hd
  refine iter_keys hs hgd hx hdt (pi_one (tk := s1.toks) I1 _ (turn_keysN _ hdt) ⟨_, Heap.get?_push_size _ rfl, rfl, ?_⟩ q)
  rw [hsz] <;> rfl
end
end Pk
/-! Pk, part E: dict(pairs), a dict by a comprehension. -/
namespace Pk
open PySem PySem.Spec PyProof.Rows L2

section
variable {X : Cx}
/-! ### dict(t), t a tuple of pairs (crew, value) -/
def mergeX (xs more : List (Crew × Addr × V)) : List (Crew × Addr × V) := more.foldl (fun acc e => putX acc e.1 e.2.1 e.2.2) xs
theorem xy_merge : ∀ {more : List (Crew × Addr × V)} {rs : List (Crew × Addr × Value)} {xs : List (Crew × Addr × V)} {ys : List (Crew × Addr × Value)}, XY more rs → XY xs ys → XY (mergeX xs more) (storedAllH ys rs) := by
  intro more rs xs ys r
  induction r generalizing xs ys with
  | nil => intro q; exact q
  | @cons p q ps qs h t ih =>
    intro r0
    refine ih ?_
    show XY (putX xs p.1 p.2.1 p.2.2) (storedH ys q.1 q.2.1 q.2.2)
    rw [← h.1, ← h.2.1]
    exact xy_put r0 h.2.2
theorem mergeX_le : ∀ (more xs : List (Crew × Addr × V)), (mergeX xs more).length ≤ xs.length + more.length
  | [], xs => by show xs.length ≤ xs.length + 0; omega
  | e :: r, xs => by
    have h1 := mergeX_le r (putX xs e.1 e.2.1 e.2.2)
    have h2 := putX_le xs e.1 e.2.1 e.2.2
    show (mergeX (putX xs e.1 e.2.1 e.2.2) r).length ≤ _
    rw [List.length_cons]; omega
def mergeC (kvs more : List (Crew × PyData)) : List (Crew × PyData) := more.foldl (fun acc e => put acc e.1 e.2) kvs
theorem dkv_merge {H : Hp} : ∀ {more : List (Crew × PyData)} {ms : List (Crew × Addr × V)} {kvs : List (Crew × PyData)} {xs : List (Crew × Addr × V)}, DKV H more ms → DKV H kvs xs → DKV H (mergeC kvs more) (mergeX xs ms) := by
  intro more ms kvs xs r
  induction r generalizing kvs xs with
  | nil => intro q; exact q
  | @cons p q ps qs h t ih =>
    intro r0
    refine ih ?_
    show DKV H (put kvs p.1 p.2) (putX xs q.1 q.2.1 q.2.2)
    rw [← h.1]
    exact dkv_put r0 h.2.1 h.2.2
/-- the argument: pairs' tuples ts; ms: the crews, their tuples, the values -/
def rDictT (K : PySem.W.Frag) (P : Program) (w : World) : List V → Hp → VK → Prop := fun vs H Q => ∃ (a : Addr) (ts : List Addr) (ms : List (Crew × Addr × V)), vs = [.ref a] ∧ PT H a (ts.map V.ref) ∧
  Paired (fun t e => PT H t [.ref e.2.1, e.2.2] ∧ Dd H e.1.d (.ref e.2.1)) ts ms ∧ ∀ p, H p = none → Q (.ref p) (upd H p (DnO P w p (mergeX [] ms)))
theorem call_dictT (hu : X.A.units + 16 < cLine) (hcalm : X.calm = true) : CallR X (.type "dict") (rDictT X.K X.prog X.w) := by
  intro pins s σ H vs us Q I r h
  obtain ⟨a, ts, ms, rfl, ⟨oa, ha, hdd⟩, hp, q⟩ := h
  obtain ⟨u, rfl, ru⟩ := vals1 r
  cases ru
  obtain ⟨ho, hz, its, rv, hT⟩ := (show ObjOk X.prog X.w H s.heap a (.frz oa (.tup (ts.map V.ref))) from I.hok a _ ha)
  have ei := refs_at rv
  subst ei
  obtain ⟨ob, ho', hc, na, hd⟩ := hT
  rw [ho] at ho'
  cases ho'
  -- the pairs' values
  have key : ∀ {ts : List Addr} {ms : List (Crew × Addr × V)}, Paired (fun t (e : Crew × Addr × V) => PT H t [.ref e.2.1, e.2.2] ∧ Dd H e.1.d (.ref e.2.1)) ts ms →
      ∃ rs : List (Crew × Addr × Value), XY ms rs ∧ rs.length = ts.length ∧ ∀ (j : Nat) (y : Crew × Addr × Value), rs[j]? = some y → ∃ t, ts[j]? = some t ∧ s.heap.IsTuple t #[.ref y.2.1, y.2.2] ∧ (ck X.prog X.w).is s.heap y.1 y.2.1 := by
    intro ts ms r
    induction r with
    | nil => exact ⟨[], .nil, rfl, fun j y e => by simp at e⟩
    | @cons t e l1 l2 hh _ ih =>
      obtain ⟨rs, x1, x2, x3⟩ := ih
      obtain ⟨⟨op, hpt, _⟩, hcr⟩ := hh
      obtain ⟨_, _, it2, rv2, o2, g1, g2, n2, g3⟩ := (show ObjOk X.prog X.w H s.heap t (.frz op (.tup [.ref e.2.1, e.2.2])) from I.hok t _ hpt)
      obtain ⟨u1, u2, rfl, r1, r2⟩ := vals2 rv2
      cases r1
      refine ⟨(e.1, e.2.1, u2) :: rs, .cons ⟨rfl, rfl, r2⟩ x1, by rw [List.length_cons, List.length_cons, x2], fun j y ey => ?_⟩
      cases j with
      | zero =>
        have e' : (e.1, e.2.1, u2) = y := by simpa using ey
        subst e'
        exact ⟨t, rfl, ⟨o2, g1, g2, n2, by simpa using g3⟩, crew_is I hcr⟩
      | succ j =>
        obtain ⟨t', h1, h2, h3⟩ := x3 j y (by simpa using ey)
        exact ⟨t', by simpa using h1, h2, h3⟩
  obtain ⟨rs, hxy, hlen, hat⟩ := key hp
  have hm := Paired.length hp
  have hsz : rs.length ≤ sizeLine := by rw [List.length_map] at hz; omega
  · refine call_dict_pairsH (knd := ck X.prog X.w) (ps := rs) (PairArg.tuple a (ts.map Value.ref).toArray (fun j => ts.getD j 0) (rs.map fun y => (Value.ref y.2.1, y.2.2))) (I.ok.hd hcalm) (show X.A.units + 1 + 1 + 8 < cLine by omega)
      ⟨⟨oa, na, ho, hc, hdd, hd⟩, by rw [List.size_toArray, List.length_map, List.length_map, hlen], fun j k v e => ?_⟩ ⟨by rw [List.length_map], fun i kk v e => ?_⟩ (fun h' hk x hx => ?_) (by rw [List.length_map]; exact hsz) fun h' tk dd hk => ?_
    · rw [List.getElem?_map] at e
      obtain ⟨y, ey, en⟩ := Option.map_eq_some_iff.mp e
      cases en
      obtain ⟨t, h1, h2, _⟩ := hat j y ey
      have et : ts.getD j 0 = t := by rw [List.getD_eq_getElem?_getD, h1]; rfl
      show (ts.map Value.ref).toArray[j]? = some (.ref (ts.getD j 0)) ∧ PairAt s.heap (ts.getD j 0) _ _
      rw [et]
      exact ⟨by simp [h1], .inl h2⟩
    · have e' : (rs.map fun y => (Value.ref y.2.1, y.2.2))[i]? = some (kk, v) := e
      rw [List.getElem?_map] at e'
      obtain ⟨y, ey, en⟩ := Option.map_eq_some_iff.mp e'
      cases en
      exact ⟨y.1, y.2.1, ey, rfl⟩
    · obtain ⟨j, hj⟩ := List.mem_iff_getElem?.mp hx
      obtain ⟨t, _, _, h3⟩ := hat j x hj
      exact ⟨NestedIs.at (fun b o vs n hb _ => hk b o (Nat.ne_of_lt (Heap.lt_size hb)) (by simp) hb) _ _ h3.1, h3.2⟩
    · have hmz : (s.heap.objs.size == sysModules) = false := beq_eq_false_iff_ne.mpr (Nat.ne_of_gt I.big)
      have hle := mergeX_le ms []
      have l3 := Paired.length hxy
      obtain ⟨o, es, ep, g1, g2, g3, g4, _, g5⟩ := dd
      refine ⟨.ref s.heap.objs.size, _, I.laid (o := DnO X.prog X.w s.heap.objs.size (mergeX [] ms)) (t' := tk) (fun b ob e => hk b ob (by simp) e) (Nat.le_refl _) (dn_ok ⟨?_, hmz, _, xy_merge hxy .nil, o, es, ep, g1, g2, g3, g4, g5⟩), rfl, q _ (I.hok.fresh (Nat.le_refl _))⟩
      rw [List.length_nil] at hle
      omega
end
end Pk
/-! Pk, part F: tuples that are known to their objects. -/
namespace Pk
open PySem PySem.Spec PyProof.Rows L2

/-- a new plain tuple: what is wanted of it -/
def NewT (H : Hp) (xs : List V) (Q : VK) : Prop := ∀ (p : Addr) (o : Obj), H p = none → o.dict = none → Q (.ref p) (upd H p (.frz o (.tup xs)))
section
variable {X : Cx}
theorem lay_pt {pins : List (Addr × Obj)} {σ : L2.St} {H : Hp} {s : Shared} {ys : List V} {its : List Value} {Q : VK} (I : Inv X pins σ H s) (hz : ys.length ≤ sizeLine) (r : Vals ys its) (q : NewT H ys Q) :
    EP X pins σ Q (.ref s.heap.objs.size) { s with heap := s.heap.push { cls := .type "tuple", data := .seq its.toArray } } :=
  ⟨.ref s.heap.objs.size, _, I.laid (t' := s.toks) (o := .frz { cls := .type "tuple", data := .seq its.toArray } (.tup ys)) (fun b ob q => Heap.get?_push_of_some _ q) (Nat.le_refl _)
    ⟨Heap.get?_push_size _ rfl, hz, its, r, IsTup.new _ _⟩, rfl, q _ _ (I.hok.fresh (Nat.le_refl _)) rfl⟩
/-- (a, b, ..) -/
def tTupP (t : TA) : TE := fun σ H Q => t σ H fun xs H1 => xs.length ≤ sizeLine ∧ NewT H1 xs Q
theorem pe_tupP {es : List Expr} {t : TA} {pos : Pos} {x1} (h : PA X es t) : PE X (.Tuple es x1 pos) (tTupP t) := by
  refine ⟨fun pins s σ H Q I hq => ?_⟩
  exact wpAny_Tuple_spliced (thn (h.run pos pins s σ H _ I hq) fun us s1 ⟨xs, H1, I1, r, z, q⟩ => ⟨by rw [← r.length]; exact z, lay_pt I1 z r q⟩)
/-- tuple(x): of a list a new one, of a tuple itself -/
def rTupOf (K : PySem.W.Frag) : List V → Hp → VK → Prop := fun vs H Q => ∃ p ys, vs = [.ref p] ∧ ((SqL K H p ys ∧ NewT H ys Q) ∨ (SqT K H p ys ∧ Q (.ref p) H))
theorem call_tupOf : CallR X (.type "tuple") (rTupOf X.K) := by
  intro pins s σ H vs us Q I r h
  obtain ⟨p, ys, rfl, h⟩ := h
  obtain ⟨u, rfl, rx⟩ := vals1 r
  cases rx
  rcases h with ⟨hq, q⟩ | ⟨hq, q⟩
  · obtain ⟨its, r', pl, hz⟩ := I.list hq
    have hlen := r'.length
    refine call_tuple_list pl.isList (fun h' kp => ?_) (by simp only [List.size_toArray] <;> omega)
    exact lay_pt (I.kept (t' := s.toks) kp) hz r' q
  · obtain ⟨its, r', pl, hz⟩ := I.tuple hq
    exact call_tuple_same pl ⟨.ref p, H, I, rfl, q⟩
/-- t + u -/
def rCatP (K : PySem.W.Frag) : R2 := fun x y H Q => ∃ a b xs ys, x = .ref a ∧ y = .ref b ∧ SqT K H a xs ∧ SqT K H b ys ∧ xs.length + ys.length ≤ sizeLine ∧
  (xs = [] → Q (.ref b) H) ∧ (xs ≠ [] → ys = [] → Q (.ref a) H) ∧ (xs ≠ [] → ys ≠ [] → NewT H (xs ++ ys) Q)
theorem op_catP : OpR X (binaryOp .Add) (rCatP X.K) := by
  intro pins s σ H x y v u Q I rx ry h
  obtain ⟨a, b, xs, ys, rfl, rfl, ha, hb, hz, q0, q1, q2⟩ := h
  cases rx
  cases ry
  obtain ⟨its, r1, p1, _⟩ := I.tuple ha
  obtain ⟨its2, r2, p2, _⟩ := I.tuple hb
  by_cases hx : xs = []
  · subst hx
    cases r1
    exact cat_tup0 p1 p2 ⟨.ref b, H, I, rfl, q0 rfl⟩
  · refine HT.cat_tup p1 p2 (fun z => hx (r1.nil_iff.mp z)) (fun z => ⟨.ref a, H, I, rfl, q1 hx (r2.nil_iff.mp z)⟩) (fun z => ?_) (by rw [← r1.length, ← r2.length]; exact hz)
    exact lay_pt I (by rw [List.length_append]; exact hz) (r1.append r2) (q2 hx fun w => z (r2.nil_iff.mpr w))
/-- t[lo:hi] -/
def rSlP (K : PySem.W.Frag) : V → Option Int → Option Int → Hp → VK → Prop := fun x lo hi H Q => ∃ a xs, x = .ref a ∧ SqT K H a xs ∧
  (HT.sIx xs.length 0 lo = 0 ∧ HT.sIx xs.length xs.length hi = xs.length → Q (.ref a) H) ∧ (¬ (HT.sIx xs.length 0 lo = 0 ∧ HT.sIx xs.length xs.length hi = xs.length) → NewT H (cutV xs lo hi) Q)
theorem sl_tupP : SlR X (rSlP X.K) := by
  intro pins s σ H x v vl vu lo hi sl Q I rx hs pl pu h
  obtain ⟨a, xs, rfl, hx, q1, q2⟩ := h
  cases rx
  obtain ⟨its, r, ht, hz⟩ := I.tuple hx
  have hlen : its.toArray.size = xs.length := by rw [List.size_toArray]; exact r.length.symm
  refine ⟨"tuple", _, PyProof.Rows.slot_tuple_getitem.lookup, ht.typeIs, ?_⟩
  by_cases hw : HT.sIx xs.length 0 lo = 0 ∧ HT.sIx xs.length xs.length hi = xs.length
  · exact getItem_tuple_whole ht hs pl pu (by rw [hlen]; exact hw) ⟨.ref a, H, I, rfl, q1 hw⟩
  · refine HT.getItem_tuple_cut ht hs pl pu (by rw [hlen]; exact hw) ?_ (by rw [hlen]; exact hz)
    rw [hlen]
    exact lay_pt I (Nat.le_trans (cutV_length xs lo hi) hz) ((r.drop (HT.sIx xs.length 0 lo)).take (HT.sIx xs.length xs.length hi - HT.sIx xs.length 0 lo)) (q2 hw)
end

/-! ### t[::-1] -/
theorem fmap_congr {α β : Type} {f g : α → Option β} : ∀ {l : List α}, (∀ x ∈ l, f x = g x) → l.filterMap f = l.filterMap g
  | [], _ => rfl
  | x :: l, h => by
    rw [List.filterMap_cons, List.filterMap_cons, h x List.mem_cons_self, fmap_congr fun y hy => h y (List.mem_cons_of_mem _ hy)]
section
variable {prog : Program} {w : World} {A : Around} {E : Value → Shared → Prop} {s : Shared}
theorem slice_back {sl : Addr} {vl vu vs : Value} {n : Nat} {Q : Int × Int × Nat → Shared → Prop} (hs : s.heap.IsSliceOf sl vl vu vs) (pl : IsPart vl none) (pu : IsPart vu none) (ps : IsPart vs (some (-1)))
    (h : Q ((n : Int) - 1, -1, n) s) : wpAny (model prog w) A (Builtin.Slice.sliceApplied (.ref sl) (pure (n : Int))) Q E s := by
  obtain ⟨os, hos, hcs, hds⟩ := id hs
  unfold Builtin.Slice.sliceApplied Builtin.Slice.sliceFields
  refine wpAny_bind (wpAny_bind (wpAny_field hos hds (x := vl) rfl (wpAny_bind (wpAny_field hos hds (x := vu) rfl (wpAny_bind (wpAny_field hos hds (x := vs) rfl (wpAny_pure ?_)))))))
  refine wpAny_bind (HT.slicePart_ ps ?_)
  show wpAny _ _ (if ((-1 : Int) == 0) = true then _ else _) _ _ s
  rw [if_neg (by decide)]
  refine wpAny_bind (HT.slicePart_ pl (wpAny_bind (HT.slicePart_ pu (wpAny_bind (wpAny_pure ?_)))))
  have e1 : Builtin.Slice.sliceAdjust none none (-1) (n : Int) = ((n : Int) - 1, -1) := by
    first | rfl | simp [Builtin.Slice.sliceAdjust]
  have e2 : Builtin.Slice.slicePlaces ((n : Int) - 1) (-1) (-1) = n := by
    unfold Builtin.Slice.slicePlaces
    simp
    omega
  show wpAny _ _ (match Builtin.Slice.sliceAdjust none none (-1) (n : Int) with | (lo, hi) => pure (lo, (-1 : Int), Builtin.Slice.slicePlaces lo hi (-1))) _ _ s
  rw [e1]
  show wpAny _ _ (pure ((n : Int) - 1, (-1 : Int), Builtin.Slice.slicePlaces ((n : Int) - 1) (-1) (-1))) _ _ s
  rw [e2]
  exact wpAny_pure h

theorem pick_back (xs : Array Value) : ((List.range xs.size).filterMap fun (k : Nat) => xs[(((xs.size : Nat) : Int) - 1 + (k : Int) * (-1)).toNat]?).toArray = xs.toList.reverse.toArray := by
  have e : ((List.range xs.size).filterMap fun (k : Nat) => xs[(((xs.size : Nat) : Int) - 1 + (k : Int) * (-1)).toNat]?) = (((List.range xs.size).map fun k => xs.size - 1 - k)).filterMap (xs[·]?) := by
    rw [List.filterMap_map]
    refine fmap_congr fun k hk => ?_
    have := List.mem_range.mp hk
    show _ = xs[xs.size - 1 - k]?
    congr 1
    omega
  rw [e, PySem.W.krv_range, List.filterMap_reverse, PySem.W.krv_all]
theorem getItem_tuple_back {t sl : Addr} {items : Array Value} {vl vu vs : Value} {Q : Value → Shared → Prop} (ht : IsTup s.heap t items) (hs : s.heap.IsSliceOf sl vl vu vs) (pl : IsPart vl none) (pu : IsPart vu none) (ps : IsPart vs (some (-1)))
    (h : Q (.ref s.heap.objs.size) { s with heap := s.heap.push { cls := .type "tuple", data := .seq items.toList.reverse.toArray } }) (hz : items.size ≤ sizeLine) : wpAny (model prog w) A (getItem (.ref t) (.ref sl)) Q E s := by
  have hok : sizeOk (.seq items.toList.reverse.toArray) := by
    show items.toList.reverse.toArray.size ≤ sizeLine
    rw [List.size_toArray, List.length_reverse, Array.length_toList]
    exact hz
  obtain ⟨os, hos, hcs, hds⟩ := id hs
  have hTs : s.TypeIs (.ref sl) "slice" := ⟨os, hos, hcs⟩
  unfold getItem
  try with_reducible refine wpAny_holding ?_
  first | refine wpAny_bind (wpAny_pure ?_) | skip
  refine wpAny_bind (wpAny_sequenceKey ht.typeIs (by decide) ?_)
  refine wpAny_bind (wpAny_callSpecial?_slot (name := Str.ofString "__getitem__") ht.typeIs PyProof.Rows.slot_tuple_getitem
    (wpAny_call_entry PyProof.Rows.slot_tuple_getitem ht.typeIs entry_tuple_getitem ?_ (args_tuple_getitem _ _)))
  show wpAny _ _ (Builtin.Tuple.tupleItemsOf (.ref t) >>= _) _ _ s
  refine wpAny_bind (tupleItemsOf_ ht ?_)
  refine wpAny_bind (wpAny_typeOf hTs ?_)
  rw [if_pos (by decide)]
  refine wpAny_bind (slice_back hs pl pu ps ?_)
  have hno : ¬ ((((items.size : Nat) : Int) - 1 == 0 && (-1 : Int) == 1 && items.size == items.size) = true) := by
    simp
  show wpAny _ _ (if (((items.size : Nat) : Int) - 1 == 0 && (-1 : Int) == 1 && items.size == items.size) = true then _ else _) _ _ s
  rw [if_neg hno, pick_back]
  first
    | exact wpAny_bind (m := Builtin.Tuple.tupleExact _) (wpAny_newObj_type (wpAny_pure ⟨_, rfl, wpAny_pure h⟩) hok)
    | exact wpAny_bind (m := Builtin.Tuple.tupleExact _) (wpAny_newObj_type (wpAny_bind (wpAny_pure (wpAny_pure ⟨_, rfl, wpAny_pure h⟩))) hok)
    | exact wpAny_bind (wpAny_bind (m := Builtin.Tuple.tupleExact _) (wpAny_newObj_type (wpAny_pure (wpAny_pure ⟨_, rfl, wpAny_pure h⟩)) hok))
end
section
variable {X : Cx}
/-- x[::-1], of a list or a tuple -/
def tRevU (K : PySem.W.Frag) (te : TE) : TE := fun σ H Q => te σ H fun x H1 => ∃ a xs, x = .ref a ∧ ((SqL K H1 a xs ∧ ∀ p, H1 p = none → Q (.ref p) (upd H1 p (.lst xs.reverse))) ∨ (SqT K H1 a xs ∧ NewT H1 xs.reverse Q))
theorem pe_revU {e : Expr} {te : TE} {k : Nat} {p1 p2 p3 pos : Pos} (he : PE X e te) : PE X (.Subscript e (.Slice none none (some (.UnaryOp .USub (.Constant (.int 1) k p1) p2)) p3) pos) (tRevU X.K te) := by
  refine ⟨fun pins s σ H Q I h => ?_⟩
  refine Subscript_ (thn (he.run pins s σ H _ I h) fun v s1 ⟨x, H1, I1, r1, q1⟩ => ?_)
  obtain ⟨a, xs, ex, q⟩ := q1
  subst ex
  cases r1
  have hst : PO X (some (.UnaryOp .USub (.Constant (.int 1) k p1) p2)) (tPart (tUn (rU fun i => .int (-i)) (tC (.int 1)))) := po_some (pe_un un_neg pe_int)
  refine wpAny_Slice (thn (po_none.run pins s1 σ H1 (fun o H2 => o = none ∧ H2 = H1) I1 ⟨rfl, rfl⟩) fun vl s2 ⟨l, H2, I2, pl, el, e2⟩ => ?_)
  subst el e2
  refine thn (po_none.run pins s2 σ H2 (fun o H3 => o = none ∧ H3 = H2) I2 ⟨rfl, rfl⟩) fun vu s3 ⟨u, H3, I3, pu, eu, e3⟩ => ?_
  subst eu e3
  refine thn (hst.run pins s3 σ H3 (fun o H4 => o = some (-1) ∧ H4 = H3) I3 ⟨1, rfl, -1, rfl, rfl, rfl⟩) fun vs s4 ⟨o, H4, I4, ps, eo, e4⟩ => ?_
  subst eo e4
  have I5 : Inv X pins σ H4 { s4 with heap := s4.heap.push { cls := .type "slice", data := .fields #[vl, vu, vs] } } := I4.kept (t' := s4.toks) fun b ob q => Heap.get?_push_of_some _ q
  show wpAny (model X.prog X.w) X.A (subscriptTail e (.Slice none none (some (.UnaryOp .USub (.Constant (.int 1) k p1) p2)) p3) (.ref a) (.ref s4.heap.objs.size)) (EP X pins σ Q) X.xe { s4 with heap := s4.heap.push { cls := .type "slice", data := .fields #[vl, vu, vs] } }
  rcases q with ⟨hx, q⟩ | ⟨hx, q⟩
  · obtain ⟨its, r, ht, hz⟩ := I5.list hx
    have hlen := r.length
    refine tail_any (ops := [.ref a, .ref s4.heap.objs.size]) ht.isList.typeIs (PySem.slot_list_getitem.lookup) ?_ (by with_unfolding_all rfl)
    refine wpAny_getItem_list_slice ht.isList (Heap.IsSliceOf.new _ vl vu vs) pl pu ps (by decide) ?_ (by rw [List.size_toArray]; omega)
    rw [PySem.W.krv_pick]
    refine ⟨.ref _, _, I5.laid (t' := s4.toks) (o := .lst xs.reverse) (fun b ob q => Heap.get?_push_of_some _ q) (Nat.le_refl _) ?_, rfl, q _ (I5.hok.fresh (Nat.le_refl _))⟩
    exact ⟨by rw [List.length_reverse]; exact hz, _, 0, r.reverse, Heap.get?_push_size _ rfl⟩
  · obtain ⟨its, r, ht, hz⟩ := I5.tuple hx
    have hlen := r.length
    refine tail_any (ops := [.ref a, .ref s4.heap.objs.size]) ht.typeIs (PyProof.Rows.slot_tuple_getitem.lookup) ?_ (by with_unfolding_all rfl)
    refine getItem_tuple_back ht (Heap.IsSliceOf.new _ vl vu vs) pl pu ps ?_ (by rw [List.size_toArray]; omega)
    exact lay_pt I5 (by rw [List.length_reverse]; exact hz) r.reverse q
end
end Pk
/-! Pk, part G: a tuple times a small number. -/
namespace Pk
open PySem PySem.Spec PyProof.Rows L2
open AutoSeq1 (wpAny_loadPart')
theorem tuple_mul1 (l : Addr) (items : Array Value) (n : Nat) (dd : Option Addr) (sl : Array (Option Value)) (u : Tok) :
    Meets (Builtin.«tuple.__mul__» ⟨[.ref l, .int 1 u], []⟩) (fun _ R s => s.heap.get? l = some { cls := .type "tuple", dict := dd, data := .seq items n, slots := sl } ∧ R (.ok (.ret (Value.ref l))) s) :=
  .of_wp fun prog w A R s h => by
    obtain ⟨hp, g, d, tk, os⟩ := s
    obtain ⟨hl, h⟩ := h
    have f1 := AutoSeq1.idx_int
    have c0 : (decide ((1 : Int) < -(2 ^ 63)) || decide ((1 : Int) ≥ 2 ^ 63)) = false := by decide
    have c1 : (items.isEmpty || (1 : Int) == 1) = true := by simp
    wp_walk using wpAny_loadPart' hl
    repeat (first
      | (refine wpAny_ite_false (decide_eq_false (by rw [c0]; exact Bool.false_ne_true)) ?_; wp_walk using wpAny_loadPart' hl)
      | (refine wpAny_ite_true (decide_eq_true c1) ?_; wp_walk using wpAny_loadPart' hl)
      | (refine wpAny_ite_true (decide_eq_true rfl) ?_; wp_walk using wpAny_loadPart' hl))
    all_goals exact ⟨_, rfl, h⟩
theorem tuple_mul0 (l : Addr) (items : Array Value) (n : Nat) (dd : Option Addr) (sl : Array (Option Value)) (u : Tok) (hi : items.isEmpty = false) :
    Meets (Builtin.«tuple.__mul__» ⟨[.ref l, .int 0 u], []⟩) (fun _ R s => s.heap.get? l = some { cls := .type "tuple", dict := dd, data := .seq items n, slots := sl } ∧
      R (.ok (.ret (Value.ref s.heap.objs.size))) { s with heap := s.heap.push { cls := Value.type "tuple", data := Data.seq #[] } }) :=
  .of_wp fun prog w A R s h => by
    obtain ⟨hp, g, d, tk, os⟩ := s
    obtain ⟨hl, h⟩ := h
    have f1 := AutoSeq1.idx_int
    have c0 : (decide ((0 : Int) < -(2 ^ 63)) || decide ((0 : Int) ≥ 2 ^ 63)) = false := by decide
    have c1 : (items.isEmpty || (0 : Int) == 1) = false := by rw [hi]; rfl
    have c2 : (decide ((0 : Int) ≤ 0) || items.isEmpty) = true := by simp
    wp_walk using wpAny_loadPart' hl
    repeat (first
      | (refine wpAny_ite_false (decide_eq_false (by rw [c0]; exact Bool.false_ne_true)) ?_; wp_walk using wpAny_loadPart' hl)
      | (refine wpAny_ite_false (decide_eq_false (by rw [c1]; exact Bool.false_ne_true)) ?_; wp_walk using wpAny_loadPart' hl)
      | (refine wpAny_ite_true (decide_eq_true c2) ?_; wp_walk using wpAny_loadPart' hl))
    all_goals exact ⟨_, rfl, h⟩
section
variable {X : Cx}
/-- a tuple times a small number -/
def rRepP (K : PySem.W.Frag) : R2 := fun x y H Q => ∃ l k xs, x = .ref l ∧ y = .int k ∧ SqT K H l xs ∧ xs ≠ [] ∧ 0 ≤ k ∧ k ≤ 1000 ∧ xs.length ≤ 1000 ∧ (k = 0 → NewT H [] Q) ∧ (k = 1 → Q (.ref l) H) ∧ (2 ≤ k → NewT H (List.replicate k.toNat xs).flatten Q)
theorem op_repP : OpR X (binaryOp .Mult) (rRepP X.K) := by
  intro pins s σ H x y v u Q I rx ry h
  obtain ⟨l, k, xs, rfl, rfl, hT, hne, h0, h2, hz, q0, q1, q⟩ := h
  cases rx
  obtain ⟨t, rfl⟩ := ry
  obtain ⟨its, r, ⟨⟨cls, dd, data, sl⟩, ho, hc, n, hd⟩, hs⟩ := I.tuple hT
  simp only at hc hd
  subst hc hd
  have hle : its.length = xs.length := r.length.symm
  have hn : its ≠ [] := fun e => hne (by
    rw [e] at hle
    exact List.eq_nil_of_length_eq_zero hle.symm)
  have hi : its.toArray.isEmpty = false := by
    cases its with
    | nil => exact absurd rfl hn
    | cons a b => rfl
  have go : ∀ {R : Value → Shared → Prop}, wpAny (model X.prog X.w) X.A (call (.builtin "tuple.__mul__") [.ref l, .int k t]) R X.xe s → wpAny (model X.prog X.w) X.A (binaryOp .Mult (.ref l) (.int k t)) R X.xe s := fun h =>
    wpAny_binaryOp_repeat_ref (T := "tuple") (U := "int") (by decide) ⟨_, ho, rfl⟩ (fun s' => typeIs_int s' k t) noFill_tuple_mul PySem.F.fills_int_mul PySem.F.slot_int_rmul repeat_tuple PySem.F.slot_int_index.lookup
      (call_meets PySem.F.slot_int_rmul (typeIs_int s k t) PySem.F.entry_int_rmul (PySem.F.args_int_rmul_2 _ _) (int_rmul_tuple k t l its.toArray n dd sl) ⟨ho, rfl, ⟨_, ho, rfl⟩, h⟩)
  by_cases k0 : k = 0
  · subst k0
    exact go (call_meets PySem.F.slot_tuple_mul ⟨_, ho, rfl⟩ PySem.F.entry_tuple_mul (PySem.F.args_tuple_mul_2 _ _) (tuple_mul0 l its.toArray n dd sl t hi) ⟨ho, lay_pt I (Nat.zero_le _) .nil (q0 rfl)⟩)
  by_cases k1 : k = 1
  · subst k1
    exact go (call_meets PySem.F.slot_tuple_mul ⟨_, ho, rfl⟩ PySem.F.entry_tuple_mul (PySem.F.args_tuple_mul_2 _ _) (tuple_mul1 l its.toArray n dd sl t) ⟨ho, .ref l, H, I, rfl, q1 rfl⟩)
  have k2 : 2 ≤ k := by omega
  have hsz0 : its.toArray.size = xs.length := by rw [List.size_toArray, hle]
  have hm : ((its.toArray.size : Nat) : Int) * k ≤ 1000000 := by
    rw [hsz0]
    have a1 : ((xs.length : Nat) : Int) * k ≤ 1000 * k := Int.mul_le_mul_of_nonneg_right (by omega) (by omega)
    omega
  have flen : (List.replicate k.toNat its).flatten.length ≤ sizeLine := by
    rw [PyProof.Rows.lm_len_rep_flat, hle, sizeLine_eq]
    have a1 : k.toNat * xs.length ≤ 1000 * 1000 := Nat.mul_le_mul (by omega) hz
    omega
  have c0 : (decide (k < -(2 ^ 63)) || decide (k ≥ 2 ^ 63)) = false := by
    rw [decide_eq_false (by omega), decide_eq_false (by omega)] <;> rfl
  have c1 : (its.toArray.isEmpty || k == 1) = false := by
    rw [hi, Bool.false_or]
    exact beq_eq_false_iff_ne.mpr k1
  have c2 : (decide (k ≤ 0) || its.toArray.isEmpty) = false := by
    rw [hi, Bool.or_false]
    exact decide_eq_false (by omega)
  have c4 : Builtin.Tuple.tupleTooMany (((its.toArray.size : Nat) : Int) * k) = false := by
    unfold Builtin.Tuple.tupleTooMany
    rw [sizeLine_eq]
    exact decide_eq_false (by omega)
  refine go (call_meets PySem.F.slot_tuple_mul ⟨_, ho, rfl⟩ PySem.F.entry_tuple_mul (PySem.F.args_tuple_mul_2 _ _) (tuple_mulW l its.toArray n dd sl k t c0 c1 c2 (by omega) c4 (by rw [size_rep, List.size_toArray]; exact flen)) ⟨ho, ?_⟩)
  rw [size_rep]
  exact lay_pt I (by rw [PyProof.Rows.lm_len_rep_flat, sizeLine_eq]; have a1 : k.toNat * xs.length ≤ 1000 * 1000 := Nat.mul_le_mul (by omega) hz; omega) (r.rep k.toNat) (q k2)

/-! ### enumerate(tuple) -/
end
set_option maxHeartbeats 1000000 in
theorem meets_enum_newT (l : Addr) (items : Array Value) (n : Nat) (dct : Option Addr) (sl : Array (Option Value)) :
    Meets (Builtin.«enumerate.__new__» ⟨[.type "enumerate", .ref l], []⟩) (fun _ R s => s.heap.get? l = some { cls := .type "tuple", dict := dct, data := .seq items n, slots := sl } ∧
      R (.ok (.ret (.ref (s.heap.push { cls := .type "tuple_iterator", data := .fields #[.ref l, .int 0 0] }).objs.size)))
        { s with heap := (s.heap.push { cls := .type "tuple_iterator", data := .fields #[.ref l, .int 0 0] }).push { cls := .type "enumerate", data := .fields #[.none, .bool false, .ref s.heap.objs.size, rawInt 0, .none, .none] } }) :=
  .of_wp fun prog w A R s h => by
    obtain ⟨hp, g, d, tk, os⟩ := s; obtain ⟨hl, h⟩ := h
    have hsub := sub_enumerate
    have hL : Heap.IsTuple (Shared.heap ⟨hp, g, d, tk, os⟩) l items := ⟨_, hl, rfl, n, rfl⟩
    wp_walk using wpAny_loadPart' hl
    refine wpAny_stack_any fun st => wpAny_pure ?_
    split
    · rename_i c _ _ _ _ _
      cases (c == Value.type "enumerate")
      · wp_walk using wpAny_loadPart' hl, wpAny_pyIter_tuple hL
        exact ⟨_, rfl, h⟩
      · wp_walk using wpAny_loadPart' hl, wpAny_pyIter_tuple hL
        exact ⟨_, rfl, h⟩
    · wp_walk using wpAny_loadPart' hl, wpAny_pyIter_tuple hL
      exact ⟨_, rfl, h⟩
section
variable {prog : Program} {w : World} {A : Around} {E : Value → Shared → Prop} {s : Shared}
theorem call_enum_tuple {l : Addr} {items : Array Value} {Q : Value → Shared → Prop} (hL : s.heap.IsTuple l items)
    (h : ∀ h', IsEnum h' (s.heap.objs.size + 1) s.heap.objs.size 0 .none → h'.IsTupleIter s.heap.objs.size l 0 → h'.objs.size = s.heap.objs.size + 2 →
      (∀ b o, s.heap.get? b = some o → h'.get? b = some o) → Q (.ref (s.heap.objs.size + 1)) { s with heap := h' }) :
    wpAny (model prog w) A (call (.type "enumerate") [.ref l]) Q E s := by
  obtain ⟨⟨c, dct, dt, sl⟩, hl, hc, n, hd⟩ := hL
  replace hc : c = .type "tuple" := hc
  replace hd : dt = .seq items n := hd
  subst hc hd
  refine callType_new PySem.F.called_enumerate (by decide) (PySem.F.typeCall_enumerate_1 _) (PySem.F.newCall_enumerate_1 _) (fun obj => PySem.F.args_object_init_2 obj _) PySem.F.entry_enumerate_new
    (meets_enum_newT l items n dct sl) ⟨hl, ?_⟩
  have hz : (s.heap.push { cls := .type "tuple_iterator", data := .fields #[.ref l, .int 0 0] }).objs.size = s.heap.objs.size + 1 := Heap.size_push ..
  show _ ∧ _
  rw [hz]
  have he : IsEnum ((s.heap.push { cls := .type "tuple_iterator", data := .fields #[.ref l, .int 0 0] }).push
      { cls := .type "enumerate", data := .fields #[.none, .bool false, .ref s.heap.objs.size, rawInt 0, .none, .none] }) (s.heap.objs.size + 1) s.heap.objs.size 0 .none := by
    have := Heap.get?_push_size (s.heap.push { cls := .type "tuple_iterator", data := .fields #[.ref l, .int 0 0] })
      (o := { cls := .type "enumerate", data := .fields #[.none, .bool false, .ref s.heap.objs.size, rawInt 0, .none, .none] }) rfl
    rw [hz] at this; exact this
  refine ⟨⟨_, he, rfl⟩, h _ he ⟨_, Heap.get?_push_of_some _ (Heap.get?_push_size _ rfl), rfl, rfl⟩ (by rw [Heap.size_push, hz]) fun b o x => Heap.get?_push_of_some _ (Heap.get?_push_of_some _ x)⟩
end
/-- the tuple at a, each item in a new pair -/
def IteT (K : PySem.W.Frag) (a : Addr) (xs : List V) : It :=
  ⟨fun i H => SqT K H a xs ∧ i < xs.length, fun i H v H' => ∃ T x, v = .ref T ∧ H T = none ∧ H' = upd H T (.tup [.int (i : Nat), x]) ∧ xs[i]? = some x, fun i H => SqT K H a xs ∧ i = xs.length⟩
theorem turn_enumT {P : Program} {w : World} {K : PySem.W.Frag} {elts : List Expr} {kk : Nat} {tpos : Pos} (a e it : Addr) (xs : List V) :
    Turn P w K (.Tuple elts kk tpos) (IteT K a xs) [e, it] e (fun i h => (∃ old, IsEnum h e it ((i : Nat) : Int) old) ∧ h.IsTupleIter it a i ∧ e ≠ it ∧ a ≠ it ∧ a ≠ e) where
  mem := by simp
  obj := fun i h st b hb => by
    obtain ⟨⟨old, he⟩, ⟨o, ho, hc, hd⟩, _⟩ := st
    have e' : b = e ∨ b = it := by simpa using hb
    rcases e' with z | z
    · rw [z]; exact ⟨_, he, fun v q => nomatch q⟩
    · rw [z]; exact ⟨o, ho, fun v q => by rw [hd] at q; cases q⟩
  keep := fun i h h' st k => let ⟨⟨old, he⟩, hi, hne⟩ := st; ⟨⟨old, k e (by simp) _ he⟩, hi.at fun o q => k it (by simp) o q, hne⟩
  item := by
    intro X hP hw hK hc i pins s σ H E I hf st hg
    subst hP hw hK
    obtain ⟨⟨old, he⟩, hit, hne, hai, hae⟩ := st
    obtain ⟨hq, hi⟩ := hg
    obtain ⟨its, rv, p, hz⟩ := I.tuple hq
    have hl := rv.length
    have hel : e < s.heap.objs.size := Heap.lt_size he
    have hil : it < s.heap.objs.size := by obtain ⟨_, q, _⟩ := hit; exact Heap.lt_size q
    refine wpAny_pyNext_enum_itemC (Draws.tuple (prog := X.prog) (w := X.w) (A := X.A.in1) (I.ok.hd hc) it a hai its.toArray) he ⟨hit, p⟩ (by rw [List.size_toArray]; omega) hne (by simp [hne, Ne.symm hae]) fun u h' tk hPx ho hst hT hsz hk => ?_
    obtain ⟨x, hx, ru⟩ : ∃ x, xs[i]? = some x ∧ RelV x u := by
      have hu : its[i]? = some u := by simpa using hPx
      obtain ⟨x, hx⟩ : ∃ x, xs[i]? = some x := ⟨xs[i], List.getElem?_eq_getElem hi⟩
      obtain ⟨u', hu', ru⟩ := rv.get hx
      rw [hu] at hu'
      cases hu'
      exact ⟨x, hx, ru⟩
    refine ⟨_, rfl, wpAny_letOwnedTupleGo_enum (s := { s with heap := h', toks := tk + 1 }) ho fun h'' he' sb => ?_⟩
    have hT2 : h''.get? s.heap.objs.size = some { cls := .type "tuple", data := .seq #[.int (i : Nat) tk, u] } := (sb.2 _ (Nat.ne_of_gt hel)).trans hT
    have new : ObjOk X.prog X.w (upd H s.heap.objs.size (.tup [.int (i : Nat), x])) h'' s.heap.objs.size (.tup [.int (i : Nat), x]) :=
      ⟨by show 2 ≤ sizeLine; decide, [.int (i : Nat) tk, u], .cons ⟨_, rfl⟩ (.cons ru .nil), ⟨_, hT2, rfl, _, rfl⟩⟩
    have I1 : Inv X pins σ (upd H s.heap.objs.size (.tup [.int (i : Nat), x])) { s with heap := h'', toks := tk + 1 } :=
      I.turnedNew (ch := [e, it]) (fun b ob hb q => (sb.2 b (fun z => hb (by simp [z]))).trans (hk b ob (fun z => hb (by simp [z])) (fun z => hb (by simp [z])) q)) hf (Nat.le_refl _) new
    refine ⟨.ref s.heap.objs.size, _, I1, rfl, ⟨_, x, rfl, I.hok.fresh (Nat.le_refl _), rfl, hx⟩, ⟨⟨u, ?_⟩, hst.1.at fun o q => (sb.2 it (Ne.symm hne)).trans q, hne, hai, hae⟩, fun b hb => ?_⟩
    · have e1 : ((i + 1 : Nat) : Int) = (i : Int) + 1 := by omega
      rw [e1]; exact he'
    · have hb' : b < s.heap.objs.size := by
        have e' : b = e ∨ b = it := by simpa using hb
        rcases e' with z | z
        · rw [z]; exact hel
        · rw [z]; exact hil
      rw [upd_ne (Nat.ne_of_lt hb')]
      exact (hf b hb).1
  done := by
    intro X hP hw hK hc i pins s σ H E I hf st hg
    subst hP hw hK
    obtain ⟨⟨old, he⟩, hit, hne, hai, hae⟩ := st
    obtain ⟨hq, hx⟩ := hg
    obtain ⟨its, rv, p, hz⟩ := I.tuple hq
    obtain ⟨f0, f1, f2, f3, f4, f5⟩ := hf it (by simp)
    have hl := rv.length
    subst hx
    refine wpAny_pyNext_enum_endD (Draws.tuple (prog := X.prog) (w := X.w) (A := X.A.in1) (I.ok.hd hc) it a hai its.toArray) he ⟨by rw [List.size_toArray, ← hl]; exact hit, p⟩ fun h' eb => ?_
    exact ⟨rfl, I.turned (t' := s.toks) (fun b o hb q => eb b o hb q) f0 f1 f3 f4 f5⟩
  self := fun A i s Q E st h => let ⟨⟨_, he⟩, _⟩ := st; wpAny_pyIter_enum he h
def iEnumT (K : PySem.W.Frag) (ta : TA) : TI := fun σ H R => ta σ H fun vs H1 => ∃ a xs, vs = [.ref a] ∧ SqT K H1 a xs ∧ R (IteT K a xs) H1
theorem pi_enumT {X : Cx} {e : Expr} {ta : TA} {p pos tpos : Pos} {elts : List Expr} {kk : Nat} (hg : Gl X "enumerate") (hm : X.mg "enumerate" = none) (ha : PA X [e] ta) (hs : starEach [e] X.env = [(false, eval e X.env)] := by rfl) :
    PI X (.Tuple elts kk tpos) (.Call (.Name "enumerate" p) [e] [] pos) (iEnumT X.K ta) := by
  refine ⟨fun pins s σ H R I h => ?_⟩
  refine Call_ (ld_blt I hg hm boot_enumerate (PyProof.Rows.callWith_type1 (thn (ha.run pos pins s σ H _ I h) fun us s1 ⟨vs, H1, I1, r1, q1⟩ => ?_) hs rfl))
  obtain ⟨a, xs, ex, hq, q⟩ := q1
  subst ex
  cases r1 with
  | cons r rr =>
    cases rr
    cases r
    obtain ⟨its, rv, p', hz⟩ := I1.tuple hq
    have la : a < s1.heap.objs.size := p'.lt
    refine call_enum_tuple p' fun h' he hit hsz hk => wpAny_pyIter_enum he ?_
    have I2 : Inv X pins σ H1 { s1 with heap := h' } := I1.kept (t' := s1.toks) hk
    refine ⟨s1.heap.objs.size + 1, [s1.heap.objs.size + 1, s1.heap.objs.size], _, _, H1, rfl, I2, turn_enumT a (s1.heap.objs.size + 1) s1.heap.objs.size xs, ⟨⟨.none, he⟩, hit, Nat.succ_ne_self _, Nat.ne_of_lt la, Nat.ne_of_lt (Nat.lt_succ_of_lt la)⟩, fun b hb => ?_, q⟩
    have e' : b = s1.heap.objs.size + 1 ∨ b = s1.heap.objs.size := by simpa using hb
    have hle : s1.heap.objs.size ≤ b := by
      rcases e' with z | z
      · rw [z]; exact Nat.le_add_right _ _
      · rw [z]; exact Nat.le_refl _
    exact I1.fpOk hle (I1.hok.fresh hle)
end Pk
/-! Pk, part H: order of data, sorted. -/
namespace Pk
open PySem PySem.Spec PyProof.Rows L2
open PySem.W (alike alikeAll dataLt dataLe AllAlike Sortable EachIs)
section
variable {X : Cx}
/-- x < y, of data of one shape -/
def rLtD : R2 := fun x y H Q => ∃ d e, Dd H d x ∧ Dd H e y ∧ alike d e = true ∧ d ≠ .none ∧ d.depth ≤ 50 ∧ Q (.bl (dataLt d e)) H
theorem op_ltD (hu : X.A.units + 64 < cLine) : OpR X (compareOp .Lt) rLtD := by
  intro pins s σ H x y v u Q I rx ry h
  obtain ⟨d, e, hd, he, ha, hn, hz, q⟩ := h
  obtain ⟨as, r1⟩ := Dp.reads I d x v (Dd.dp d x hd) rx
  obtain ⟨bs, r2⟩ := Dp.reads I e y u (Dd.dp e y he) ry
  have hm : min d.depth e.depth ≤ d.depth := Nat.min_le_left _ _
  exact (PySem.W.rcLt_alike d e X.A s v u as bs r1 r2 ha hn (by omega)) _ _ _ _ ⟨.bl _, H, I, rfl, q⟩
def rLtU : R2 := fun x y H Q => (∃ i j, x = .int i ∧ y = .int j ∧ Q (.bl (decide (i < j))) H) ∨ rLtD x y H Q
theorem op_ltU (hu : X.A.units + 64 < cLine) : OpR X (compareOp .Lt) rLtU := OpR.or op_lt (op_ltD hu)

/-! ### sorted(list of data) -/
theorem each_ix {α β : Type} {F : α → β → Prop} : ∀ {l : List α} {m : List β}, l.length = m.length → (∀ (i : Nat) a b, l[i]? = some a → m[i]? = some b → F a b) → EachIs F l m
  | [], [], _, _ => .nil
  | [], _ :: _, h, _ => by cases h
  | _ :: _, [], h, _ => by cases h
  | a :: l, b :: m, h, k => .cons (k 0 a b rfl rfl) (each_ix (by simpa using h) fun i x y e1 e2 => k (i + 1) x y (by simpa using e1) (by simpa using e2))
def rSortD (K : PySem.W.Frag) : List V → Hp → VK → Prop := fun vs H Q => ∃ (a : Addr) (xs : List V) (ds : List PyData), vs = [.ref a] ∧ SqL K H a xs ∧ DdAll H ds xs ∧ AllAlike ds ∧ Sortable ds ∧ (∀ d ∈ ds, d.depth ≤ 40) ∧
  ∀ (p : Addr) (ys : List V) (es : List PyData), es.Perm ds → DdAll H es ys → H p = none → Q (.ref p) (upd H p (.lst ys))
theorem da_zip {H : Hp} : ∀ {bs : List (V × PyData)}, (∀ b ∈ bs, Dd H b.2 b.1) → DdAll H (bs.map (·.2)) (bs.map (·.1))
  | [], _ => DdAll.nil
  | b :: bs, h => DdAll.cons (h b List.mem_cons_self) (da_zip fun c hc => h c (List.mem_cons_of_mem _ hc))
theorem each_vals : ∀ {out : List Value} {bs : List (V × PyData)}, EachIs (fun u (b : V × PyData) => RelV b.1 u) out bs → Vals (bs.map (·.1)) out
  | _, _, .nil => .nil
  | _, _, .cons h t => .cons h (each_vals t)
theorem cr_sortD (hu : X.A.units + 64 < cLine) : CallR X (.builtin "sorted") (rSortD X.K) := by
  intro pins s σ H vs us Q I r h
  obtain ⟨a, xs, ds, rfl, hq, hd, hal, hk, hz, q⟩ := h
  obtain ⟨u, rfl, ru⟩ := vals1 r
  cases ru
  obtain ⟨its, rv, pl, hsz⟩ := I.list hq
  have l1 := rv.length
  have l2 := hd.length
  have e2 : ((xs.zip ds).map (·.2)) = ds := by rw [List.map_snd_zip (by omega)]
  have e1 : ((xs.zip ds).map (·.1)) = xs := by rw [List.map_fst_zip (by omega)]
  have hlz : (xs.zip ds).length = xs.length := by rw [List.length_zip]; omega
  have at_ : ∀ (i : Nat) (v : Value) (b : V × PyData), its[i]? = some v → (xs.zip ds)[i]? = some b → RelV b.1 v ∧ Dd H b.2 b.1 := fun i v b h1 h2 => by
    rw [List.getElem?_zip_eq_some] at h2
    obtain ⟨x, hx, rx⟩ : ∃ x, xs[i]? = some x ∧ RelV x v := by
      obtain ⟨w', hw', rr⟩ := Vals.get rv h2.1
      rw [h1] at hw'
      cases hw'
      exact ⟨b.1, h2.1, rr⟩
    rw [h2.1] at hx
    cases hx
    obtain ⟨x', hx', dx⟩ := hd.get h2.2
    rw [h2.1] at hx'
    cases hx'
    exact ⟨rx, dx⟩
  refine PySem.W.sorted_data (vs := its) (bs := xs.zip ds) (enc := (·.2)) (R := fun u (b : V × PyData) => RelV b.1 u) pl.isList (each_ix (by omega) fun i v b h1 h2 => (at_ i v b h1 h2).1)
    (each_ix (by omega) fun i v b h1 h2 => Dp.reads I b.2 b.1 v (Dd.dp _ _ (at_ i v b h1 h2).2) (at_ i v b h1 h2).1) (by rw [e2]; exact hal) (by rw [e2]; exact hk) (by omega) (fun b hb => ?_) fun out ho eo => ?_
  · have : b.2 ∈ ds := by rw [← e2]; exact List.mem_map.mpr ⟨b, hb, rfl⟩
    have := hz _ this
    show X.A.units + 2 + b.2.depth < cLine
    omega
  · obtain ⟨c, hc⟩ := sortedAll_at s.heap its out.toArray
    have perm := List.mergeSort_perm (xs.zip ds) (dataLe false (·.2))
    have hall : ∀ b ∈ (xs.zip ds).mergeSort (dataLe false (·.2)), Dd H b.2 b.1 := fun b hb => by
      have hb' := perm.mem_iff.mp hb
      obtain ⟨i, hi⟩ := List.mem_iff_getElem?.mp hb'
      have hi2 : i < its.length := by
        have := (List.getElem?_eq_some_iff.mp hi).1
        omega
      exact (at_ i _ b (List.getElem?_eq_getElem hi2) hi).2
    refine ⟨.ref (s.heap.objs.size + 1), _, I.laid (o := .lst (((xs.zip ds).mergeSort (dataLe false (·.2))).map (·.1))) (t' := s.toks) (fun b o e => sortedAll_old e) (Nat.le_succ _) ?_, rfl, q _ _ (((xs.zip ds).mergeSort (dataLe false (·.2))).map (·.2)) ?_ (da_zip hall) (I.hok.fresh (Nat.le_succ _))⟩
    · refine ⟨by rw [List.length_map, List.length_mergeSort, hlz]; exact hsz, out, c, each_vals eo, hc⟩
    · have := perm.map (·.2)
      rw [e2] at this
      exact this
end
end Pk
/-! Pk, part I: a dict of crews by a comprehension. -/
namespace Pk
open PySem PySem.Spec PyProof.Rows L2
section
variable {X : Cx}
/-- {k: v for target in iter}: D the new dict -/
def tDcN (P : Program) (w : World) (wi : TI) (g : TG) (tk tv : TE) (vs : List Nat) : TE := fun σ H Q => wi σ H fun J H1 => ∀ D, H1 D = none → ∃ W : Nat → Nat → Hp → Prop, (∃ m, W 0 m (upd H1 D (DnO P w D []))) ∧ ∀ i m H, W i m H →
  (J.stop i H ∧ Q (.ref D) H) ∨ (J.go i H ∧ ∃ Nx : Hp → Prop, (∀ H', Nx H' → ∃ m', m' < m ∧ W (i + 1) m' H') ∧ ∀ x H', J.yld i H x H' → g x (wipe σ vs) H' fun σ2 H2 => wipe σ2 vs = wipe σ vs ∧
    tk σ2 H2 fun y H4 => tv σ2 H4 fun z H5 => ∃ (b : Addr) (c : Crew) (xs : List (Crew × Addr × V)) (kvs : List (Crew × PyData)), y = .ref b ∧ Dd H5 c.d (.ref b) ∧ H5 D = some (DnO P w D xs) ∧ DKV H5 kvs xs ∧ kvs.length < sizeLine ∧ Nx (upd H5 D (DnO P w D (putX xs c b z))))
theorem dcN_core {pins : List (Addr × Obj)} {s : Shared} {σ : L2.St} {H : Hp} {Q : VK} {kx vx tg iter : Expr} {scope : Scope} {own : List (Str × Nat)} {pos pos' : Pos} {wi : TI} {g : TG} {tk tv : TE} {use : Option (Value → Sem Unit)} {Qf : Value → Shared → Prop}
    (hu : X.A.units + 16 < cLine) (hc : X.calm = true) (hN : X.N.Nodup) (I : Inv X pins σ H s) (hi : PI X tg iter wi) (ok : BlkOk X.N X.env.scope scope own)
    (hg : ∀ (s : Shared) (H : Hp) (C : Addr) (cl : List (Str × Addr)) (fp : List Addr), PG (X.blk s H scope (compEnvC scope cl C X.env) fp) tg g)
    (hk : ∀ (s : Shared) (H : Hp) (C : Addr) (cl : List (Str × Addr)) (fp : List Addr), PE (X.blk s H scope (compEnvC scope cl C X.env) fp) kx tk)
    (he : ∀ (s : Shared) (H : Hp) (C : Addr) (cl : List (Str × Addr)) (fp : List Addr), PE (X.blk s H scope (compEnvC scope cl C X.env) fp) vx tv) (hs : ∀ x, foldedSetIterable iter X.env x = pure x)
    (h : tDcN X.prog X.w wi g tk tv (own.map (·.2)) σ H Q)
    (hRR : ∀ D C s' m H', Inv X pins σ H' s' → Q (.ref D) H' → s'.heap.Ns C m → FpOk X pins H' C → compPost (model X.prog X.w) X.A X.xe use Qf (.ref D) C (.ok .next) s') :
    wpAny (model X.prog X.w) X.A (comprehension (.DictComp kx vx [⟨tg, iter, [], 0⟩] scope pos) scope X.env pos' newDict false (eval iter X.env) use) Qf X.xe s := by
  have hfree : ∀ y ∈ scope.names, y.2 = .free → ∃ c, X.env.cells.lookup y.1 = some c := fun y hy e => (ok.free y hy e).elim (fun k => I.ok.has _ (.inl k)) fun k => I.ok.has _ (.inr k)
  refine wpAny_comprehension_free (use := use) rfl hs (closure_ok hfree) ok.kind (fun y hy e => by rw [ok.uniq y hy, e]) (thn (hi.run pins s σ H _ I h) fun xv s1 hx => thn hx fun itv s2 h2 => ?_)
  obtain ⟨it, fp, tn, J, H2, e, I2, T, st2, f2, q⟩ := h2
  subst e
  refine wpAny_newObj_type (newEnv_comp ?_)
  generalize hD : s2.heap.objs.size = D
  have hDn : H2 D = none := I2.hok.fresh (Nat.le_of_eq hD)
  obtain ⟨W, ⟨m0, w0⟩, turn⟩ := q D hDn
  generalize hs3 : ({ s2 with heap := s2.heap.push { cls := .type "dict", data := .dict #[] } } : Shared) = s3
  have I3 : Inv X pins σ (upd H2 D (DnO X.prog X.w D [])) s3 := by
    rw [← hs3]
    refine I2.laid (t' := s2.toks) (fun b o e => Heap.get?_push_of_some _ e) (Nat.le_of_eq hD) ?_
    rw [← hD]
    exact dn_empty _ _ _ s2.heap I2.big
  have h3 : s3.heap = s2.heap.push { cls := .type "dict", data := .dict #[] } := by rw [← hs3]
  have sz : ∀ b ∈ fp, b < s2.heap.objs.size := fun b hb => let ⟨o, e, _⟩ := T.obj _ _ st2 b hb; Heap.lt_size e
  have f3 : ∀ b ∈ fp, FpOk X pins (upd H2 D (DnO X.prog X.w D [])) b ∧ b < s3.heap.objs.size := fun b hb => by
    have hlt := sz b hb
    refine ⟨⟨?_, (f2 b hb).2⟩, by rw [h3, Heap.size_push]; exact Nat.lt_succ_of_lt hlt⟩
    rw [upd_ne (by rw [← hD]; exact Nat.ne_of_lt hlt)]
    exact (f2 b hb).1
  have st3 : tn 0 s3.heap := T.keep _ _ _ st2 fun b _ o e => by rw [h3]; exact Heap.get?_push_of_some _ e
  have I4 := block_start I3 ok hN f3
  have pg := hg s3 (upd H2 D (DnO X.prog X.w D [])) s3.heap.objs.size (cellsFrom (s3.heap.objs.size + 1) scope.names (cloFrom X.env.cells scope.names [])) fp
  have pk := hk s3 (upd H2 D (DnO X.prog X.w D [])) s3.heap.objs.size (cellsFrom (s3.heap.objs.size + 1) scope.names (cloFrom X.env.cells scope.names [])) fp
  have pe := he s3 (upd H2 D (DnO X.prog X.w D [])) s3.heap.objs.size (cellsFrom (s3.heap.objs.size + 1) scope.names (cloFrom X.env.cells scope.names [])) fp
  show codeAny _ _ (.compStart (.DictComp kx vx [⟨tg, iter, [], 0⟩] scope pos) 0 (.ref it) (.ref D) (compEnvC scope (cellsFrom (s3.heap.objs.size + 1) scope.names (cloFrom X.env.cells scope.names [])) s3.heap.objs.size X.env)) (compPost (model X.prog X.w) X.A X.xe use Qf (.ref D) s3.heap.objs.size) { s3 with heap := pushCells (s3.heap.push { cls := .type "dict", data := .dict #[] }) scope.names }
  have nfp : ∀ b ∈ fp, (upd H2 D (DnO X.prog X.w D [])) b = none := fun b hb => (f3 b hb).1.1
  generalize hce : compEnvC scope (cellsFrom (s3.heap.objs.size + 1) scope.names (cloFrom X.env.cells scope.names [])) s3.heap.objs.size X.env = ce at I4 pg pk pe ⊢
  have cL : ce.locals = s3.heap.objs.size := by subst hce; rfl
  generalize hH3 : upd H2 D (DnO X.prog X.w D []) = H3 at I3 I4 pg pk pe w0 nfp f3
  generalize hs4 : ({ s3 with heap := pushCells (s3.heap.push { cls := .type "dict", data := .dict #[] }) scope.names } : Shared) = s4 at I4 ⊢
  have st4 : tn 0 s4.heap := T.keep _ _ _ st3 fun b _ o e => by rw [← hs4]; exact pushCells_keeps _ _ _ _ (Heap.get?_push_of_some _ e)
  have stat : ∀ {σ' : L2.St} {H' : Hp} {s' : Shared}, Inv (X.blk s3 H3 scope ce fp) [] σ' H' s' → (∀ b ∈ fp, H' b = none) → ∀ b ∈ fp, FpOk (X.blk s3 H3 scope ce fp) [] H' b := fun {σ' H' s'} I' hn b hb =>
    ⟨hn b hb, (I'.ok.exf b hb).1, I'.ok.exfs b hb, .inl hb, fun x c e => (I'.ok.exf b hb).2 x c e, fun p hp => absurd (show p ∈ ([] : List (Addr × Obj)) ++ [] from hp) (by simp)⟩
  have loop : codeAny (model X.prog X.w) X.A (.compLoop (.DictComp kx vx [⟨tg, iter, [], 0⟩] scope pos) 0 (.ref it) (.ref D) ce) (compPost (model X.prog X.w) X.A X.xe use Qf (.ref D) s3.heap.objs.size) s4 := by
    refine compLoop_anyD (fun n s' => ∃ i H', Inv (X.blk s3 H3 scope ce fp) [] (wipe σ (own.map (·.2))) H' s' ∧ tn i s'.heap ∧ (∀ b ∈ fp, H' b = none) ∧ W i n H') ?_ m0 ⟨0, H3, I4, st4, nfp, w0⟩
    rintro n s5 ⟨i, H5, I5, st5, n5, w5⟩
    rcases turn i n H5 w5 with ⟨stop, qq⟩ | ⟨go, Nx, hNx, step⟩
    · refine thnF (T.done (X.blk s3 H3 scope ce fp) rfl rfl rfl hc i [] s5 _ H5 (fun _ _ => False) I5 (stat I5 n5) st5 stop) fun r s6 ⟨hr, I6⟩ => ?_
      subst hr
      have I7 : Inv X pins σ H5 s6 := I3.call' (ch := fp) I6.os I6.base I6.hok I6.bare fun b hb => ⟨(f3 b hb).1.2.2.2.1, (f3 b hb).1.2.1, (f3 b hb).1.2.2.2.2.1, (f3 b hb).1.2.2.2.2.2⟩
      have nC : H5 s3.heap.objs.size = none := by
        have z : H5 ce.locals = none := I6.free
        rw [cL] at z
        exact z
      obtain ⟨m, hn, _⟩ := I6.loc
      have hn : s6.heap.Ns ce.locals m := hn
      rw [cL] at hn
      exact hRR D s3.heap.objs.size s6 m H5 I7 qq hn (I3.fpOk (Nat.le_refl _) nC)
    · refine thnF (T.item (X.blk s3 H3 scope ce fp) rfl rfl rfl hc i [] s5 _ H5 (fun _ _ => False) I5 (stat I5 n5) st5 go) fun r s6 ⟨u, hr, h6⟩ => ?_
      subst hr
      refine thnF h6 fun _ s7 ⟨x, H7, I7, r7, y7, st7, n7⟩ => ?_
      have I7' := I7.pinned (stat I7 n7) (T.obj _ _ st7)
      refine thnF (pg.run _ s7 _ H7 x u _ I7' r7 (step x H7 y7)) fun _ s8 ⟨σ8, H8, I8, hw8, q8⟩ => ?_
      have fin : ∀ {s' : Shared} {H' : Hp}, Inv (X.blk s3 H3 scope ce fp) ([] ++ pinsAt fp s7.heap) σ8 H' s' → Nx H' → ∃ m, m < n ∧ ∃ i H', Inv (X.blk s3 H3 scope ce fp) [] (wipe σ (own.map (·.2))) H' s' ∧ tn i s'.heap ∧ (∀ b ∈ fp, H' b = none) ∧ W i m H' := fun {s' H'} I' nx => by
        obtain ⟨m', hm, w'⟩ := hNx H' nx
        have pin' : ∀ b ∈ fp, ∀ o, s7.heap.get? b = some o → s'.heap.get? b = some o ∧ H' b = none := fun b hb o e =>
          let z := I'.pin (b, o) (List.mem_append_right _ (List.mem_append_right _ (mem_pinsAt hb e)))
          ⟨z.1, z.2.1⟩
        have hl : (wipe σ (own.map (·.2))).length = σ8.length := by rw [← hw8, wipe_length]
        refine ⟨m', hm, i + 1, H', (I'.unpinned (pins := [])).weak hl (fun j v e => ?_), T.keep _ _ _ st7 fun b hb o e => (pin' b hb o e).1, fun b hb => ?_, w'⟩
        · rw [← hw8] at e
          exact (wipe_some e).1
        · obtain ⟨o, e, _⟩ := T.obj _ _ st7 b hb
          exact (pin' b hb o e).2
      refine thnF ((pts_nil (X := X.blk s3 H3 scope ce fp)).run _ s8 σ8 H8 (fun b H' => b = true ∧ H' = H8) I8 ⟨rfl, rfl⟩) fun b s9 ⟨H9, I9, eb, eH⟩ => ?_
      subst eb eH
      simp only [if_true]
      refine thnF (pk.run _ s9 σ8 H9 _ I9 q8) fun z s10 ⟨yk, H10, I10, r10, q10⟩ => ?_
      refine thnF (pe.run _ s10 σ8 H10 _ I10 q10) fun z2 s11 ⟨yv, H11, I11, r11, bb, c, xs, kvs, ek, hb, hD11, hr, hz11, nx⟩ => ?_
      subst ek
      cases r10
      exact n_dictSet (X := X.blk s3 H3 scope ce fp) hu I11 hD11 hr hb r11 hz11 fun s12 I12 => fin I12 nx
  exact codeAny_compStart_dict loop (T.self X.A 0 _ _ _ st4 loop)
theorem pe_dcN {kx vx tg iter : Expr} {scope : Scope} {own : List (Str × Nat)} {pos : Pos} {wi : TI} {g : TG} {tk tv : TE} (hu : X.A.units + 16 < cLine) (hc : X.calm = true) (hN : X.N.Nodup) (hi : PI X tg iter wi) (ok : BlkOk X.N X.env.scope scope own)
    (hg : ∀ (s : Shared) (H : Hp) (C : Addr) (cl : List (Str × Addr)) (fp : List Addr), PG (X.blk s H scope (compEnvC scope cl C X.env) fp) tg g)
    (hk : ∀ (s : Shared) (H : Hp) (C : Addr) (cl : List (Str × Addr)) (fp : List Addr), PE (X.blk s H scope (compEnvC scope cl C X.env) fp) kx tk)
    (he : ∀ (s : Shared) (H : Hp) (C : Addr) (cl : List (Str × Addr)) (fp : List Addr), PE (X.blk s H scope (compEnvC scope cl C X.env) fp) vx tv) (hs : ∀ x, foldedSetIterable iter X.env x = pure x := by intro _; rfl) :
    PE X (.DictComp kx vx [⟨tg, iter, [], 0⟩] scope pos) (tDcN X.prog X.w wi g tk tv (own.map (·.2))) := by
  refine ⟨fun pins s σ H Q I h => ?_⟩
  rw [arm_eval_DictComp]
  refine dcN_core hu hc hN I hi ok hg hk he hs h fun D C s' m H' I' q hn f => ⟨m, hn, fun h'' sb => ?_⟩
  obtain ⟨f0, f1, f2, f3, f4, f5⟩ := f
  exact ⟨.ref D, H', I'.turned (t' := s'.toks) (fun b o hb e => (sb.2 b hb).trans e) f0 f1 f3 f4 f5, rfl, q⟩
end
end Pk
/-! Pk, part J: running a body on data. -/
namespace Pk
open PySem PySem.Spec PyProof.Rows L2

/-- what a slot holds -/
inductive Cl where
  | dat (x : PyData)
  | fd (m : List (Crew × PyData))
  | t3 (m1 m2 : List (Crew × PyData)) (x : PyData)
  | lt (ds : List PyData)
  | bl (ds : List PyData)
  | own (k : Nat)
  | fn (a : Addr)
  | ty (n : String)
/-- the objects that the frame owns -/
inductive OV where
  | lst (ds : List PyData)
  | fl (ds : List PyData)
  | dic (m : List (Crew × PyData))
  | fm (m : List (Crew × PyData))
  | mm (p : Addr) (n : Nat)
structure Kx where
  P : Program
  w : World
  K : PySem.W.Frag
  H0 : Hp
/-- the law's own record -/
def LawM (H : Hp) (l : List Addr) (n : Nat) : Prop := ∃ (p c f : Addr) (cs fs : List Int) (k : Int), l = [p, c, f] ∧ p ≠ c ∧ p ≠ f ∧ c ≠ f ∧
  H p = some (.dK [(.inr "cells", .ref c), (.inr "left", .ref f), (.inr "at", .int k)]) ∧ H c = some (.lst (cs.map V.int)) ∧ H f = some (.lst (fs.map V.int)) ∧ 0 ≤ k ∧ k ≤ n ∧ (∀ z ∈ fs, 0 ≤ z) ∧ cs.length ≤ 63 ∧ fs.length ≤ 63
def FdV (P : Program) (w : World) (H : Hp) (m : List (Crew × PyData)) (v : V) : Prop := ∃ p o xs, v = .ref p ∧ H p = some (.frz o (DnO P w p xs)) ∧ DKV H m xs
def Ov (C : Kx) (H : Hp) (l : List Addr) : OV → Prop
  | .lst ds => ∃ a xs, l = [a] ∧ H a = some (.lst xs) ∧ DdAll H ds xs
  | .fl ds => ∃ a o xs, l = [a] ∧ H a = some (.frz o (.lst xs)) ∧ DdAll H ds xs
  | .dic m => ∃ a xs, l = [a] ∧ H a = some (DnO C.P C.w a xs) ∧ DKV H m xs
  | .fm m => ∃ a o xs, l = [a] ∧ H a = some (.frz o (DnO C.P C.w a xs)) ∧ DKV H m xs
  | .mm p n => (∃ l', l = p :: l') ∧ LawM H l n
def Cv (C : Kx) (as : List (List Addr)) (H : Hp) : Cl → V → Prop
  | .dat d, v => Dd H d v
  | .fd m, v => FdV C.P C.w H m v
  | .t3 m1 m2 x, v => ∃ t o v1 v2 v3, v = .ref t ∧ H t = some (.frz o (.tup [v1, v2, v3])) ∧ FdV C.P C.w H m1 v1 ∧ FdV C.P C.w H m2 v2 ∧ Dd H x v3
  | .lt ds, v => ∃ a xs, v = .ref a ∧ SqT C.K H a xs ∧ DdAll H ds xs
  | .bl ds, v => ∃ a xs, v = .ref a ∧ SqL C.K C.H0 a xs ∧ DdAll C.H0 ds xs
  | .own k, v => ∃ a l, as[k]? = some (a :: l) ∧ v = .ref a
  | .fn a, v => v = .ref a
  | .ty n, v => v = .ty n
structure Rl (C : Kx) (as : List (List Addr)) (os : List OV) (H : Hp) : Prop where
  same : Same C.H0 H
  len : as.length = os.length
  at_ : ∀ (k : Nat) l o, as[k]? = some l → os[k]? = some o → (∀ a ∈ l, C.H0 a = none) ∧ Ov C H l o
  apart : ∀ (i j : Nat) l m, i ≠ j → as[i]? = some l → as[j]? = some m → ∀ a ∈ l, a ∉ m
structure Le (as : List (List Addr)) (H : Hp) (as' : List (List Addr)) (H' : Hp) : Prop where
  ex : ExI H H'
  ad : ∀ (k : Nat) a l, as[k]? = some (a :: l) → ∃ l', as'[k]? = some (a :: l')
structure Sl (C : Kx) (as : List (List Addr)) (H : Hp) (σ : L2.St) (γ : List (Option Cl)) : Prop where
  len : σ.length = γ.length
  at_ : ∀ (j : Nat) c, γ[j]? = some (some c) → ∃ v, σ[j]? = some (some v) ∧ Cv C as H c v

theorem Le.refl (as : List (List Addr)) (H : Hp) : Le as H as H := ⟨ExI.refl H, fun _ _ l h => ⟨l, h⟩⟩
theorem Le.trans {as1 as2 as3 : List (List Addr)} {H1 H2 H3 : Hp} (a : Le as1 H1 as2 H2) (b : Le as2 H2 as3 H3) : Le as1 H1 as3 H3 :=
  ⟨a.ex.trans b.ex, fun k x l h => let ⟨l', h'⟩ := a.ad k x l h; b.ad k x l' h'⟩
theorem Le.same {as : List (List Addr)} {H H' : Hp} (s : Same H H') : Le as H as H' := ⟨exi_same s, fun _ _ l h => ⟨l, h⟩⟩
theorem FdV.mono {P : Program} {w : World} {H H' : Hp} {m : List (Crew × PyData)} {v : V} (e : ExI H H') (h : FdV P w H m v) : FdV P w H' m v := by
  obtain ⟨p, o, xs, h1, h2, h3⟩ := h
  exact ⟨p, o, xs, h1, e _ _ h2 trivial, h3.mono e⟩
theorem sqt_mono {K : PySem.W.Frag} {H H' : Hp} {a : Addr} {xs : List V} (e : ExI H H') (h : SqT K H a xs) : SqT K H' a xs := by
  rcases h with (h | ⟨o, h⟩) | h
  · exact .inl (.inl (e _ _ h trivial))
  · exact .inl (.inr ⟨o, e _ _ h trivial⟩)
  · exact .inr h
section
variable {C : Kx} {as as' : List (List Addr)} {os : List OV} {H H' : Hp} {σ : L2.St} {γ : List (Option Cl)} {c : Cl} {v : V}
theorem Cv.mono (e : Le as H as' H') (h : Cv C as H c v) : Cv C as' H' c v := by
  cases c with
  | dat d => exact Dd.mono e.ex d v h
  | fd m => exact FdV.mono e.ex h
  | t3 m1 m2 x =>
    obtain ⟨t, o, v1, v2, v3, h1, h2, h3, h4, h5⟩ := h
    exact ⟨t, o, v1, v2, v3, h1, e.ex _ _ h2 trivial, h3.mono e.ex, h4.mono e.ex, Dd.mono e.ex _ _ h5⟩
  | lt ds =>
    obtain ⟨a, xs, h1, h2, h3⟩ := h
    exact ⟨a, xs, h1, sqt_mono e.ex h2, DdAll.mono e.ex _ _ h3⟩
  | bl ds => exact h
  | own k =>
    obtain ⟨a, l, h1, h2⟩ := h
    obtain ⟨l', h'⟩ := e.ad k a l h1
    exact ⟨a, l', h', h2⟩
  | fn a => exact h
  | ty n => exact h
theorem Sl.mono (e : Le as H as' H') (h : Sl C as H σ γ) : Sl C as' H' σ γ := ⟨h.len, fun j c q => let ⟨v, h1, h2⟩ := h.at_ j c q; ⟨v, h1, h2.mono e⟩⟩
theorem Sl.set (h : Sl C as H σ γ) {i : Nat} (hc : Cv C as H c v) : Sl C as H (σ.set i (some v)) (γ.set i (some c)) := by
  refine ⟨by rw [List.length_set, List.length_set, h.len], fun j c' q => ?_⟩
  by_cases e : i = j
  · subst e
    have hi : i < γ.length := by
      have := (List.getElem?_eq_some_iff.mp q).1
      rwa [List.length_set] at this
    rw [List.getElem?_set_self hi] at q
    cases q
    exact ⟨v, by rw [List.getElem?_set_self (by rw [h.len]; exact hi)], hc⟩
  · rw [List.getElem?_set_ne e] at q
    obtain ⟨v', h1, h2⟩ := h.at_ j c' q
    exact ⟨v', by rw [List.getElem?_set_ne e]; exact h1, h2⟩
theorem Ov.there {l : List Addr} {o : OV} (h : Ov C H l o) : ∀ a ∈ l, H a ≠ none := by
  intro a ha
  cases o with
  | lst ds => obtain ⟨b, xs, rfl, h1, _⟩ := h; simp only [List.mem_singleton] at ha; subst ha; rw [h1]; simp
  | fl ds => obtain ⟨b, o, xs, rfl, h1, _⟩ := h; simp only [List.mem_singleton] at ha; subst ha; rw [h1]; simp
  | dic m => obtain ⟨b, xs, rfl, h1, _⟩ := h; simp only [List.mem_singleton] at ha; subst ha; rw [h1]; simp
  | fm m => obtain ⟨b, o, xs, rfl, h1, _⟩ := h; simp only [List.mem_singleton] at ha; subst ha; rw [h1]; simp
  | mm _ n =>
    obtain ⟨_, p, c, f, cs, fs, k, rfl, _, _, _, h1, h2, h3, _⟩ := h
    simp only [List.mem_cons, List.not_mem_nil, or_false] at ha
    rcases ha with rfl | rfl | rfl
    · rw [h1]; simp
    · rw [h2]; simp
    · rw [h3]; simp
theorem Ov.keep {l : List Addr} {o : OV} (k : ∀ a ∈ l, ∀ u, H a = some u → H' a = some u) (e : ExI H H') (h : Ov C H l o) : Ov C H' l o := by
  cases o with
  | lst ds => obtain ⟨b, xs, rfl, h1, h2⟩ := h; exact ⟨b, xs, rfl, k _ (by simp) _ h1, DdAll.mono e _ _ h2⟩
  | fl ds => obtain ⟨b, o, xs, rfl, h1, h2⟩ := h; exact ⟨b, o, xs, rfl, k _ (by simp) _ h1, DdAll.mono e _ _ h2⟩
  | dic m => obtain ⟨b, xs, rfl, h1, h2⟩ := h; exact ⟨b, xs, rfl, k _ (by simp) _ h1, h2.mono e⟩
  | fm m => obtain ⟨b, o, xs, rfl, h1, h2⟩ := h; exact ⟨b, o, xs, rfl, k _ (by simp) _ h1, h2.mono e⟩
  | mm _ n =>
    obtain ⟨hl, p, c, f, cs, fs, kk, rfl, d1, d2, d3, h1, h2, h3, h4⟩ := h
    exact ⟨hl, p, c, f, cs, fs, kk, rfl, d1, d2, d3, k _ (by simp) _ h1, k _ (by simp) _ h2, k _ (by simp) _ h3, h4⟩
theorem Rl.none_of (R : Rl C as os H) {x : Addr} (h : H x = none) : C.H0 x = none := by
  cases e : C.H0 x with
  | none => rfl
  | some o => rw [R.same _ _ e] at h; cases h
theorem Rl.ob (R : Rl C as os H) {k : Nat} {o : OV} (h : os[k]? = some o) : ∃ l, as[k]? = some l ∧ (∀ a ∈ l, C.H0 a = none) ∧ Ov C H l o := by
  have hk : k < as.length := by
    have := (List.getElem?_eq_some_iff.mp h).1
    rw [R.len]; exact this
  obtain ⟨h1, h2⟩ := R.at_ k as[k] o (List.getElem?_eq_getElem hk) h
  exact ⟨as[k], List.getElem?_eq_getElem hk, h1, h2⟩
theorem Rl.grow (R : Rl C as os H) (s : Same H H') : Rl C as os H' :=
  ⟨R.same.trans s, R.len, fun k l o h1 h2 => let ⟨a, b⟩ := R.at_ k l o h1 h2; ⟨a, b.keep (fun x _ u e => s x u e) (exi_same s)⟩, R.apart⟩
theorem Rl.put (R : Rl C as os H) {k : Nat} {l l' : List Addr} {o' : OV} (hk : as[k]? = some l) (h0 : ∀ a ∈ l, C.H0 a = none) (hx : ∀ x o, x ∉ l → H x = some o → H' x = some o) (he : ExI H H')
    (hl : ∀ x ∈ l', x ∈ l ∨ H x = none) (ho : Ov C H' l' o') : Rl C (as.set k l') (os.set k o') H' := by
  have hlt : k < as.length := (List.getElem?_eq_some_iff.mp hk).1
  refine ⟨fun x o e => hx x o (fun z => ?_) (R.same x o e), by rw [List.length_set, List.length_set, R.len], fun j m o h1 h2 => ?_, fun i j m1 m2 ne h1 h2 a ha hb => ?_⟩
  · rw [h0 x z] at e; cases e
  · by_cases e : k = j
    · subst e
      rw [List.getElem?_set_self hlt] at h1
      rw [List.getElem?_set_self (by rw [← R.len]; exact hlt)] at h2
      cases h1; cases h2
      refine ⟨fun a ha => ?_, ho⟩
      rcases hl a ha with z | z
      · exact h0 a z
      · exact R.none_of z
    · rw [List.getElem?_set_ne e] at h1 h2
      obtain ⟨q1, q2⟩ := R.at_ j m o h1 h2
      exact ⟨q1, q2.keep (fun a ha u z => hx a u (fun y => R.apart k j l m e hk h1 a y ha) z) he⟩
  · have key : ∀ {i j : Nat} {m1 m2 : List Addr}, i ≠ j → (as.set k l')[i]? = some m1 → (as.set k l')[j]? = some m2 → i = k → ∀ a ∈ m1, a ∉ m2 := by
      intro i j m1 m2 ne h1 h2 e a ha hb
      subst e
      rw [List.getElem?_set_self hlt] at h1
      cases h1
      rw [List.getElem?_set_ne ne] at h2
      rcases hl a ha with z | z
      · exact R.apart i j l m2 ne hk h2 a z hb
      · have hj : j < os.length := by
          rw [← R.len]; exact (List.getElem?_eq_some_iff.mp h2).1
        exact (R.at_ j m2 os[j] h2 (List.getElem?_eq_getElem hj)).2.there a hb z
    by_cases e1 : i = k
    · exact key ne h1 h2 e1 a ha hb
    · by_cases e2 : j = k
      · exact key (Ne.symm ne) h2 h1 e2 a hb ha
      · rw [List.getElem?_set_ne (Ne.symm e1)] at h1
        rw [List.getElem?_set_ne (Ne.symm e2)] at h2
        exact R.apart i j m1 m2 ne h1 h2 a ha hb
theorem Rl.push (R : Rl C as os H) {l : List Addr} {o : OV} (hl : ∀ a ∈ l, H a = none) (s : Same H H') (ho : Ov C H' l o) : Rl C (as ++ [l]) (os ++ [o]) H' := by
  have R' := R.grow s
  refine ⟨R'.same, by rw [List.length_append, List.length_append, R.len]; rfl, fun k m u h1 h2 => ?_, fun i j m1 m2 ne h1 h2 a ha hb => ?_⟩
  · by_cases hk : k < as.length
    · rw [List.getElem?_append_left hk] at h1
      rw [List.getElem?_append_left (by rw [← R.len]; exact hk)] at h2
      exact R'.at_ k m u h1 h2
    · have hlt := (List.getElem?_eq_some_iff.mp h1).1
      rw [List.length_append, List.length_singleton] at hlt
      have e : k = as.length := by omega
      subst e
      rw [List.getElem?_append_right (Nat.le_refl _), Nat.sub_self] at h1
      rw [R.len, List.getElem?_append_right (Nat.le_refl _), Nat.sub_self] at h2
      cases h1; cases h2
      exact ⟨fun a ha => R.none_of (hl a ha), ho⟩
  · have old : ∀ {i : Nat} {m1 : List Addr}, i < as.length → (as ++ [l])[i]? = some m1 → ∀ a ∈ m1, a ∉ l := by
      intro i m1 hi h1 a ha hb
      rw [List.getElem?_append_left hi] at h1
      exact (R.at_ i m1 _ h1 (List.getElem?_eq_getElem (by rw [← R.len]; exact hi))).2.there a ha (hl a hb)
    have new : ∀ {i : Nat} {m1 : List Addr}, ¬ i < as.length → (as ++ [l])[i]? = some m1 → i = as.length ∧ m1 = l := by
      intro i m1 hi h1
      have hlt := (List.getElem?_eq_some_iff.mp h1).1
      rw [List.length_append, List.length_singleton] at hlt
      have e : i = as.length := by omega
      subst e
      rw [List.getElem?_append_right (Nat.le_refl _), Nat.sub_self] at h1
      cases h1
      exact ⟨rfl, rfl⟩
    by_cases hi : i < as.length
    · by_cases hj : j < as.length
      · rw [List.getElem?_append_left hi] at h1
        rw [List.getElem?_append_left hj] at h2
        exact R.apart i j m1 m2 ne h1 h2 a ha hb
      · obtain ⟨_, rfl⟩ := new hj h2
        exact old hi h1 a ha hb
    · obtain ⟨e1, rfl⟩ := new hi h1
      by_cases hj : j < as.length
      · exact old hj h2 a hb ha
      · obtain ⟨e2, _⟩ := new hj h2
        exact ne (e1.trans e2.symm)
theorem le_push {l : List Addr} (s : Same H H') : Le as H (as ++ [l]) H' := ⟨exi_same s, fun k a m h => ⟨m, by
  rw [List.getElem?_append_left (List.getElem?_eq_some_iff.mp h).1]; exact h⟩⟩
theorem Rl.take (R : Rl C as os H) (n : Nat) : Rl C (as.take n) (os.take n) H := by
  have g : ∀ {α : Type} {l : List α} {k : Nat} {x : α}, (l.take n)[k]? = some x → l[k]? = some x := by
    intro α l k x h
    rw [List.getElem?_take] at h
    split at h
    · exact h
    · cases h
  exact ⟨R.same, by rw [List.length_take, List.length_take, R.len], fun k l o h1 h2 => R.at_ k l o (g h1) (g h2), fun i j l m ne h1 h2 => R.apart i j l m ne (g h1) (g h2)⟩
/-- what is kept when slots and objects are forgotten -/
def fits (n : Nat) : Cl → Prop
  | .own k => k < n
  | _ => True
inductive Wc (n : Nat) : List (Option Cl) → List (Option Cl) → Prop where
  | nil : Wc n [] []
  | drop {x : Option Cl} {l m : List (Option Cl)} : Wc n l m → Wc n (x :: l) (none :: m)
  | keep {c : Cl} {l m : List (Option Cl)} : fits n c → Wc n l m → Wc n (some c :: l) (some c :: m)
structure Wk (γ : List (Option Cl)) (os : List OV) (γ' : List (Option Cl)) (os' : List OV) : Prop where
  c : Wc os'.length γ γ'
  o : os' = os.take os'.length
theorem Wc.len {n : Nat} {γ γ' : List (Option Cl)} (h : Wc n γ γ') : γ.length = γ'.length := by
  induction h with
  | nil => rfl
  | drop _ ih => rw [List.length_cons, List.length_cons, ih]
  | keep _ _ ih => rw [List.length_cons, List.length_cons, ih]
theorem Wc.get {n : Nat} {γ γ' : List (Option Cl)} (h : Wc n γ γ') : ∀ {j : Nat} {c : Cl}, γ'[j]? = some (some c) → γ[j]? = some (some c) ∧ fits n c := by
  induction h with
  | nil => intro j c q; simp at q
  | drop _ ih =>
    intro j c q
    cases j with
    | zero => simp at q
    | succ j => exact ih (by simpa using q)
  | keep hf _ ih =>
    intro j c q
    cases j with
    | zero =>
      have e := Option.some.inj (Option.some.inj q)
      subst e
      exact ⟨rfl, hf⟩
    | succ j => exact ih (by simpa using q)
theorem Cv.take {n : Nat} (hn : fits n c) (h : Cv C as H c v) : Cv C (as.take n) H c v := by
  cases c with
  | own k =>
    obtain ⟨a, l, h1, h2⟩ := h
    exact ⟨a, l, by rw [List.getElem?_take, if_pos (show k < n from hn)]; exact h1, h2⟩
  | _ => exact h
theorem Sl.weak {γ' : List (Option Cl)} {n : Nat} (h : Sl C as H σ γ) (w : Wc n γ γ') : Sl C (as.take n) H σ γ' :=
  ⟨h.len.trans w.len, fun j c q => let ⟨q1, q2⟩ := w.get q; let ⟨v, h1, h2⟩ := h.at_ j c q1; ⟨v, h1, h2.take q2⟩⟩
end
/-! ### the judgements -/
def EX (C : Kx) (te : TE) (γ : List (Option Cl)) (os : List OV) (R : Cl → List OV → Prop) : Prop :=
  ∀ as H σ (Q : VK), Rl C as os H → Sl C as H σ γ → (∀ c os' as' H' v, Rl C as' os' H' → Le as H as' H' → Cv C as' H' c v → R c os' → Q v H') → te σ H Q
def AX (C : Kx) (ta : TA) (γ : List (Option Cl)) (os : List OV) (R : List Cl → List OV → Prop) : Prop :=
  ∀ as H σ (Q : List V → Hp → Prop), Rl C as os H → Sl C as H σ γ → (∀ cs os' as' H' vs, Rl C as' os' H' → Le as H as' H' → Paired (Cv C as' H') cs vs → R cs os' → Q vs H') → ta σ H Q
def TX (C : Kx) (tt : TT) (γ : List (Option Cl)) (os : List OV) (R : Bool → List OV → Prop) : Prop :=
  ∀ as H σ (Q : Bool → Hp → Prop), Rl C as os H → Sl C as H σ γ → (∀ b os' as' H', Rl C as' os' H' → Le as H as' H' → R b os' → Q b H') → tt σ H Q
def RX (C : Kx) (r : R2) (c d : Cl) (os : List OV) (R : Cl → List OV → Prop) : Prop :=
  ∀ as H x y (Q : VK), Rl C as os H → Cv C as H c x → Cv C as H d y → (∀ c os' as' H' v, Rl C as' os' H' → Le as H as' H' → Cv C as' H' c v → R c os' → Q v H') → r x y H Q
def UX (C : Kx) (r : V → Hp → VK → Prop) (c : Cl) (os : List OV) (R : Cl → List OV → Prop) : Prop :=
  ∀ as H x (Q : VK), Rl C as os H → Cv C as H c x → (∀ c os' as' H' v, Rl C as' os' H' → Le as H as' H' → Cv C as' H' c v → R c os' → Q v H') → r x H Q
def BX (C : Kx) (r : List V → Hp → VK → Prop) (cs : List Cl) (os : List OV) (R : Cl → List OV → Prop) : Prop :=
  ∀ as H xs (Q : VK), Rl C as os H → Paired (Cv C as H) cs xs → (∀ c os' as' H' v, Rl C as' os' H' → Le as H as' H' → Cv C as' H' c v → R c os' → Q v H') → r xs H Q
def GX (C : Kx) (g : TG) (c : Cl) (γ : List (Option Cl)) (os : List OV) (R : List (Option Cl) → List OV → Prop) : Prop :=
  ∀ as H σ v (Q : L2.St → Hp → Prop), Rl C as os H → Sl C as H σ γ → Cv C as H c v → (∀ γ' os' as' H' σ', Rl C as' os' H' → Le as H as' H' → Sl C as' H' σ' γ' → R γ' os' → Q σ' H') → g v σ H Q
structure En where
  nx : List (Option Cl) → List OV → Prop
  rt : Cl → List OV → Prop
  bk : List (Option Cl) → List OV → Prop := fun _ _ => False
  ct : List (Option Cl) → List OV → Prop := fun _ _ => False
def SX (C : Kx) (ts : TS) (γ : List (Option Cl)) (os : List OV) (E : En) : Prop :=
  ∀ as H σ (D : Ends), Rl C as os H → Sl C as H σ γ →
    (∀ γ' os' as' H' σ', Rl C as' os' H' → ExI H H' → Sl C as' H' σ' γ' → E.nx γ' os' → D.nx σ' H') →
    (∀ c os' as' H' v, Rl C as' os' H' → ExI H H' → Cv C as' H' c v → E.rt c os' → D.rt v H') →
    (∀ γ' os' as' H' σ', Rl C as' os' H' → ExI H H' → Sl C as' H' σ' γ' → E.bk γ' os' → D.bk σ' H') →
    (∀ γ' os' as' H' σ', Rl C as' os' H' → ExI H H' → Sl C as' H' σ' γ' → E.ct γ' os' → D.ct σ' H') → ts D σ H
/-- J yields cs -/
def ItOk (C : Kx) (J : It) (cs : List Cl) (as : List (List Addr)) (H : Hp) : Prop :=
  ∀ os2 as2 H2, Rl C as2 os2 H2 → ExI H H2 → ∀ i, (i < cs.length → J.go i H2) ∧ (i = cs.length → J.stop i H2) ∧ ∀ x H3, i < cs.length → J.yld i H2 x H3 → ∃ c, cs[i]? = some c ∧ Same H2 H3 ∧ Cv C as2 H3 c x
def IX (C : Kx) (wi : TI) (γ : List (Option Cl)) (os : List OV) (R : List Cl → List OV → Prop) : Prop :=
  ∀ as H σ (Q : It → Hp → Prop), Rl C as os H → Sl C as H σ γ → (∀ J cs os' as' H', Rl C as' os' H' → Le as H as' H' → ItOk C J cs as' H' → R cs os' → Q J H') → wi σ H Q
end Pk
/-! Pk, part K: expressions, tests, arguments on data. -/
namespace Pk
open PySem PySem.Spec PyProof.Rows L2

/-! ### views -/
def lsOf (os : List OV) : Cl → Option (List PyData)
  | .dat (.list ds) => some ds
  | .bl ds => some ds
  | .own k => match os[k]? with
    | some (.lst ds) => some ds
    | some (.fl ds) => some ds
    | _ => none
  | _ => none
def tpOf : Cl → Option (List PyData)
  | .dat (.tuple ds) => some ds
  | .lt ds => some ds
  | _ => none
def dcOf (os : List OV) : Cl → Option (List (Crew × PyData))
  | .fd m => some m
  | .own k => match os[k]? with
    | some (.dic m) => some m
    | some (.fm m) => some m
    | _ => none
  | _ => none
/-- the data of cells -/
def dts : List Cl → Option (List PyData)
  | [] => some []
  | .dat d :: r => (dts r).map fun ds => d :: ds
  | _ :: _ => none
section
variable {C : Kx} {as : List (List Addr)} {os : List OV} {H : Hp} {c : Cl} {v : V} {ds : List PyData} {m : List (Crew × PyData)}
theorem ls_of (R : Rl C as os H) (h : Cv C as H c v) (e : lsOf os c = some ds) : ∃ a xs, v = .ref a ∧ SqL C.K H a xs ∧ DdAll H ds xs := by
  cases c with
  | dat d =>
    cases d with
    | list es =>
      cases e
      obtain ⟨a, o, xs, h1, h2, h3⟩ := dd_lst.mp h
      exact ⟨a, xs, h1, .inl (.inr ⟨o, h2⟩), h3⟩
    | _ => cases e
  | bl es =>
    cases e
    obtain ⟨a, xs, h1, h2, h3⟩ := h
    exact ⟨a, xs, h1, R.same.seq h2, DdAll.mono (exi_same R.same) _ _ h3⟩
  | own k =>
    obtain ⟨a, l, h1, h2⟩ := h
    have e' : (match os[k]? with | some (.lst ds) => some ds | some (.fl ds) => some ds | _ => none) = some ds := e
    split at e' <;> rename_i q
    · cases e'
      obtain ⟨b, xs, e1, e2, e3⟩ := (R.at_ k _ _ h1 q).2
      cases e1
      exact ⟨a, xs, h2, .inl (.inl e2), e3⟩
    · cases e'
      obtain ⟨b, o, xs, e1, e2, e3⟩ := (R.at_ k _ _ h1 q).2
      cases e1
      exact ⟨a, xs, h2, .inl (.inr ⟨o, e2⟩), e3⟩
    · cases e'
  | _ => cases e
theorem tp_of (h : Cv C as H c v) (e : tpOf c = some ds) : ∃ a xs, v = .ref a ∧ SqT C.K H a xs ∧ DdAll H ds xs := by
  cases c with
  | dat d =>
    cases d with
    | tuple es =>
      cases e
      obtain ⟨a, o, xs, h1, h2, _, h3⟩ := dd_tup.mp h
      exact ⟨a, xs, h1, .inl (.inr ⟨o, h2⟩), h3⟩
    | _ => cases e
  | lt es => cases e; exact h
  | _ => cases e
theorem dc_of (R : Rl C as os H) (h : Cv C as H c v) (e : dcOf os c = some m) : ∃ p xs, v = .ref p ∧ Rd H p (DnO C.P C.w p xs) ∧ DKV H m xs := by
  cases c with
  | fd es =>
    cases e
    obtain ⟨p, o, xs, h1, h2, h3⟩ := h
    exact ⟨p, xs, h1, .inr ⟨o, h2⟩, h3⟩
  | own k =>
    obtain ⟨a, l, h1, h2⟩ := h
    have e' : (match os[k]? with | some (.dic m) => some m | some (.fm m) => some m | _ => none) = some m := e
    split at e' <;> rename_i q
    · cases e'
      obtain ⟨b, xs, e1, e2, e3⟩ := (R.at_ k _ _ h1 q).2
      cases e1
      exact ⟨a, xs, h2, .inl e2, e3⟩
    · cases e'
      obtain ⟨b, o, xs, e1, e2, e3⟩ := (R.at_ k _ _ h1 q).2
      cases e1
      exact ⟨a, xs, h2, .inr ⟨o, e2⟩, e3⟩
    · cases e'
  | _ => cases e
theorem dts_of : ∀ {cs : List Cl} {ds : List PyData} {vs : List V}, Paired (Cv C as H) cs vs → dts cs = some ds → DdAll H ds vs
  | _, _, _, .nil, e => by cases e; exact DdAll.nil
  | c :: cs, ds, v :: vs, .cons h t, e => by
    cases c with
    | dat d =>
      have e' : (dts cs).map (fun ds => d :: ds) = some ds := e
      obtain ⟨r, e1, rfl⟩ := Option.map_eq_some_iff.mp e'
      exact DdAll.cons h (dts_of t e1)
    | _ => cases e
end
theorem cv_int {C : Kx} {as : List (List Addr)} {H : Hp} {i : Int} : Cv C as H (.dat (.int i)) (.int i) := (show Dd H (.int i) (.int i) from dd_int.mpr rfl)
theorem cv_str {C : Kx} {as : List (List Addr)} {H : Hp} {i : Str} : Cv C as H (.dat (.str i)) (.str i) := (show Dd H (.str i) (.str i) from dd_str.mpr rfl)
theorem cv_bl {C : Kx} {as : List (List Addr)} {H : Hp} {i : Bool} : Cv C as H (.dat (.bool i)) (.bl i) := (show Dd H (.bool i) (.bl i) from dd_bl.mpr rfl)
theorem cv_non {C : Kx} {as : List (List Addr)} {H : Hp} : Cv C as H (.dat .none) .non := (show Dd H .none .non from dd_non.mpr rfl)
theorem cv_of {C : Kx} {as : List (List Addr)} {H : Hp} {d : PyData} {v : V} (h : Cv C as H (.dat d) v) : Dd H d v := h
theorem cv_blE {C : Kx} {as : List (List Addr)} {H : Hp} {b : Bool} {v : V} (h : Cv C as H (.dat (.bool b)) v) : v = .bl b := dd_bl.mp (cv_of h)
theorem cv_intE {C : Kx} {as : List (List Addr)} {H : Hp} {b : Int} {v : V} (h : Cv C as H (.dat (.int b)) v) : v = .int b := dd_int.mp (cv_of h)
theorem cv_strE {C : Kx} {as : List (List Addr)} {H : Hp} {b : Str} {v : V} (h : Cv C as H (.dat (.str b)) v) : v = .str b := dd_str.mp (cv_of h)
/-! ### what is handed on -/
abbrev Kt (C : Kx) (as : List (List Addr)) (H : Hp) (Q : VK) (R : Cl → List OV → Prop) : Prop := ∀ c os' as' H' v, Rl C as' os' H' → Le as H as' H' → Cv C as' H' c v → R c os' → Q v H'
section
variable {C : Kx} {as : List (List Addr)} {os : List OV} {H : Hp} {Q : VK} {R : Cl → List OV → Prop}
theorem Kt.here (k : Kt C as H Q R) (r : Rl C as os H) {c : Cl} {v : V} (h : Cv C as H c v) (q : R c os) : Q v H := k c os as H v r (Le.refl _ _) h q
theorem Kt.tup (k : Kt C as H Q R) (r : Rl C as os H) {ds : List PyData} {xs : List V} (h : DdAll H ds xs) (q : R (.dat (.tuple ds)) os) : NewT H xs Q := fun p o hp hd =>
  k (.dat (.tuple ds)) os as _ _ (r.grow (same_new hp)) (Le.same (same_new hp)) (dd_tup.mpr ⟨p, o, xs, rfl, upd_same, hd, DdAll.mono (exi_same (same_new hp)) _ _ h⟩) q
theorem Kt.lst (k : Kt C as H Q R) (r : Rl C as os H) {ds : List PyData} {xs : List V} (h : DdAll H ds xs) (q : R (.own os.length) (os ++ [.lst ds])) : ∀ p, H p = none → Q (.ref p) (upd H p (.lst xs)) := fun p hp =>
  k (.own os.length) (os ++ [.lst ds]) (as ++ [[p]]) _ _ (r.push (o := .lst ds) (fun a ha => by simp only [List.mem_singleton] at ha; subst ha; exact hp) (same_new hp) ⟨p, xs, rfl, upd_same, DdAll.mono (exi_same (same_new hp)) _ _ h⟩) (le_push (same_new hp))
    ⟨p, [], by rw [← r.len, List.getElem?_append_right (Nat.le_refl _), Nat.sub_self]; rfl, rfl⟩ q
/-- from a later state -/
theorem Kt.from_ {as1 : List (List Addr)} {H1 : Hp} (k : Kt C as H Q R) (l : Le as H as1 H1) : Kt C as1 H1 Q R := fun c os' as' H' v r l' h q => k c os' as' H' v r (l.trans l') h q
theorem Kt.imp {R' : Cl → List OV → Prop} (k : Kt C as H Q R) (h : ∀ c os, R' c os → R c os) : Kt C as H Q R' := fun c os' as' H' v r l hv q => k c os' as' H' v r l hv (h _ _ q)
end
section
variable {C : Kx} {γ : List (Option Cl)} {os : List OV} {R : Cl → List OV → Prop} {ta tb tc te : TE} {tt uu : TT} {ca cb : Cl} {ds es : List PyData}
theorem EX.imp {R' : Cl → List OV → Prop} (h : EX C te γ os R') (k : ∀ c os, R' c os → R c os) : EX C te γ os R := fun as H σ Q r s q => h as H σ Q r s (Kt.imp q k)
theorem ex_var {i : Nat} {c : Cl} (e : γ[i]? = some (some c)) (h : R c os) : EX C (tVar i) γ os R := fun as H σ Q r s k => by
  obtain ⟨v, e1, e2⟩ := s.at_ i c e
  exact ⟨v, e1, Kt.here k r e2 h⟩
theorem ex_int {i : Int} (h : R (.dat (.int i)) os) : EX C (tC (.int i)) γ os R := fun as H σ Q r s k => Kt.here k r (c := .dat (.int i)) cv_int h
theorem ex_str {x : Str} (h : R (.dat (.str x)) os) : EX C (tC (.str x)) γ os R := fun as H σ Q r s k => Kt.here k r (c := .dat (.str x)) cv_str h
theorem ex_bl {b : Bool} (h : R (.dat (.bool b)) os) : EX C (tC (.bl b)) γ os R := fun as H σ Q r s k => Kt.here k r (c := .dat (.bool b)) cv_bl h
theorem ex_non (h : R (.dat .none) os) : EX C (tC .non) γ os R := fun as H σ Q r s k => Kt.here k r (c := .dat .none) cv_non h
theorem ex_ty {n : String} (h : R (.ty n) os) : EX C (tC (.ty n)) γ os R := fun as H σ Q r s k => Kt.here k r (c := .ty n) rfl h
theorem ex_fn {a : Addr} (h : R (.fn a) os) : EX C (tC (.ref a)) γ os R := fun as H σ Q r s k => Kt.here k r (c := .fn a) rfl h
theorem ex_op {r : R2} (h : EX C ta γ os fun c os1 => EX C tb γ os1 fun d os2 => RX C r c d os2 R) : EX C (tOp r ta tb) γ os R := fun as H σ Q rl s k =>
  h as H σ _ rl s fun c os1 as1 H1 x r1 l1 hx h1 => h1 as1 H1 σ _ r1 (s.mono l1) fun d os2 as2 H2 y r2 l2 hy h2 => h2 as2 H2 x y Q r2 (hx.mono l2) hy (Kt.from_ k (l1.trans l2))
theorem ex_un {r : V → Hp → VK → Prop} (h : EX C ta γ os fun c os1 => UX C r c os1 R) : EX C (tUn r ta) γ os R := fun as H σ Q rl s k =>
  h as H σ _ rl s fun c os1 as1 H1 x r1 l1 hx h1 => h1 as1 H1 x Q r1 hx (Kt.from_ k l1)
theorem ex_if (h : TX C tt γ os fun b os1 => (b = true → EX C ta γ os1 R) ∧ (b = false → EX C tb γ os1 R)) : EX C (tIf tt ta tb) γ os R := fun as H σ Q rl s k =>
  h as H σ _ rl s fun b os1 as1 H1 r1 l1 h1 => by
    cases b with
    | true => exact (if_pos rfl : (if true = true then ta σ H1 Q else tb σ H1 Q) = _) ▸ h1.1 rfl as1 H1 σ Q r1 (s.mono l1) (Kt.from_ k l1)
    | false => exact (if_neg Bool.false_ne_true : (if false = true then ta σ H1 Q else tb σ H1 Q) = _) ▸ h1.2 rfl as1 H1 σ Q r1 (s.mono l1) (Kt.from_ k l1)
theorem ex_and (h : EX C ta γ os fun c os1 => ∃ b, c = .dat (.bool b) ∧ (b = true → EX C tb γ os1 R) ∧ (b = false → R (.dat (.bool false)) os1)) : EX C (tAndV ta tb) γ os R := fun as H σ Q rl s k =>
  h as H σ _ rl s fun c os1 as1 H1 x r1 l1 hx ⟨b, e, h1, h2⟩ => by
    subst e
    refine ⟨b, cv_blE hx, ?_⟩
    cases b with
    | true => rw [if_pos rfl]; exact h1 rfl as1 H1 σ Q r1 (s.mono l1) (Kt.from_ k l1)
    | false => rw [if_neg Bool.false_ne_true]; exact Kt.here (Kt.from_ k l1) r1 (c := .dat (.bool false)) cv_bl (h2 rfl)
theorem ex_or (h : EX C ta γ os fun c os1 => ∃ b, c = .dat (.bool b) ∧ (b = true → R (.dat (.bool true)) os1) ∧ (b = false → EX C tb γ os1 R)) : EX C (tOrV ta tb) γ os R := fun as H σ Q rl s k =>
  h as H σ _ rl s fun c os1 as1 H1 x r1 l1 hx ⟨b, e, h1, h2⟩ => by
    subst e
    refine ⟨b, cv_blE hx, ?_⟩
    cases b with
    | true => rw [if_pos rfl]; exact Kt.here (Kt.from_ k l1) r1 (c := .dat (.bool true)) cv_bl (h1 rfl)
    | false => rw [if_neg Bool.false_ne_true]; exact h2 rfl as1 H1 σ Q r1 (s.mono l1) (Kt.from_ k l1)
theorem ex_not (h : EX C ta γ os fun c os1 => ∃ b, c = .dat (.bool b) ∧ R (.dat (.bool !b)) os1) : EX C (tNotV ta) γ os R := fun as H σ Q rl s k =>
  h as H σ _ rl s fun c os1 as1 H1 x r1 l1 hx ⟨b, e, h1⟩ => by
    subst e
    exact ⟨b, cv_blE hx, Kt.here (Kt.from_ k l1) r1 (c := .dat (.bool !b)) cv_bl h1⟩
theorem ex_chain {r r' : R2} (h : EX C ta γ os fun c os1 => EX C tb γ os1 fun d os2 => RX C r c d os2 fun z os3 => ∃ b, z = .dat (.bool b) ∧ (b = true → EX C tc γ os3 fun e os4 => RX C r' d e os4 R) ∧ (b = false → R (.dat (.bool false)) os3)) :
    EX C (tChain r r' ta tb tc) γ os R := fun as H σ Q rl s k =>
  h as H σ _ rl s fun c os1 as1 H1 x r1 l1 hx h1 => h1 as1 H1 σ _ r1 (s.mono l1) fun d os2 as2 H2 y r2 l2 hy h2 =>
    h2 as2 H2 x y _ r2 (hx.mono l2) hy fun z os3 as3 H3 zv r3 l3 hz ⟨b, e, h3, h4⟩ => by
      subst e
      refine ⟨b, cv_blE hz, ?_⟩
      cases b with
      | true =>
        first
          | rw [if_pos rfl]
          | skip
        exact h3 rfl as3 H3 σ _ r3 ((s.mono (l1.trans l2)).mono l3) fun e os4 as4 H4 w4 r4 l4 hw h5 => h5 as4 H4 y w4 Q r4 ((hy.mono l3).mono l4) hw (Kt.from_ k ((l1.trans (l2.trans l3)).trans l4))
      | false =>
        first
          | rw [if_neg Bool.false_ne_true]
          | skip
        exact Kt.here (Kt.from_ k ((l1.trans l2).trans l3)) r3 (c := .dat (.bool false)) cv_bl (h4 rfl)
/-! arguments -/
theorem ax_nil {R : List Cl → List OV → Prop} (h : R [] os) : AX C tNil γ os R := fun as H σ Q r s k => k [] os as H [] r (Le.refl _ _) .nil h
theorem paired_mono {as1 as2 : List (List Addr)} {H1 H2 : Hp} (l : Le as1 H1 as2 H2) : ∀ {cs : List Cl} {vs : List V}, Paired (Cv C as1 H1) cs vs → Paired (Cv C as2 H2) cs vs
  | _, _, .nil => .nil
  | _, _, .cons h t => .cons (h.mono l) (paired_mono l t)
theorem ax_cons {t : TA} {R : List Cl → List OV → Prop} (h : EX C ta γ os fun c os1 => AX C t γ os1 fun cs os2 => R (c :: cs) os2) : AX C (tCons ta t) γ os R := fun as H σ Q rl s k =>
  h as H σ _ rl s fun c os1 as1 H1 x r1 l1 hx h1 => h1 as1 H1 σ _ r1 (s.mono l1) fun cs os2 as2 H2 xs r2 l2 hxs h2 => k (c :: cs) os2 as2 H2 (x :: xs) r2 (l1.trans l2) (.cons (hx.mono l2) hxs) h2
/-! displays -/
theorem ex_tup {t : TA} (h : AX C t γ os fun cs os1 => ∃ ds, dts cs = some ds ∧ ds.length ≤ sizeLine ∧ R (.dat (.tuple ds)) os1) : EX C (tTupP t) γ os R := fun as H σ Q rl s k =>
  h as H σ _ rl s fun cs os1 as1 H1 vs r1 l1 hv ⟨ds, e, hz, q⟩ => by
    have hd := dts_of hv e
    exact ⟨by rw [hd.length]; exact hz, Kt.tup (Kt.from_ k l1) r1 hd q⟩
theorem ex_lst {t : TA} (h : AX C t γ os fun cs os1 => ∃ ds, dts cs = some ds ∧ ds.length ≤ sizeLine ∧ R (.own os1.length) (os1 ++ [.lst ds])) : EX C (tLst t) γ os R := fun as H σ Q rl s k =>
  h as H σ _ rl s fun cs os1 as1 H1 vs r1 l1 hv ⟨ds, e, hz, q⟩ => by
    have hd := dts_of hv e
    exact ⟨by rw [hd.length]; exact hz, Kt.lst (Kt.from_ k l1) r1 hd q⟩
/-- freezing a list that the frame owns -/
theorem ex_frz (h : EX C te γ os fun c os1 => ∃ k ds, c = .own k ∧ os1[k]? = some (.lst ds) ∧ R (.dat (.list ds)) (os1.set k (.fl ds))) : EX C (tFrz te) γ os R := fun as H σ Q rl s kk =>
  h as H σ _ rl s fun c os1 as1 H1 x r1 l1 hx ⟨k, ds, e, ek, q⟩ => by
    subst e
    obtain ⟨a, l, h1, rfl⟩ := hx
    obtain ⟨hn, b, xs, e1, e2, e3⟩ := r1.at_ k _ _ h1 ek
    cases e1
    refine ⟨a, xs, rfl, e2, fun o => ?_⟩
    have hmut : ∀ x u, x ∉ [a] → H1 x = some u → upd H1 a (.frz o (.lst xs)) x = some u := fun x u hx e => by rw [upd_ne (fun z => hx (by simp [z]))]; exact e
    have he : ExI H1 (upd H1 a (.frz o (.lst xs))) := exi_mut e2 (by simp [Imm])
    have dd : DdAll (upd H1 a (.frz o (.lst xs))) ds xs := DdAll.mono he _ _ e3
    refine kk (.dat (.list ds)) (os1.set k (.fl ds)) (as1.set k [a]) _ _ (r1.put h1 hn hmut he (fun x hx => .inl hx) ⟨a, o, xs, rfl, upd_same, dd⟩) ?_ (dd_lst.mpr ⟨a, o, xs, rfl, upd_same, dd⟩) q
    refine l1.trans ⟨he, fun j y m hj => ?_⟩
    by_cases z : k = j
    · subst z
      rw [h1] at hj
      cases hj
      exact ⟨[], List.getElem?_set_self (List.getElem?_eq_some_iff.mp h1).1⟩
    · exact ⟨m, by rw [List.getElem?_set_ne z]; exact hj⟩
/-- .. that was just made -/
theorem ex_frzT (h : EX C te γ os fun c os1 => ∃ k ds, c = .own k ∧ os.length ≤ k ∧ os1[k]? = some (.lst ds) ∧ os1.take os.length = os ∧ R (.dat (.list ds)) os) : EX C (tFrz te) γ os R := fun as H σ Q rl s kk =>
  h as H σ _ rl s fun c os1 as1 H1 x r1 l1 hx ⟨k, ds, e, hk, lk, eo, q⟩ => by
    subst e
    obtain ⟨a, l, h1, rfl⟩ := hx
    obtain ⟨hn, b, xs, e1, e2, e3⟩ := r1.at_ k _ _ h1 lk
    cases e1
    refine ⟨a, xs, rfl, e2, fun o => ?_⟩
    have hmut : ∀ x u, x ∉ [a] → H1 x = some u → upd H1 a (.frz o (.lst xs)) x = some u := fun x u hx e => by rw [upd_ne (fun z => hx (by simp [z]))]; exact e
    have he : ExI H1 (upd H1 a (.frz o (.lst xs))) := exi_mut e2 (by simp [Imm])
    have dd : DdAll (upd H1 a (.frz o (.lst xs))) ds xs := DdAll.mono he _ _ e3
    have r2 := (r1.put h1 hn hmut he (fun x hx => .inl hx) (o' := .fl ds) ⟨a, o, xs, rfl, upd_same, dd⟩).take os.length
    have eos : (os1.set k (.fl ds)).take os.length = os := by
      rw [List.take_set_of_le hk, eo]
    rw [eos] at r2
    refine kk (.dat (.list ds)) os _ _ _ r2 ⟨l1.ex.trans he, fun j y m hj => ?_⟩ (dd_lst.mpr ⟨a, o, xs, rfl, upd_same, dd⟩) q
    obtain ⟨m', hj'⟩ := l1.ad j y m hj
    have hlt : j < os.length := by rw [← rl.len]; exact (List.getElem?_eq_some_iff.mp hj).1
    exact ⟨m', by rw [List.getElem?_take, if_pos hlt, List.getElem?_set_ne (by omega)]; exact hj'⟩
/-! tests -/
theorem tx_b {R : Bool → List OV → Prop} (h : EX C te γ os fun c os1 => ∃ b, c = .dat (.bool b) ∧ R b os1) : TX C (tB te) γ os R := fun as H σ Q rl s k =>
  h as H σ _ rl s fun c os1 as1 H1 x r1 l1 hx ⟨b, e, q⟩ => by
    subst e
    exact ⟨b, cv_blE hx, k b os1 as1 H1 r1 l1 q⟩
theorem tx_test {R : Bool → List OV → Prop} (h : EX C te γ os fun c os1 => ∃ b, c = .dat (.bool b) ∧ R b os1) : TX C (tTest te) γ os R := fun as H σ Q rl s k =>
  h as H σ _ rl s fun c os1 as1 H1 x r1 l1 hx ⟨b, e, q⟩ => by
    subst e
    exact ⟨b, cv_blE hx, k b os1 as1 H1 r1 l1 q⟩
theorem tx_yes {R : Bool → List OV → Prop} (h : R true os) : TX C tYes γ os R := fun as H σ Q rl s k => k true os as H rl (Le.refl _ _) h
theorem tx_and {R : Bool → List OV → Prop} (h : TX C tt γ os fun b os1 => (b = true → TX C uu γ os1 R) ∧ (b = false → R false os1)) : TX C (tAnd tt uu) γ os R := fun as H σ Q rl s k =>
  h as H σ _ rl s fun b os1 as1 H1 r1 l1 h1 => by
    cases b with
    | true => rw [if_pos rfl]; exact h1.1 rfl as1 H1 σ Q r1 (s.mono l1) fun b os' as' H' r l q => k b os' as' H' r (l1.trans l) q
    | false => rw [if_neg Bool.false_ne_true]; exact k false os1 as1 H1 r1 l1 (h1.2 rfl)
theorem tx_or {R : Bool → List OV → Prop} (h : TX C tt γ os fun b os1 => (b = true → R true os1) ∧ (b = false → TX C uu γ os1 R)) : TX C (tOr tt uu) γ os R := fun as H σ Q rl s k =>
  h as H σ _ rl s fun b os1 as1 H1 r1 l1 h1 => by
    cases b with
    | true => rw [if_pos rfl]; exact k true os1 as1 H1 r1 l1 (h1.1 rfl)
    | false => rw [if_neg Bool.false_ne_true]; exact h1.2 rfl as1 H1 σ Q r1 (s.mono l1) fun b os' as' H' r l q => k b os' as' H' r (l1.trans l) q
theorem tx_not {R : Bool → List OV → Prop} (h : TX C tt γ os fun b os1 => R (!b) os1) : TX C (tNot tt) γ os R := fun as H σ Q rl s k =>
  h as H σ _ rl s fun b os1 as1 H1 r1 l1 h1 => k (!b) os1 as1 H1 r1 l1 h1
end
end Pk
/-! Pk, part L: operators and built-in calls on data. -/
namespace Pk
open PySem PySem.Spec PyProof.Rows L2

def tyNm : PyData → String
  | .none => "NoneType"
  | .bool _ => "bool"
  | .int _ => "int"
  | .str _ => "str"
  | .list _ => "list"
  | .tuple _ => "tuple"
  | .dict _ => "dict"
def isI : PyData → Bool
  | .int _ => true
  | .bool _ => true
  | _ => false
def isB : PyData → Bool
  | .bool _ => true
  | _ => false
def isS : PyData → Bool
  | .str _ => true
  | _ => false
def isT : PyData → Bool
  | .tuple _ => true
  | _ => false
def isN : Cl → Bool
  | .dat .none => true
  | _ => false
section
variable {C : Kx} {as : List (List Addr)} {os : List OV} {H : Hp} {R : Cl → List OV → Prop} {c d : Cl} {v : V} {x y : PyData} {ds es : List PyData} {i j : Int} {m : List (Crew × PyData)} {k : Crew}
theorem isN_of (h : Cv C as H c v) : decide (v = .non) = isN c := by
  cases c with
  | dat d =>
    have h := cv_of h
    cases d with
    | none => rw [dd_non.mp h]; rfl
    | bool b => rw [dd_bl.mp h]; rfl
    | int b => rw [dd_int.mp h]; rfl
    | str b => rw [dd_str.mp h]; rfl
    | list b => obtain ⟨_, _, _, rfl, _⟩ := dd_lst.mp h; rfl
    | tuple b => obtain ⟨_, _, _, rfl, _⟩ := dd_tup.mp h; rfl
    | dict b => simp only [Dd] at h
  | fd m => obtain ⟨_, _, _, rfl, _⟩ := h; rfl
  | t3 _ _ _ => obtain ⟨_, _, _, _, _, rfl, _⟩ := h; rfl
  | lt _ => obtain ⟨_, _, rfl, _⟩ := h; rfl
  | bl _ => obtain ⟨_, _, rfl, _⟩ := h; rfl
  | own _ => obtain ⟨_, _, _, rfl⟩ := h; rfl
  | fn _ => rw [show v = _ from h]; rfl
  | ty _ => rw [show v = _ from h]; rfl
/-! ### operators -/
theorem rx_i0 {g : Int → Int → V} {z : PyData} (hg : ∀ H, Dd H z (g i j)) (h : R (.dat z) os) : RX C (rI0 g) (.dat (.int i)) (.dat (.int j)) os R := fun as H x y Q r hx hy q =>
  ⟨i, j, cv_intE hx, cv_intE hy, Kt.here q r (c := .dat z) (hg H) h⟩
theorem rx_i {g : Int → Int → V} {P : Int → Int → Prop} {z : PyData} (hg : ∀ H, Dd H z (g i j)) (hp : P i j) (h : R (.dat z) os) : RX C (rI P g) (.dat (.int i)) (.dat (.int j)) os R := fun as H x y Q r hx hy q =>
  ⟨i, j, cv_intE hx, cv_intE hy, hp, Kt.here q r (c := .dat z) (hg H) h⟩
theorem rx_add (h : R (.dat (.int (i + j))) os) : RX C (rI0 fun i j => .int (i + j)) (.dat (.int i)) (.dat (.int j)) os R := rx_i0 (fun _ => dd_int.mpr rfl) h
theorem rx_sub (h : R (.dat (.int (i - j))) os) : RX C (rI0 fun i j => .int (i - j)) (.dat (.int i)) (.dat (.int j)) os R := rx_i0 (fun _ => dd_int.mpr rfl) h
theorem rx_mul (hp : CMul i j) (h : R (.dat (.int (i * j))) os) : RX C (rI CMul fun i j => .int (i * j)) (.dat (.int i)) (.dat (.int j)) os R := rx_i (fun _ => dd_int.mpr rfl) hp h
theorem rx_mod (hp : 0 < j) (h : R (.dat (.int (i % j))) os) : RX C (rI (fun _ j => 0 < j) fun i j => .int (i % j)) (.dat (.int i)) (.dat (.int j)) os R := rx_i (fun _ => dd_int.mpr rfl) hp h
theorem rx_lt (h : R (.dat (.bool (decide (i < j)))) os) : RX C (rI0 fun i j => .bl (decide (i < j))) (.dat (.int i)) (.dat (.int j)) os R := rx_i0 (fun _ => dd_bl.mpr rfl) h
theorem rx_le (h : R (.dat (.bool (decide (i ≤ j)))) os) : RX C (rI0 fun i j => .bl (decide (i ≤ j))) (.dat (.int i)) (.dat (.int j)) os R := rx_i0 (fun _ => dd_bl.mpr rfl) h
theorem rx_gt (h : R (.dat (.bool (decide (j < i)))) os) : RX C (rI0 fun i j => .bl (decide (j < i))) (.dat (.int i)) (.dat (.int j)) os R := rx_i0 (fun _ => dd_bl.mpr rfl) h
theorem rx_ge (h : R (.dat (.bool (decide (j ≤ i)))) os) : RX C (rI0 fun i j => .bl (decide (j ≤ i))) (.dat (.int i)) (.dat (.int j)) os R := rx_i0 (fun _ => dd_bl.mpr rfl) h
theorem ux_neg (h : R (.dat (.int (-i))) os) : UX C (rU fun i => .int (-i)) (.dat (.int i)) os R := fun as H x Q r hx q => ⟨i, cv_intE hx, Kt.here q r (c := .dat (.int (-i))) cv_int h⟩
theorem rx_isN (h : R (.dat (.bool (isN c))) os) : RX C (fun x y H Q => y = .non ∧ Q (.bl (decide (x = .non))) H) c (.dat .none) os R := fun as H x y Q r hx hy q =>
  ⟨dd_non.mp (cv_of hy), Kt.here q r (c := .dat (.bool (isN c))) (by rw [isN_of hx]; exact cv_bl) h⟩
theorem rx_notN (h : R (.dat (.bool (!isN c))) os) : RX C (fun x y H Q => y = .non ∧ Q (.bl (!decide (x = .non))) H) c (.dat .none) os R := fun as H x y Q r hx hy q =>
  ⟨dd_non.mp (cv_of hy), Kt.here q r (c := .dat (.bool (!isN c))) (by rw [isN_of hx]; exact cv_bl) h⟩
theorem rx_eqI (h : R (.dat (.bool (decide (i = j)))) os) : RX C (rEqU C.K) (.dat (.int i)) (.dat (.int j)) os R := fun as H x y Q r hx hy q => by
  rw [cv_intE hx, cv_intE hy]
  exact .inl ⟨rfl, Kt.here q r (c := .dat (.bool (decide (i = j)))) (by rw [dec_int, Bool.beq_eq_decide_eq]; exact cv_bl) h⟩
theorem rx_neI (h : R (.dat (.bool (!decide (i = j)))) os) : RX C (rNeU C.K) (.dat (.int i)) (.dat (.int j)) os R := fun as H x y Q r hx hy q => by
  rw [cv_intE hx, cv_intE hy]
  exact .inl ⟨rfl, Kt.here q r (c := .dat (.bool (!decide (i = j)))) (by rw [dec_int, Bool.beq_eq_decide_eq]; exact cv_bl) h⟩
theorem rx_eqS {s t : Str} (h : R (.dat (.bool (s == t))) os) : RX C (rEqU C.K) (.dat (.str s)) (.dat (.str t)) os R := fun as H x y Q r hx hy q => by
  rw [cv_strE hx, cv_strE hy]
  exact .inl ⟨rfl, Kt.here q r (c := .dat (.bool (s == t))) (by rw [dec_str]; exact cv_bl) h⟩
theorem rx_neS {s t : Str} (h : R (.dat (.bool (!(s == t)))) os) : RX C (rNeU C.K) (.dat (.str s)) (.dat (.str t)) os R := fun as H x y Q r hx hy q => by
  rw [cv_strE hx, cv_strE hy]
  exact .inl ⟨rfl, Kt.here q r (c := .dat (.bool (!(s == t)))) (by rw [dec_str]; exact cv_bl) h⟩
/-- data that a cell is, for == -/
def eqOf (os : List OV) (c : Cl) : Option PyData := match c with
  | .dat d => some d
  | c => match lsOf os c with
    | some ds => some (.list ds)
    | none => (tpOf c).map .tuple
theorem dp_of (r : Rl C as os H) (h : Cv C as H c v) (e : eqOf os c = some x) : Dp C.K H v x := by
  have gl : ∀ {ds : List PyData}, lsOf os c = some ds → Dp C.K H v (.list ds) := fun {ds} e => by
    obtain ⟨a, xs, rfl, h1, h2⟩ := ls_of r h e
    exact .lst h1 (DdAll.dp _ _ h2)
  have gt : ∀ {ds : List PyData}, tpOf c = some ds → Dp C.K H v (.tuple ds) := fun {ds} e => by
    obtain ⟨a, xs, rfl, h1, h2⟩ := tp_of h e
    exact .tup h1 (DdAll.dp _ _ h2)
  have go : (match lsOf os c with | some ds => some (.list ds) | none => (tpOf c).map .tuple) = some x → Dp C.K H v x := fun e => by
    split at e
    · rename_i ds q
      cases e
      exact gl q
    · obtain ⟨ds, q, rfl⟩ := Option.map_eq_some_iff.mp e
      exact gt q
  cases c with
  | dat d => cases e; exact Dd.dp _ _ h
  | _ => exact go e
theorem rx_eqD (e1 : eqOf os c = some x) (e2 : eqOf os d = some y) (s1 : SeqAt.shaped x = true) (s2 : SeqAt.shaped y = true) (h : R (.dat (.bool (PyData.eqv x y))) os) : RX C (rEqU C.K) c d os R := fun as H u w Q r hx hy q =>
  .inr ⟨x, y, dp_of r hx e1, dp_of r hy e2, s1, s2, Kt.here q r (c := .dat (.bool (PyData.eqv x y))) cv_bl h⟩
theorem rx_neD (e1 : eqOf os c = some x) (e2 : eqOf os d = some y) (s1 : SeqAt.shaped x = true) (s2 : SeqAt.shaped y = true) (h : R (.dat (.bool (!PyData.eqv x y))) os) : RX C (rNeU C.K) c d os R := fun as H u w Q r hx hy q =>
  .inr ⟨x, y, dp_of r hx e1, dp_of r hy e2, s1, s2, Kt.here q r (c := .dat (.bool (!PyData.eqv x y))) cv_bl h⟩
/-! in -/
theorem rx_inT (e1 : eqOf os c = some x) (e2 : eqOf os d = some (.tuple ds)) (s1 : SeqAt.shaped x = true) (s2 : SeqAt.shaped (.tuple ds) = true) (h : R (.dat (.bool (ds.any fun z => PyData.eqv z x))) os) : RX C (rInU C.K C.P C.w false) c d os R := fun as H u w Q r hx hy q =>
  .inr (.inr ⟨x, ds, dp_of r hx e1, dp_of r hy e2, s1, s2, Kt.here q r (c := .dat (.bool (ds.any fun z => PyData.eqv z x))) cv_bl h⟩)
theorem rx_notInT (e1 : eqOf os c = some x) (e2 : eqOf os d = some (.tuple ds)) (s1 : SeqAt.shaped x = true) (s2 : SeqAt.shaped (.tuple ds) = true) (h : R (.dat (.bool (!ds.any fun z => PyData.eqv z x))) os) : RX C (rInU C.K C.P C.w true) c d os R := fun as H u w Q r hx hy q =>
  .inr (.inr ⟨x, ds, dp_of r hx e1, dp_of r hy e2, s1, s2, Kt.here q r (c := .dat (.bool (!ds.any fun z => PyData.eqv z x))) cv_bl h⟩)
theorem inV_ints {n : Int} : ∀ ns : List Int, inV (.int n) (ns.map V.int) = decide (n ∈ ns)
  | [] => rfl
  | a :: r => by
    have ih := inV_ints (n := n) r
    unfold inV at ih ⊢
    rw [List.map_cons, List.any_cons, ih]
    have : eqV (.int a) (.int n) = decide (n = a) := by
      by_cases e : a = n
      · subst e; simp [eqV]
      · have e2 : ¬ n = a := fun z => e z.symm
        simp [eqV, e, e2]
    rw [this]
    simp [List.mem_cons, Bool.decide_or]
theorem flat_ints : ∀ ns : List Int, (ns.map V.int).all flatV = true
  | [] => rfl
  | a :: r => by rw [List.map_cons, List.all_cons, flat_ints r]; rfl
theorem rx_inI {n : Int} {ns : List Int} (e : lsOf os d = some (ns.map .int) ∨ tpOf d = some (ns.map .int)) (h : R (.dat (.bool (decide (n ∈ ns)))) os) : RX C (rInU C.K C.P C.w false) (.dat (.int n)) d os R := fun as H u w Q r hx hy q => by
  rw [cv_intE hx]
  have fin : Q (.bl (inV (.int n) (ns.map V.int))) H := Kt.here q r (c := .dat (.bool (decide (n ∈ ns)))) (by rw [inV_ints]; exact cv_bl) h
  rcases e with e | e
  · obtain ⟨a, xs, rfl, h1, h2⟩ := ls_of r hy e
    rw [DdAll.ints] at h2
    subst h2
    exact .inl ⟨a, _, rfl, .inl h1, rfl, flat_ints ns, fin⟩
  · obtain ⟨a, xs, rfl, h1, h2⟩ := tp_of hy e
    rw [DdAll.ints] at h2
    subst h2
    exact .inl ⟨a, _, rfl, .inr h1, rfl, flat_ints ns, fin⟩
theorem rx_inN (e : dcOf os d = some m) (h : R (.dat (.bool (look m k).isSome)) os) : RX C (rInU C.K C.P C.w false) (.dat k.d) d os R := fun as H u w Q r hx hy q => by
  obtain ⟨p, xs, rfl, h1, h2⟩ := dc_of r hy e
  obtain ⟨b, o, zs, rfl, q1⟩ := dd_tup.mp (show Dd H (.tuple _) u from hx)
  exact .inr (.inl ⟨b, p, xs, m, k, rfl, rfl, h1, h2, hx, Kt.here q r (c := .dat (.bool (look m k).isSome)) cv_bl h⟩)
theorem rx_notInN (e : dcOf os d = some m) (h : R (.dat (.bool (!(look m k).isSome))) os) : RX C (rInU C.K C.P C.w true) (.dat k.d) d os R := fun as H u w Q r hx hy q => by
  obtain ⟨p, xs, rfl, h1, h2⟩ := dc_of r hy e
  obtain ⟨b, o, zs, rfl, q1⟩ := dd_tup.mp (show Dd H (.tuple _) u from hx)
  exact .inr (.inl ⟨b, p, xs, m, k, rfl, rfl, h1, h2, hx, Kt.here q r (c := .dat (.bool (!(look m k).isSome))) cv_bl h⟩)
/-! subscripts -/
theorem atI_get {n : Nat} {α : Type} {xs : List α} (hl : xs.length = n) {i : Int} : atI xs i = (ixN n i).bind fun j => xs[j]? := by subst hl; rfl
theorem rx_ixT (e : tpOf c = some ds) (ei : atI ds i = some x) (h : R (.dat x) os) : RX C (rIxU C.K C.P C.w) c (.dat (.int i)) os R := fun as H u w Q r hx hy q => by
  obtain ⟨a, xs, rfl, h1, h2⟩ := tp_of hx e
  rw [cv_intE hy]
  unfold atI at ei
  obtain ⟨j, e1, e2⟩ := Option.bind_eq_some_iff.mp ei
  obtain ⟨z, hz, dz⟩ := h2.get e2
  exact .inl (.inr (.inl ⟨a, xs, i, z, rfl, rfl, h1, by rw [atI_get h2.length, e1]; exact hz, Kt.here q r (c := .dat x) dz h⟩))
theorem rx_ixL (e : lsOf os c = some ds) (ei : atI ds i = some x) (h : R (.dat x) os) : RX C (rIxU C.K C.P C.w) c (.dat (.int i)) os R := fun as H u w Q r hx hy q => by
  obtain ⟨a, xs, rfl, h1, h2⟩ := ls_of r hx e
  rw [cv_intE hy]
  unfold atI at ei
  obtain ⟨j, e1, e2⟩ := Option.bind_eq_some_iff.mp ei
  obtain ⟨z, hz, dz⟩ := h2.get e2
  exact .inl (.inl ⟨a, xs, i, z, rfl, rfl, h1, by rw [atI_get h2.length, e1]; exact hz, Kt.here q r (c := .dat x) dz h⟩)
theorem rx_ixN (e : dcOf os c = some m) (ei : look m k = some x) (h : R (.dat x) os) : RX C (rIxU C.K C.P C.w) c (.dat k.d) os R := fun as H u w Q r hx hy q => by
  obtain ⟨p, xs, rfl, h1, h2⟩ := dc_of r hx e
  obtain ⟨b, o, zs, rfl, q1⟩ := dd_tup.mp (show Dd H (.tuple _) w from hy)
  exact .inr (.inl ⟨p, b, xs, m, k, x, rfl, rfl, h1, h2, hy, ei, fun v dv => Kt.here q r (c := .dat x) dv h⟩)
/-! tuples -/
theorem rx_cat (e1 : tpOf c = some ds) (e2 : tpOf d = some es) (i1 : c = .dat (.tuple ds)) (i2 : d = .dat (.tuple es)) (hz : ds.length + es.length ≤ sizeLine) (h : R (.dat (.tuple (ds ++ es))) os) : RX C (rCatP C.K) c d os R := fun as H u w Q r hx hy q => by
  subst i1 i2
  obtain ⟨a, xs, rfl, h1, h2⟩ := tp_of hx e1
  obtain ⟨b, ys, rfl, h3, h4⟩ := tp_of hy e2
  refine ⟨a, b, xs, ys, rfl, rfl, h1, h3, by rw [h2.length, h4.length]; exact hz, fun ez => ?_, fun _ ez => ?_, fun _ _ => Kt.tup q r (h2.append h4) h⟩
  · have : ds = [] := List.length_eq_zero_iff.mp (by rw [← h2.length, ez]; rfl)
    subst this
    exact Kt.here q r hy h
  · have : es = [] := List.length_eq_zero_iff.mp (by rw [← h4.length, ez]; rfl)
    subst this
    rw [List.append_nil] at h
    exact Kt.here q r hx h
theorem rx_rep {n : Int} (h0 : 0 ≤ n) (h1 : n ≤ 1000) (hz : ds.length ≤ 1000) (hne : ds ≠ []) (h : R (.dat (.tuple (List.replicate n.toNat ds).flatten)) os) : RX C (rRepP C.K) (.dat (.tuple ds)) (.dat (.int n)) os R := fun as H u w Q r hx hy q => by
  obtain ⟨a, xs, rfl, h2, h3⟩ := tp_of hx (ds := ds) rfl
  have rep : ∀ k : Nat, DdAll H (List.replicate k ds).flatten (List.replicate k xs).flatten := by
    intro k
    induction k with
    | zero => exact DdAll.nil
    | succ k ih => rw [List.replicate_succ, List.replicate_succ, List.flatten_cons, List.flatten_cons]; exact h3.append ih
  refine ⟨a, n, xs, rfl, cv_intE hy, h2, fun z => hne (List.length_eq_zero_iff.mp (by rw [← h3.length, z]; rfl)), h0, h1, by rw [h3.length]; exact hz, fun e => ?_, fun e => ?_, fun _ => Kt.tup q r (rep _) h⟩
  · subst e
    exact Kt.tup q r DdAll.nil h
  · subst e
    refine Kt.here q r hx ?_
    have : (List.replicate (1 : Int).toNat ds).flatten = ds := by
      show (List.replicate 1 ds).flatten = ds
      simp
    rw [this] at h
    exact h
/-- lists of the frame's own -/
theorem rx_catL {k1 k2 : Nat} (e1 : os[k1]? = some (.lst ds)) (e2 : os[k2]? = some (.lst es)) (hz : ds.length + es.length ≤ sizeLine) (h : R (.own os.length) (os ++ [.lst (ds ++ es)])) : RX C rCat (.own k1) (.own k2) os R := fun as H u w Q r hx hy q => by
  obtain ⟨a, l, h1, rfl⟩ := hx
  obtain ⟨b, l', h2, rfl⟩ := hy
  obtain ⟨_, a', xs, q1, q2, q3⟩ := r.at_ _ _ _ h1 e1
  cases q1
  obtain ⟨_, b', ys, p1, p2, p3⟩ := r.at_ _ _ _ h2 e2
  cases p1
  exact ⟨a, b, xs, ys, rfl, rfl, q2, p2, by rw [q3.length, p3.length]; exact hz, Kt.lst q r (q3.append p3) h⟩
/-- x < y -/
theorem rx_ltI (h : R (.dat (.bool (decide (i < j)))) os) : RX C rLtU (.dat (.int i)) (.dat (.int j)) os R := fun as H x y Q r hx hy q =>
  .inl ⟨i, j, cv_intE hx, cv_intE hy, Kt.here q r (c := .dat (.bool (decide (i < j)))) cv_bl h⟩
theorem rx_ltD (ha : PySem.W.alike x y = true) (hn : x ≠ .none) (hz : x.depth ≤ 50) (h : R (.dat (.bool (PySem.W.dataLt x y))) os) : RX C rLtU (.dat x) (.dat y) os R := fun as H u w Q r hx hy q =>
  .inr ⟨x, y, hx, hy, ha, hn, hz, Kt.here q r (c := .dat (.bool (PySem.W.dataLt x y))) cv_bl h⟩
/-! ### calls -/
theorem paired1 {u : List V} (h : Paired (Cv C as H) [c] u) : ∃ x, u = [x] ∧ Cv C as H c x := by
  cases h with
  | cons h t => cases t; exact ⟨_, rfl, h⟩
theorem paired2 {u : List V} (h : Paired (Cv C as H) [c, d] u) : ∃ x y, u = [x, y] ∧ Cv C as H c x ∧ Cv C as H d y := by
  cases h with
  | cons h t =>
    cases t with
    | cons h2 t => cases t; exact ⟨_, _, rfl, h, h2⟩
theorem ty_of (h : Cv C as H (.dat x) v) : TyX C.K H v (.type (tyNm x)) := by
  have h := cv_of h
  cases x with
  | none => rw [dd_non.mp h]; exact .base .non
  | bool b => rw [dd_bl.mp h]; exact .base (.bl _)
  | int b => rw [dd_int.mp h]; exact .base (.int _)
  | str b => rw [dd_str.mp h]; exact .base (.str _)
  | list b => obtain ⟨_, _, _, rfl, e, _⟩ := dd_lst.mp h; exact .base (.frz e)
  | tuple b => obtain ⟨_, _, _, rfl, e, _⟩ := dd_tup.mp h; exact .fTuple e
  | dict b => simp only [Dd] at h
theorem bx_isi {n : String} {b : Bool} (hb : kitB (tyNm x) n = some b) (h : R (.dat (.bool b)) os) : BX C (rIsi C.K) [.dat x, .ty n] os R := fun as H xs Q r hx q => by
  obtain ⟨u, w, rfl, h1, h2⟩ := paired2 hx
  exact ⟨u, w, .type (tyNm x), .type n, b, rfl, by rw [show w = .ty n from h2]; exact .ty n, ty_of h1, kit_ty hb, Kt.here q r (c := .dat (.bool b)) cv_bl h⟩
theorem kb_int : ∀ x : PyData, kitB (tyNm x) "int" = some (isI x)
  | .none => (by decide +kernel : kitB "NoneType" "int" = some false)
  | .bool _ => (by decide +kernel : kitB "bool" "int" = some true)
  | .int _ => (by decide +kernel : kitB "int" "int" = some true)
  | .str _ => (by decide +kernel : kitB "str" "int" = some false)
  | .list _ => (by decide +kernel : kitB "list" "int" = some false)
  | .tuple _ => (by decide +kernel : kitB "tuple" "int" = some false)
  | .dict _ => (by decide +kernel : kitB "dict" "int" = some false)
theorem kb_bool : ∀ x : PyData, kitB (tyNm x) "bool" = some (isB x)
  | .none => (by decide +kernel : kitB "NoneType" "bool" = some false)
  | .bool _ => (by decide +kernel : kitB "bool" "bool" = some true)
  | .int _ => (by decide +kernel : kitB "int" "bool" = some false)
  | .str _ => (by decide +kernel : kitB "str" "bool" = some false)
  | .list _ => (by decide +kernel : kitB "list" "bool" = some false)
  | .tuple _ => (by decide +kernel : kitB "tuple" "bool" = some false)
  | .dict _ => (by decide +kernel : kitB "dict" "bool" = some false)
theorem kb_str : ∀ x : PyData, kitB (tyNm x) "str" = some (isS x)
  | .none => (by decide +kernel : kitB "NoneType" "str" = some false)
  | .bool _ => (by decide +kernel : kitB "bool" "str" = some false)
  | .int _ => (by decide +kernel : kitB "int" "str" = some false)
  | .str _ => (by decide +kernel : kitB "str" "str" = some true)
  | .list _ => (by decide +kernel : kitB "list" "str" = some false)
  | .tuple _ => (by decide +kernel : kitB "tuple" "str" = some false)
  | .dict _ => (by decide +kernel : kitB "dict" "str" = some false)
theorem kb_tuple : ∀ x : PyData, kitB (tyNm x) "tuple" = some (isT x)
  | .none => (by decide +kernel : kitB "NoneType" "tuple" = some false)
  | .bool _ => (by decide +kernel : kitB "bool" "tuple" = some false)
  | .int _ => (by decide +kernel : kitB "int" "tuple" = some false)
  | .str _ => (by decide +kernel : kitB "str" "tuple" = some false)
  | .list _ => (by decide +kernel : kitB "list" "tuple" = some false)
  | .tuple _ => (by decide +kernel : kitB "tuple" "tuple" = some true)
  | .dict _ => (by decide +kernel : kitB "dict" "tuple" = some false)
theorem bx_isInt (h : R (.dat (.bool (isI x))) os) : BX C (rIsi C.K) [.dat x, .ty "int"] os R := bx_isi (kb_int x) h
theorem bx_isBool (h : R (.dat (.bool (isB x))) os) : BX C (rIsi C.K) [.dat x, .ty "bool"] os R := bx_isi (kb_bool x) h
theorem bx_isStr (h : R (.dat (.bool (isS x))) os) : BX C (rIsi C.K) [.dat x, .ty "str"] os R := bx_isi (kb_str x) h
theorem bx_isTup (h : R (.dat (.bool (isT x))) os) : BX C (rIsi C.K) [.dat x, .ty "tuple"] os R := bx_isi (kb_tuple x) h
theorem bx_lenT (e : tpOf c = some ds) (h : R (.dat (.int ds.length)) os) : BX C (rLenU C.K C.P C.w) [c] os R := fun as H xs Q r hx q => by
  obtain ⟨u, rfl, h1⟩ := paired1 hx
  obtain ⟨a, ys, rfl, h2, h3⟩ := tp_of h1 e
  exact .inl ⟨a, ys, rfl, .inr h2, Kt.here q r (c := .dat (.int ds.length)) (by rw [h3.length]; exact cv_int) h⟩
theorem bx_lenL (e : lsOf os c = some ds) (h : R (.dat (.int ds.length)) os) : BX C (rLenU C.K C.P C.w) [c] os R := fun as H xs Q r hx q => by
  obtain ⟨u, rfl, h1⟩ := paired1 hx
  obtain ⟨a, ys, rfl, h2, h3⟩ := ls_of r h1 e
  exact .inl ⟨a, ys, rfl, .inl h2, Kt.here q r (c := .dat (.int ds.length)) (by rw [h3.length]; exact cv_int) h⟩
theorem bx_lenN (e : dcOf os c = some m) (h : R (.dat (.int m.length)) os) : BX C (rLenU C.K C.P C.w) [c] os R := fun as H xs Q r hx q => by
  obtain ⟨u, rfl, h1⟩ := paired1 hx
  obtain ⟨p, ys, rfl, h2, h3⟩ := dc_of r h1 e
  exact .inr ⟨p, ys, m, rfl, h2, h3, Kt.here q r (c := .dat (.int m.length)) cv_int h⟩
theorem bx_intI (h : R (.dat (.int i)) os) : BX C (fun xs H Q => (∃ i, xs = [.int i] ∧ Q (.int i) H) ∨ ∃ k, xs = [.bl k] ∧ Q (.int (if k then 1 else 0)) H) [.dat (.int i)] os R := fun as H xs Q r hx q => by
  obtain ⟨u, rfl, h1⟩ := paired1 hx
  exact .inl ⟨i, by rw [cv_intE h1], Kt.here q r (c := .dat (.int i)) cv_int h⟩
theorem bx_intB {b : Bool} (h : R (.dat (.int (if b then 1 else 0))) os) : BX C (fun xs H Q => (∃ i, xs = [.int i] ∧ Q (.int i) H) ∨ ∃ k, xs = [.bl k] ∧ Q (.int (if k then 1 else 0)) H) [.dat (.bool b)] os R := fun as H xs Q r hx q => by
  obtain ⟨u, rfl, h1⟩ := paired1 hx
  exact .inr ⟨b, by rw [cv_blE h1], Kt.here q r (c := .dat (.int (if b then 1 else 0))) cv_int h⟩
theorem bx_max2 (h : R (.dat (.int (if j > i then j else i))) os) : BX C (fun xs H Q => ∃ i j, xs = [.int i, .int j] ∧ Q (.int (if j > i then j else i)) H) [.dat (.int i), .dat (.int j)] os R := fun as H xs Q r hx q => by
  obtain ⟨u, w, rfl, h1, h2⟩ := paired2 hx
  exact ⟨i, j, by rw [cv_intE h1, cv_intE h2], Kt.here q r (c := .dat (.int _)) cv_int h⟩
theorem bx_min2 (h : R (.dat (.int (if j < i then j else i))) os) : BX C (fun xs H Q => ∃ i j, xs = [.int i, .int j] ∧ Q (.int (if j < i then j else i)) H) [.dat (.int i), .dat (.int j)] os R := fun as H xs Q r hx q => by
  obtain ⟨u, w, rfl, h1, h2⟩ := paired2 hx
  exact ⟨i, j, by rw [cv_intE h1, cv_intE h2], Kt.here q r (c := .dat (.int _)) cv_int h⟩
theorem bx_max {ns : List Int} (e : lsOf os c = some (ns.map .int)) (h0 : 0 < ns.length) (h : ∀ z, z ∈ ns → (∀ y, y ∈ ns → y ≤ z) → R (.dat (.int z)) os) : BX C (rMax C.K) [c] os R := fun as H xs Q r hx q => by
  obtain ⟨u, rfl, h1⟩ := paired1 hx
  obtain ⟨a, ys, rfl, h2, h3⟩ := ls_of r h1 e
  rw [DdAll.ints] at h3
  subst h3
  exact ⟨a, ns, rfl, h2, h0, fun z hz hy => Kt.here q r (c := .dat (.int z)) cv_int (h z hz hy)⟩
theorem bx_all {bs : List Bool} (e : lsOf os c = some (bs.map .bool)) (h : R (.dat (.bool (bs.all id))) os) : BX C (rAll C.K) [c] os R := fun as H xs Q r hx q => by
  obtain ⟨u, rfl, h1⟩ := paired1 hx
  obtain ⟨a, ys, rfl, h2, h3⟩ := ls_of r h1 e
  rw [DdAll.bls] at h3
  subst h3
  exact ⟨a, bs, rfl, h2, Kt.here q r (c := .dat (.bool (bs.all id))) cv_bl h⟩
theorem bx_tupL (e : lsOf os c = some ds) (h : R (.dat (.tuple ds)) os) : BX C (rTupOf C.K) [c] os R := fun as H xs Q r hx q => by
  obtain ⟨u, rfl, h1⟩ := paired1 hx
  obtain ⟨a, ys, rfl, h2, h3⟩ := ls_of r h1 e
  exact ⟨a, ys, rfl, .inl ⟨h2, Kt.tup q r h3 h⟩⟩
theorem bx_listT (e : tpOf c = some ds) (h : R (.own os.length) (os ++ [.lst ds])) : BX C (fun xs H Q => ∃ p ys, xs = [.ref p] ∧ (SqL C.K H p ys ∨ SqT C.K H p ys) ∧ ∀ l, H l = none → Q (.ref l) (upd H l (.lst ys))) [c] os R := fun as H xs Q r hx q => by
  obtain ⟨u, rfl, h1⟩ := paired1 hx
  obtain ⟨a, ys, rfl, h2, h3⟩ := tp_of h1 e
  exact ⟨a, ys, rfl, .inr h2, Kt.lst q r h3 h⟩
theorem bx_listL (e : lsOf os c = some ds) (h : R (.own os.length) (os ++ [.lst ds])) : BX C (fun xs H Q => ∃ p ys, xs = [.ref p] ∧ (SqL C.K H p ys ∨ SqT C.K H p ys) ∧ ∀ l, H l = none → Q (.ref l) (upd H l (.lst ys))) [c] os R := fun as H xs Q r hx q => by
  obtain ⟨u, rfl, h1⟩ := paired1 hx
  obtain ⟨a, ys, rfl, h2, h3⟩ := ls_of r h1 e
  exact ⟨a, ys, rfl, .inl h2, Kt.lst q r h3 h⟩
theorem dkv_keys {H : Hp} : ∀ {m : List (Crew × PyData)} {xs : List (Crew × Addr × V)}, DKV H m xs → DdAll H (m.map fun e => e.1.d) (xs.map fun x => V.ref x.2.1)
  | _, _, .nil => DdAll.nil
  | _, _, .cons h t => DdAll.cons h.2.1 (dkv_keys t)
theorem bx_listN (e : dcOf os c = some m) (h : R (.own os.length) (os ++ [.lst (m.map fun e => e.1.d)])) : BX C (rListN C.P C.w) [c] os R := fun as H xs Q r hx q => by
  obtain ⟨u, rfl, h1⟩ := paired1 hx
  obtain ⟨a, ys, rfl, h2, h3⟩ := dc_of r h1 e
  exact ⟨a, ys, rfl, h2, Kt.lst q r (dkv_keys h3) h⟩
theorem bx_sort (e : lsOf os c = some ds) (ha : PySem.W.AllAlike ds) (hk : PySem.W.Sortable ds) (hz : ∀ d ∈ ds, d.depth ≤ 40) (h : ∀ es : List PyData, es.Perm ds → R (.own os.length) (os ++ [.lst es])) : BX C (rSortD C.K) [c] os R := fun as H xs Q r hx q => by
  obtain ⟨u, rfl, h1⟩ := paired1 hx
  obtain ⟨a, ys, rfl, h2, h3⟩ := ls_of r h1 e
  exact ⟨a, ys, ds, rfl, h2, h3, ha, hk, hz, fun p zs es hp hd hn => Kt.lst q r hd (h es hp) p hn⟩
theorem bx_str (hz : i.natAbs.log2 < 1920) (h : R (.dat (.str (toString i))) os) : BX C (fun xs H Q => ∃ i, xs = [.int i] ∧ i.natAbs.log2 < 1920 ∧ Q (.str (toString i)) H) [.dat (.int i)] os R := fun as H xs Q r hx q => by
  obtain ⟨u, rfl, h1⟩ := paired1 hx
  exact ⟨i, by rw [cv_intE h1], hz, Kt.here q r (c := .dat (.str (toString i))) cv_str h⟩
end
end Pk
/-! Pk, part M: statements, targets, changes of lists and dicts on data. -/
namespace Pk
open PySem PySem.Spec PyProof.Rows L2

section
variable {C : Kx} {as : List (List Addr)} {os : List OV} {H : Hp} {Q : VK} {R : Cl → List OV → Prop}
/-- an owned object is changed -/
theorem mut_own (r : Rl C as os H) {k : Nat} {a : Addr} {o o' : OV} {u u' : HO} (hk : as[k]? = some [a]) (hn : ∀ x ∈ [a], C.H0 x = none) (hH : H a = some u) (n : ¬ Imm u) (ho : Ov C (upd H a u') [a] o') :
    Rl C as (os.set k o') (upd H a u') ∧ Le as H as (upd H a u') := by
  have he : ExI H (upd H a u') := exi_mut hH n
  have hmut : ∀ x w, x ∉ [a] → H x = some w → upd H a u' x = some w := fun x w hx e => by rw [upd_ne (fun z => hx (by simp [z]))]; exact e
  have q := r.put hk hn hmut he (fun x hx => .inl hx) ho
  have e : as.set k [a] = as := by
    refine List.ext_getElem? fun j => ?_
    by_cases z : k = j
    · subst z
      rw [List.getElem?_set_self (List.getElem?_eq_some_iff.mp hk).1, hk]
    · rw [List.getElem?_set_ne z]
  rw [e] at q
  exact ⟨q, he, fun _ _ l h => ⟨l, h⟩⟩
theorem own_lst (r : Rl C as os H) {k : Nat} {v : V} {ds : List PyData} (h : Cv C as H (.own k) v) (e : os[k]? = some (.lst ds)) : ∃ a xs, v = .ref a ∧ as[k]? = some [a] ∧ (∀ x ∈ [a], C.H0 x = none) ∧ H a = some (.lst xs) ∧ DdAll H ds xs := by
  obtain ⟨a, l, h1, rfl⟩ := h
  obtain ⟨hn, b, xs, e1, e2, e3⟩ := r.at_ _ _ _ h1 e
  cases e1
  exact ⟨a, xs, rfl, h1, hn, e2, e3⟩
theorem own_dic (r : Rl C as os H) {k : Nat} {v : V} {m : List (Crew × PyData)} (h : Cv C as H (.own k) v) (e : os[k]? = some (.dic m)) : ∃ a xs, v = .ref a ∧ as[k]? = some [a] ∧ (∀ x ∈ [a], C.H0 x = none) ∧ H a = some (DnO C.P C.w a xs) ∧ DKV H m xs := by
  obtain ⟨a, l, h1, rfl⟩ := h
  obtain ⟨hn, b, xs, e1, e2, e3⟩ := r.at_ _ _ _ h1 e
  cases e1
  exact ⟨a, xs, rfl, h1, hn, e2, e3⟩
theorem set_lst (r : Rl C as os H) {k : Nat} {a : Addr} {xs ys : List V} {es : List PyData} (h1 : as[k]? = some [a]) (hn : ∀ x ∈ [a], C.H0 x = none) (e2 : H a = some (.lst xs)) (e3 : DdAll H es ys) :
    Rl C as (os.set k (.lst es)) (upd H a (.lst ys)) ∧ Le as H as (upd H a (.lst ys)) :=
  mut_own (o := .lst []) r h1 hn e2 (by simp [Imm]) ⟨a, ys, rfl, upd_same, DdAll.mono (exi_mut e2 (by simp [Imm])) _ _ e3⟩
theorem set_dic (r : Rl C as os H) {k : Nat} {a : Addr} {xs ys : List (Crew × Addr × V)} {m' : List (Crew × PyData)} (h1 : as[k]? = some [a]) (hn : ∀ x ∈ [a], C.H0 x = none) (e2 : H a = some (DnO C.P C.w a xs)) (e3 : DKV H m' ys) :
    Rl C as (os.set k (.dic m')) (upd H a (DnO C.P C.w a ys)) ∧ Le as H as (upd H a (DnO C.P C.w a ys)) :=
  mut_own (o := .lst []) r h1 hn e2 (by simp [Imm, DnO]) ⟨a, ys, rfl, upd_same, e3.mono (exi_mut e2 (by simp [Imm, DnO]))⟩
theorem Kt.dic (k : Kt C as H Q R) (r : Rl C as os H) {m : List (Crew × PyData)} {p : Addr} {xs : List (Crew × Addr × V)} (hp : H p = none) (h : DKV H m xs) (q : R (.own os.length) (os ++ [.dic m])) : Q (.ref p) (upd H p (DnO C.P C.w p xs)) :=
  k (.own os.length) (os ++ [.dic m]) (as ++ [[p]]) _ _ (r.push (o := .dic m) (fun a ha => by simp only [List.mem_singleton] at ha; subst ha; exact hp) (same_new hp) ⟨p, xs, rfl, upd_same, h.mono (exi_same (same_new hp))⟩) (le_push (same_new hp))
    ⟨p, [], by rw [← r.len, List.getElem?_append_right (Nat.le_refl _), Nat.sub_self]; rfl, rfl⟩ q
end
section
variable {X : Cx}
/-- freezing a dict -/
def tFrzD (P : Program) (w : World) (te : TE) : TE := fun σ H Q => te σ H fun x H1 => ∃ (a : Addr) (xs : List (Crew × Addr × V)), x = .ref a ∧ H1 a = some (DnO P w a xs) ∧ ∀ o, Q (.ref a) (upd H1 a (.frz o (DnO P w a xs)))
theorem pe_frzD {e : Expr} {te : TE} (h : PE X e te) : PE X e (tFrzD X.prog X.w te) := ⟨fun pins s σ H Q I hq => by
  refine thn (h.run pins s σ H _ I hq) fun u s1 ⟨x, H1, I1, rx, a, xs, ex, ha, q⟩ => ?_
  subst ex
  obtain ⟨od, I2⟩ := I1.lock ha True.intro
  exact ⟨.ref a, _, I2, rx, q od⟩⟩
end
def cutD (xs : List PyData) (lo hi : Option Int) : List PyData := (xs.drop (HT.sIx xs.length 0 lo)).take (HT.sIx xs.length xs.length hi - HT.sIx xs.length 0 lo)
theorem da_cut {H : Hp} {ds : List PyData} {xs : List V} {lo hi : Option Int} (h : DdAll H ds xs) : DdAll H (cutD ds lo hi) (cutV xs lo hi) := by
  unfold cutD cutV
  rw [h.length]
  exact (h.drop _).take _
theorem cutD_whole {ds : List PyData} {lo hi : Option Int} (h : HT.sIx ds.length 0 lo = 0 ∧ HT.sIx ds.length ds.length hi = ds.length) : cutD ds lo hi = ds := by
  unfold cutD
  rw [h.1, h.2, List.drop_zero, Nat.sub_zero, List.take_length]
def OX (C : Kx) (to : TO) (γ : List (Option Cl)) (os : List OV) (R : Option Int → List OV → Prop) : Prop :=
  ∀ as H σ (Q : Option Int → Hp → Prop), Rl C as os H → Sl C as H σ γ → (∀ o os' as' H', Rl C as' os' H' → Le as H as' H' → R o os' → Q o H') → to σ H Q
section
variable {C : Kx} {γ : List (Option Cl)} {os : List OV} {R : Cl → List OV → Prop} {ta tb tc te : TE} {tt uu : TT} {c d : Cl} {ds es : List PyData} {m : List (Crew × PyData)} {E : En}
theorem ex_frzD (h : EX C te γ os fun c os1 => ∃ k m, c = .own k ∧ os1[k]? = some (.dic m) ∧ R (.fd m) (os1.set k (.fm m))) : EX C (tFrzD C.P C.w te) γ os R := fun as H σ Q rl s kk =>
  h as H σ _ rl s fun c os1 as1 H1 x r1 l1 hx ⟨k, m, e, ek, q⟩ => by
    subst e
    obtain ⟨a, xs, rfl, h1, hn, e2, e3⟩ := own_dic r1 hx ek
    refine ⟨a, xs, rfl, e2, fun o => ?_⟩
    have he : ExI H1 (upd H1 a (.frz o (DnO C.P C.w a xs))) := exi_mut e2 (by simp [Imm, DnO])
    obtain ⟨r2, l2⟩ := mut_own (u' := .frz o (DnO C.P C.w a xs)) (o := .lst []) (o' := .fm m) r1 h1 hn e2 (by simp [Imm, DnO]) ⟨a, o, xs, rfl, upd_same, e3.mono he⟩
    exact kk (.fd m) _ as1 _ _ r2 (l1.trans l2) ⟨a, o, xs, rfl, upd_same, e3.mono he⟩ q
/-! slices -/
theorem ox_none {R : Option Int → List OV → Prop} (h : R none os) : OX C tNoPart γ os R := fun as H σ Q r s k => k none os as H r (Le.refl _ _) h
theorem ox_some {R : Option Int → List OV → Prop} (h : EX C te γ os fun c os1 => ∃ i, c = .dat (.int i) ∧ R (some i) os1) : OX C (tPart te) γ os R := fun as H σ Q r s k =>
  h as H σ _ r s fun c os1 as1 H1 x r1 l1 hx ⟨i, e, q⟩ => by
    subst e
    exact ⟨i, cv_intE hx, k (some i) os1 as1 H1 r1 l1 q⟩
theorem ex_slT {tl th : TO} (h : EX C te γ os fun c os1 => OX C tl γ os1 fun lo os2 => OX C th γ os2 fun hi os3 => ∃ ds, c = .dat (.tuple ds) ∧ R (.dat (.tuple (cutD ds lo hi))) os3) : EX C (tSl (rSlP C.K) te tl th) γ os R := fun as H σ Q r s k =>
  h as H σ _ r s fun c os1 as1 H1 x r1 l1 hx h1 => h1 as1 H1 σ _ r1 (s.mono l1) fun lo os2 as2 H2 r2 l2 h2 => h2 as2 H2 σ _ r2 ((s.mono l1).mono l2) fun hi os3 as3 H3 r3 l3 ⟨ds, e, q⟩ => by
    subst e
    have hx3 := (hx.mono l2).mono l3
    obtain ⟨a, xs, rfl, p1, p2⟩ := tp_of hx3 (ds := ds) rfl
    have k3 := Kt.from_ k ((l1.trans l2).trans l3)
    refine ⟨a, xs, rfl, p1, fun w => ?_, fun _ => Kt.tup k3 r3 (da_cut p2) q⟩
    rw [p2.length] at w
    rw [cutD_whole w] at q
    exact Kt.here k3 r3 hx3 q
theorem ex_slL {tl th : TO} (h : EX C te γ os fun c os1 => OX C tl γ os1 fun lo os2 => OX C th γ os2 fun hi os3 => ∃ ds, lsOf os3 c = some ds ∧ R (.own os3.length) (os3 ++ [.lst (cutD ds lo hi)])) : EX C (tSl (rSlL C.K) te tl th) γ os R := fun as H σ Q r s k =>
  h as H σ _ r s fun c os1 as1 H1 x r1 l1 hx h1 => h1 as1 H1 σ _ r1 (s.mono l1) fun lo os2 as2 H2 r2 l2 h2 => h2 as2 H2 σ _ r2 ((s.mono l1).mono l2) fun hi os3 as3 H3 r3 l3 ⟨ds, e, q⟩ => by
    have hx3 := (hx.mono l2).mono l3
    obtain ⟨a, xs, rfl, p1, p2⟩ := ls_of r3 hx3 e
    exact ⟨a, xs, rfl, p1, Kt.lst (Kt.from_ k ((l1.trans l2).trans l3)) r3 (da_cut p2) q⟩
theorem ex_revT (h : EX C te γ os fun c os1 => ∃ ds, tpOf c = some ds ∧ R (.dat (.tuple ds.reverse)) os1) : EX C (tRevU C.K te) γ os R := fun as H σ Q r s k =>
  h as H σ _ r s fun c os1 as1 H1 x r1 l1 hx ⟨ds, e, q⟩ => by
    obtain ⟨a, xs, rfl, p1, p2⟩ := tp_of hx e
    exact ⟨a, xs, rfl, .inr ⟨p1, Kt.tup (Kt.from_ k l1) r1 p2.reverse q⟩⟩
theorem ex_revL (h : EX C te γ os fun c os1 => ∃ ds, lsOf os1 c = some ds ∧ R (.own os1.length) (os1 ++ [.lst ds.reverse])) : EX C (tRevU C.K te) γ os R := fun as H σ Q r s k =>
  h as H σ _ r s fun c os1 as1 H1 x r1 l1 hx ⟨ds, e, q⟩ => by
    obtain ⟨a, xs, rfl, p1, p2⟩ := ls_of r1 hx e
    exact ⟨a, xs, rfl, .inl ⟨p1, Kt.lst (Kt.from_ k l1) r1 p2.reverse q⟩⟩
theorem ex_lstRg {te : L2.St → Hp → (Int → Int → Hp → Prop) → Prop} {n : Nat} (h : ∀ as H σ (Q : Int → Int → Hp → Prop), Rl C as os H → Sl C as H σ γ → Q 0 n H → te σ H Q) (hn : n ≤ 1000) (q : R (.own os.length) (os ++ [.lst ((List.range n).map fun (i : Nat) => .int i)])) : EX C (tLstRg te) γ os R := fun as H σ Q r s k =>
  h as H σ _ r s ⟨by unfold RgOk; omega, Kt.lst k r (by
    have e : rgV 0 (n : Int) = (List.range n).map fun (i : Nat) => V.int i := by
      unfold rgV
      simp
    rw [e]
    have : ∀ l : List Nat, DdAll H (l.map fun (i : Nat) => PyData.int i) (l.map fun (i : Nat) => V.int i) := by
      intro l
      induction l with
      | nil => exact DdAll.nil
      | cons a l ih => exact DdAll.cons (dd_int.mpr rfl) ih
    exact this _) q⟩
/-! methods -/
theorem ex_append {t : TA} (h : EX C te γ os fun c os1 => ∃ k ds0, c = .own k ∧ os1[k]? = some (.lst ds0) ∧ AX C t γ os1 fun cs os2 => ∃ ds x, cs = [.dat x] ∧ os2[k]? = some (.lst ds) ∧ ds.length < sizeLine ∧ R (.dat .none) (os2.set k (.lst (ds ++ [x])))) :
    EX C (tBM C.K "list" rAppend te t) γ os R := fun as H σ Q r s kk =>
  h as H σ _ r s fun c os1 as1 H1 x r1 l1 hx ⟨k, ds0, e, ek, h1⟩ => by
    subst e
    obtain ⟨a, xs, rfl, p1, p2, p3, p4⟩ := own_lst r1 hx ek
    refine ⟨.inl ⟨rfl, xs, .inl (.inl p3)⟩, h1 as1 H1 σ _ r1 (s.mono l1) fun cs os2 as2 H2 vs r2 l2 hv ⟨ds, y, ec, e2, hz, q⟩ => ?_⟩
    subst ec
    obtain ⟨v, rfl, hy⟩ := paired1 hv
    obtain ⟨b, ys, e3, g1, g2, g3, g4⟩ := own_lst r2 (hx.mono l2) e2
    cases e3
    obtain ⟨r3, l3⟩ := set_lst r2 g1 g2 g3 (g4.append (DdAll.cons hy DdAll.nil))
    exact ⟨a, ys, v, rfl, rfl, g3, by rw [g4.length]; exact hz, kk (.dat .none) _ as2 _ _ r3 ((l1.trans l2).trans l3) cv_non q⟩
theorem ex_pop (h : EX C te γ os fun c os1 => ∃ k ds x, c = .own k ∧ os1[k]? = some (.lst ds) ∧ ds[ds.length - 1]? = some x ∧ R (.dat x) (os1.set k (.lst ds.dropLast))) : EX C (tBM0 C.K "list" rPop te) γ os R := fun as H σ Q r s kk =>
  h as H σ _ r s fun c os1 as1 H1 x r1 l1 hx ⟨k, ds, y, e, ek, ey, q⟩ => by
    subst e
    obtain ⟨a, xs, rfl, p1, p2, p3, p4⟩ := own_lst r1 hx ek
    obtain ⟨v, hv, hd⟩ := p4.get ey
    have dl : DdAll H1 ds.dropLast xs.dropLast := by rw [List.dropLast_eq_take, List.dropLast_eq_take, p4.length]; exact p4.take _
    obtain ⟨r3, l3⟩ := set_lst r1 p1 p2 p3 dl
    exact ⟨.inl ⟨rfl, xs, .inl (.inl p3)⟩, a, xs, v, rfl, rfl, p3, by rw [p4.length]; exact hv, kk (.dat y) _ as1 _ _ r3 (l1.trans l3) (Cv.mono (c := .dat y) l3 hd) q⟩
/-! dicts -/
theorem ex_newN (h : R (.own os.length) (os ++ [.dic []])) : EX C (tNewN C.P C.w) γ os R := fun as H σ Q r s k p hp => Kt.dic k r hp .nil h
theorem ex_disp1N (h : EX C ta γ (os ++ [.dic []]) fun ck os1 => EX C tb γ os1 fun cv os2 => ∃ (e : Crew) (x : PyData), ck = .dat e.d ∧ cv = .dat x ∧ os2[os.length]? = some (.dic []) ∧ R (.own os.length) (os2.set os.length (.dic [(e, x)]))) :
    EX C (tDisp1N C.P C.w ta tb) γ os R := fun as H σ Q r s k p hp => by
  have r0 := r.push (l := [p]) (o := .dic []) (fun a ha => by simp only [List.mem_singleton] at ha; subst ha; exact hp) (same_new (o := DnO C.P C.w p []) hp) ⟨p, [], rfl, upd_same, .nil⟩
  have l0 : Le as H (as ++ [[p]]) (upd H p (DnO C.P C.w p [])) := le_push (same_new hp)
  have hv : Cv C (as ++ [[p]]) (upd H p (DnO C.P C.w p [])) (.own os.length) (.ref p) := ⟨p, [], by rw [← r.len, List.getElem?_append_right (Nat.le_refl _), Nat.sub_self]; rfl, rfl⟩
  refine h _ _ σ _ r0 (s.mono l0) fun c os1 as1 H1 x r1 l1 hx h1 => h1 as1 H1 σ _ r1 ((s.mono l0).mono l1) fun d os2 as2 H2 y r2 l2 hy ⟨e, z, e1, e2, e3, q⟩ => ?_
  subst e1 e2
  obtain ⟨a, xs, e4, g1, g2, g3, g4⟩ := own_dic r2 ((hv.mono l1).mono l2) e3
  cases e4
  cases g4
  have hx2 : Dd H2 e.d x := hx.mono l2
  obtain ⟨b, o, zs, rfl, q1⟩ := dd_tup.mp (show Dd H2 (.tuple _) x from hx2)
  have dk : DKV H2 [(e, z)] [(e, b, y)] := .cons ⟨rfl, hx2, hy⟩ .nil
  obtain ⟨r3, l3⟩ := set_dic r2 g1 g2 g3 dk
  exact ⟨b, e, rfl, hx2, g3, k (.own os.length) _ as2 _ _ r3 (((l0.trans l1).trans l2).trans l3) (((hv.mono l1).mono l2).mono l3) q⟩
theorem ex_getN (h : EX C ta γ os fun cd os1 => ∃ m0, dcOf os1 cd = some m0 ∧ EX C tb γ os1 fun ck os2 => EX C tc γ os2 fun cx os3 => ∃ (m : List (Crew × PyData)) (e : Crew) (x : PyData), dcOf os3 cd = some m ∧ ck = .dat e.d ∧ cx = .dat x ∧ R (.dat ((look m e).getD x)) os3) :
    EX C (tGetN C.P C.w ta tb tc) γ os R := fun as H σ Q r s k =>
  h as H σ _ r s fun cd os1 as1 H1 xd r1 l1 hd ⟨m0, e0, h1⟩ => by
    obtain ⟨p0, xs0, rfl, p1, _⟩ := dc_of r1 hd e0
    refine ⟨⟨p0, xs0, rfl, p1⟩, h1 as1 H1 σ _ r1 (s.mono l1) fun ck os2 as2 H2 xk r2 l2 hk h2 => h2 as2 H2 σ _ r2 ((s.mono l1).mono l2) fun cx os3 as3 H3 xx r3 l3 hx ⟨m, e, x, e1, e2, e3, q⟩ => ?_⟩
    subst e2 e3
    obtain ⟨p, xs, e4, g1, g2⟩ := dc_of r3 ((hd.mono l2).mono l3) e1
    cases e4
    have hk3 : Dd H3 e.d xk := hk.mono l3
    obtain ⟨b, o, zs, rfl, q1⟩ := dd_tup.mp (show Dd H3 (.tuple _) xk from hk3)
    exact ⟨p0, b, xs, m, e, x, rfl, rfl, g1, g2, hk3, hx, fun v hv => Kt.here (Kt.from_ k ((l1.trans l2).trans l3)) r3 (c := .dat ((look m e).getD x)) hv q⟩
theorem ex_listVals (h : EX C te γ os fun c os1 => ∃ m, dcOf os1 c = some m ∧ R (.own os1.length) (os1 ++ [.lst (m.map (·.2))])) : EX C (tListVals C.P C.w te) γ os R := fun as H σ Q r s k =>
  h as H σ _ r s fun c os1 as1 H1 x r1 l1 hx ⟨m, e, q⟩ => by
    obtain ⟨p, xs, rfl, g1, g2⟩ := dc_of r1 hx e
    refine ⟨p, xs, rfl, g1, Kt.lst (Kt.from_ k l1) r1 ?_ q⟩
    clear g1 hx e q
    induction g2 with
    | nil => exact DdAll.nil
    | cons hh _ ih => exact DdAll.cons hh.2.2 ih
theorem ex_items (h : EX C te γ os fun c os1 => ∃ m, dcOf os1 c = some m ∧ R (.own os1.length) (os1 ++ [.lst (m.map fun e => .tuple [e.1.d, e.2])])) : EX C (tListItemsN C.P C.w te) γ os R := fun as H σ Q r s k =>
  h as H σ _ r s fun c os1 as1 H1 x r1 l1 hx ⟨m, e, q⟩ => by
    obtain ⟨p, xs, rfl, g1, g2⟩ := dc_of r1 hx e
    refine ⟨p, xs, rfl, g1, fun H' l ts sm hl hl' hp => ?_⟩
    have dd : DdAll H' (m.map fun e => .tuple [e.1.d, e.2]) (ts.map V.ref) := by
      have g3 := g2.mono (exi_same sm)
      clear g1 hx e q g2 hl'
      induction hp generalizing m with
      | nil => cases g3; exact DdAll.nil
      | @cons t x l1 l2 hh _ ih =>
        cases g3 with
        | cons y1 y2 =>
          obtain ⟨o, h1, h2⟩ := hh
          exact DdAll.cons (dd_tup.mpr ⟨t, o, _, rfl, h1, h2, DdAll.cons y1.2.1 (DdAll.cons y1.2.2 DdAll.nil)⟩) (ih _ y2)
    exact k (.own os1.length) (os1 ++ [.lst _]) (as1 ++ [[l]]) _ _ (r1.push (o := .lst _) (fun a ha => by simp only [List.mem_singleton] at ha; subst ha; exact hl) sm ⟨l, _, rfl, hl', dd⟩) (l1.trans (le_push sm))
      ⟨l, [], by rw [← r1.len, List.getElem?_append_right (Nat.le_refl _), Nat.sub_self]; rfl, rfl⟩ q
/-- dict(pairs) -/
theorem bx_dictT {ps : List (Crew × PyData)} (e : c = .dat (.tuple (ps.map fun e => .tuple [e.1.d, e.2]))) (h : R (.own os.length) (os ++ [.dic (mergeC [] ps)])) : BX C (rDictT C.K C.P C.w) [c] os R := fun as H xs Q r hx q => by
  obtain ⟨u, rfl, h1⟩ := paired1 hx
  subst e
  obtain ⟨a, o, vs, rfl, h2, h3, h4⟩ := dd_tup.mp (cv_of h1)
  have key : ∀ {ps : List (Crew × PyData)} {vs : List V}, DdAll H (ps.map fun e => .tuple [e.1.d, e.2]) vs → ∃ (ts : List Addr) (ms : List (Crew × Addr × V)), vs = ts.map V.ref ∧ DKV H ps ms ∧ Paired (fun t e => PT H t [.ref e.2.1, e.2.2] ∧ Dd H e.1.d (.ref e.2.1)) ts ms := by
    intro ps
    induction ps with
    | nil => intro vs h; exact ⟨[], [], da_nil.mp h, .nil, .nil⟩
    | cons p ps ih =>
      intro vs h
      obtain ⟨v, r', rfl, hv, t⟩ := da_cons.mp h
      obtain ⟨ts, ms, rfl, x1, x2⟩ := ih t
      obtain ⟨b, o2, ws, rfl, g1, g2, g3⟩ := dd_tup.mp hv
      obtain ⟨v1, r1, rfl, d1, t1⟩ := da_cons.mp g3
      obtain ⟨v2, r2, rfl, d2, t2⟩ := da_cons.mp t1
      rw [da_nil.mp t2] at g1
      obtain ⟨b1, o3, zs, rfl, q1⟩ := dd_tup.mp (show Dd H (.tuple _) v1 from d1)
      exact ⟨b :: ts, (p.1, b1, v2) :: ms, rfl, .cons ⟨rfl, d1, d2⟩ x1, .cons ⟨⟨o2, g1, g2⟩, d1⟩ x2⟩
  obtain ⟨ts, ms, rfl, x1, x2⟩ := key h4
  exact ⟨a, ts, ms, rfl, ⟨o, h2, h3⟩, x2, fun p hp => Kt.dic q r hp (dkv_merge x1 .nil) h⟩
end
end Pk
/-! Pk, part N: targets, statements, walks, loops, comprehensions, calls on data. -/
namespace Pk
open PySem PySem.Spec PyProof.Rows L2

def itOf : Cl → Option (List Cl)
  | .dat (.tuple ds) => some (ds.map .dat)
  | .lt ds => some (ds.map .dat)
  | .t3 m1 m2 x => some [.fd m1, .fd m2, .dat x]
  | _ => none
def GsX (C : Kx) (g : TGs) (cs : List Cl) (γ : List (Option Cl)) (os : List OV) (R : List (Option Cl) → List OV → Prop) : Prop :=
  ∀ as H σ vs (Q : L2.St → Hp → Prop), Rl C as os H → Sl C as H σ γ → Paired (Cv C as H) cs vs → (∀ γ' os' as' H' σ', Rl C as' os' H' → Le as H as' H' → Sl C as' H' σ' γ' → R γ' os' → Q σ' H') → g vs σ H Q
theorem dats_paired {C : Kx} {as : List (List Addr)} {H : Hp} : ∀ {ds : List PyData} {xs : List V}, DdAll H ds xs → Paired (Cv C as H) (ds.map .dat) xs
  | [], _, h => by rw [da_nil.mp h]; exact .nil
  | d :: ds, _, h => by
    obtain ⟨v, r, rfl, hv, t⟩ := da_cons.mp h
    exact .cons hv (dats_paired t)
section
variable {C : Kx} {as : List (List Addr)} {os : List OV} {H : Hp} {c : Cl} {cs : List Cl} {v : V} {γ : List (Option Cl)} {R : List (Option Cl) → List OV → Prop} {te : TE} {E : En}
theorem it_of (h : Cv C as H c v) (e : itOf c = some cs) : ∃ a xs, v = .ref a ∧ SqT C.K H a xs ∧ Paired (Cv C as H) cs xs := by
  cases c with
  | dat d =>
    cases d with
    | tuple ds =>
      cases e
      obtain ⟨a, xs, h1, h2, h3⟩ := tp_of h (ds := ds) rfl
      exact ⟨a, xs, h1, h2, dats_paired h3⟩
    | _ => cases e
  | lt ds =>
    cases e
    obtain ⟨a, xs, h1, h2, h3⟩ := h
    exact ⟨a, xs, h1, h2, dats_paired h3⟩
  | t3 m1 m2 x =>
    cases e
    obtain ⟨t, o, v1, v2, v3, h1, h2, h3, h4, h5⟩ := h
    exact ⟨t, _, h1, .inl (.inr ⟨o, h2⟩), .cons h3 (.cons h4 (.cons h5 .nil))⟩
  | _ => cases e
/-! targets -/
theorem gx_name {i : Nat} (h : R (γ.set i (some c)) os) : GX C (gName i) c γ os R := fun as H σ v Q r s hv k => k _ os as H _ r (Le.refl _ _) (s.set hv) h
theorem gsx_nil (h : R γ os) : GsX C gNil [] γ os R := fun as H σ vs Q r s hv k => by
  cases hv
  exact ⟨rfl, k γ os as H σ r (Le.refl _ _) s h⟩
theorem gsx_cons {t : TG} {u : TGs} (h : GX C t c γ os fun γ1 os1 => GsX C u cs γ1 os1 R) : GsX C (gCons t u) (c :: cs) γ os R := fun as H σ vs Q r s hv k => by
  cases hv with
  | @cons _ v _ vs h1 h2 =>
    exact ⟨v, vs, rfl, h as H σ v _ r s h1 fun γ1 os1 as1 H1 σ1 r1 l1 s1 q1 => q1 as1 H1 σ1 vs Q r1 s1 (paired_mono l1 h2) fun γ' os' as' H' σ' r' l' s' q' => k γ' os' as' H' σ' r' (l1.trans l') s' q'⟩
theorem gx_tup {n : Nat} {t : TGs} (e : itOf c = some cs) (hn : cs.length = n) (h : GsX C t cs γ os R) : GX C (gTup C.K n t) c γ os R := fun as H σ v Q r s hv k => by
  obtain ⟨a, xs, rfl, h1, h2⟩ := it_of hv e
  exact ⟨a, xs, rfl, h1, by rw [← Paired.length h2]; exact hn, h as H σ xs Q r s h2 k⟩
theorem gx_subN {to ti : TE} (h : EX C to γ os fun co os1 => EX C ti γ os1 fun ci os2 => ∃ (k : Nat) (m : List (Crew × PyData)) (e : Crew) (x : PyData), co = .own k ∧ ci = .dat e.d ∧ c = .dat x ∧ os2[k]? = some (.dic m) ∧ m.length < sizeLine ∧ R γ (os2.set k (.dic (put m e x)))) :
    GX C (gSub to ti (rSetU C.P C.w)) c γ os R := fun as H σ v Q r s hv k =>
  h as H σ _ r s fun co os1 as1 H1 o r1 l1 ho h1 => h1 as1 H1 σ _ r1 (s.mono l1) fun ci os2 as2 H2 i r2 l2 hi ⟨kk, m, e, x, e1, e2, e3, e4, hz, q⟩ => by
    subst e1 e2 e3
    have hv2 : Dd H2 x v := (hv.mono l1).mono l2
    have hi2 : Dd H2 e.d i := hi
    obtain ⟨a, xs, rfl, g1, g2, g3, g4⟩ := own_dic r2 (ho.mono l2) e4
    obtain ⟨b, o, zs, rfl, q1⟩ := dd_tup.mp (show Dd H2 (.tuple _) i from hi2)
    obtain ⟨r3, l3⟩ := set_dic r2 g1 g2 g3 (dkv_put g4 hi2 hv2)
    exact .inr (.inl ⟨a, b, xs, m, e, rfl, rfl, g3, g4, hi2, hz, k γ _ as2 _ σ r3 ((l1.trans l2).trans l3) (((s.mono l1).mono l2).mono l3) q⟩)
/-! statements -/
theorem sx_next (h : E.nx γ os) : SX C tNext γ os E := fun as H σ D r s kn kr kb kc => kn γ os as H σ r (ExI.refl _) s h
theorem sx_break (h : E.bk γ os) : SX C tBreak γ os E := fun as H σ D r s kn kr kb kc => kb γ os as H σ r (ExI.refl _) s h
theorem sx_cont (h : E.ct γ os) : SX C tCont γ os E := fun as H σ D r s kn kr kb kc => kc γ os as H σ r (ExI.refl _) s h
theorem sx_never (h : False) : SX C tNever γ os E := h.elim

theorem SX.later {t : TS} {as1 : List (List Addr)} {H H1 : Hp} {σ : L2.St} {D : Ends} (h : SX C t γ os E) (r : Rl C as1 os H1) (s : Sl C as1 H1 σ γ) (x : ExI H H1)
    (kn : ∀ γ' os' as' H' σ', Rl C as' os' H' → ExI H H' → Sl C as' H' σ' γ' → E.nx γ' os' → D.nx σ' H') (kr : ∀ c os' as' H' v, Rl C as' os' H' → ExI H H' → Cv C as' H' c v → E.rt c os' → D.rt v H')
    (kb : ∀ γ' os' as' H' σ', Rl C as' os' H' → ExI H H' → Sl C as' H' σ' γ' → E.bk γ' os' → D.bk σ' H') (kc : ∀ γ' os' as' H' σ', Rl C as' os' H' → ExI H H' → Sl C as' H' σ' γ' → E.ct γ' os' → D.ct σ' H') : t D σ H1 :=
  h as1 H1 σ D r s (fun γ' os' as' H' σ' r' x' => kn γ' os' as' H' σ' r' (x.trans x')) (fun c os' as' H' v r' x' => kr c os' as' H' v r' (x.trans x')) (fun γ' os' as' H' σ' r' x' => kb γ' os' as' H' σ' r' (x.trans x')) (fun γ' os' as' H' σ' r' x' => kc γ' os' as' H' σ' r' (x.trans x'))
theorem sx_seq {t u : TS} (h : SX C t γ os { nx := fun γ1 os1 => SX C u γ1 os1 E, rt := E.rt, bk := E.bk, ct := E.ct }) : SX C (tSeq t u) γ os E := fun as H σ D r s kn kr kb kc =>
  h as H σ { D with nx := u D } r s (fun γ1 os1 as1 H1 σ1 r1 x1 s1 h1 => h1.later r1 s1 x1 kn kr kb kc) kr kb kc
theorem sx_drop (h : EX C te γ os fun _ os1 => E.nx γ os1) : SX C (tDrop te) γ os E := fun as H σ D r s kn kr kb kc =>
  h as H σ _ r s fun c os1 as1 H1 x r1 l1 hx q => kn γ os1 as1 H1 σ r1 l1.ex (s.mono l1) q
theorem sx_ret (h : EX C te γ os fun c os1 => E.rt c os1) : SX C (tRet te) γ os E := fun as H σ D r s kn kr kb kc =>
  h as H σ _ r s fun c os1 as1 H1 x r1 l1 hx q => kr c os1 as1 H1 x r1 l1.ex hx q
theorem sx_if {tt : TT} {t u : TS} (h : TX C tt γ os fun b os1 => (b = true → SX C t γ os1 E) ∧ (b = false → SX C u γ os1 E)) : SX C (tIfS tt t u) γ os E := fun as H σ D r s kn kr kb kc =>
  h as H σ _ r s fun b os1 as1 H1 r1 l1 h1 => by
    cases b with
    | true => rw [if_pos rfl]; exact (h1.1 rfl).later r1 (s.mono l1) l1.ex kn kr kb kc
    | false => rw [if_neg Bool.false_ne_true]; exact (h1.2 rfl).later r1 (s.mono l1) l1.ex kn kr kb kc
theorem sx_asg {g : TG} (h : EX C te γ os fun c os1 => GX C g c γ os1 E.nx) : SX C (tAsg te g) γ os E := fun as H σ D r s kn kr kb kc =>
  h as H σ _ r s fun c os1 as1 H1 x r1 l1 hx q => q as1 H1 σ x _ r1 (s.mono l1) hx fun γ' os' as' H' σ' r' l' s' q' => kn γ' os' as' H' σ' r' (l1.trans l').ex s' q'
theorem sx_set {i : Nat} (h : EX C te γ os fun c os1 => E.nx (γ.set i (some c)) os1) : SX C (tAsg te (gName i)) γ os E := sx_asg (EX.imp h fun _ _ q => gx_name q)
theorem sx_par {i j : Nat} {ta : TA} (h : AX C ta γ os fun cs os1 => ∃ c d, cs = [c, d] ∧ E.nx ((γ.set i (some c)).set j (some d)) os1) : SX C (tPar i j ta) γ os E := fun as H σ D r s kn kr kb kc =>
  h as H σ _ r s fun cs os1 as1 H1 vs r1 l1 hv ⟨c, d, e, q⟩ => by
    subst e
    obtain ⟨x, y, rfl, hx, hy⟩ := paired2 hv
    exact ⟨x, y, rfl, kn _ os1 as1 H1 _ r1 l1.ex (((s.mono l1).set hx).set hy) q⟩
theorem sx_par3 {i j k : Nat} {ta : TA} (h : AX C ta γ os fun cs os1 => ∃ c d e, cs = [c, d, e] ∧ E.nx (((γ.set i (some c)).set j (some d)).set k (some e)) os1) : SX C (tPar3 i j k ta) γ os E := fun as H σ D r s kn kr kb kc =>
  h as H σ _ r s fun cs os1 as1 H1 vs r1 l1 hv ⟨c, d, e, ee, q⟩ => by
    subst ee
    cases hv with
    | @cons _ x _ vs h1 h2 =>
      obtain ⟨y, z, rfl, hy, hz⟩ := paired2 h2
      exact ⟨x, y, z, rfl, kn _ os1 as1 H1 _ r1 l1.ex ((((s.mono l1).set h1).set hy).set hz) q⟩
theorem sx_aug {i : Nat} {a : Int} (e : γ[i]? = some (some (.dat (.int a)))) (h : EX C te γ os fun c os1 => ∃ b, c = .dat (.int b) ∧ E.nx (γ.set i (some (.dat (.int (a + b))))) os1) : SX C (tAug i te (ipI fun i j => i + j)) γ os E := fun as H σ D r s kn kr kb kc => by
  obtain ⟨x, e1, e2⟩ := s.at_ i _ e
  refine ⟨x, e1, h as H σ _ r s fun c os1 as1 H1 y r1 l1 hy ⟨b, ec, q⟩ => ?_⟩
  subst ec
  exact ⟨a, b, cv_intE e2, cv_intE hy, kn _ os1 as1 H1 _ r1 l1.ex ((s.mono l1).set cv_int) q⟩
/-! walks -/
theorem range_get {n i : Nat} {f : Nat → Cl} (h : i < n) : ((List.range n).map f)[i]? = some (f i) := by
  rw [List.getElem?_map, List.getElem?_range h]; rfl
def rngC (lo : Int) (n : Nat) : List Cl := (List.range n).map fun i => .dat (.int (lo + (i : Nat)))
theorem rng_ok {lo : Int} {n : Nat} : ItOk C (Itr lo n) (rngC lo n) as H := fun os2 as2 H2 r l i => by
  have hl : (rngC lo n).length = n := by unfold rngC; rw [List.length_map, List.length_range]
  rw [hl]
  refine ⟨fun h => h, fun h => by rw [h]; exact Nat.le_refl _, fun x H3 hi hy => ?_⟩
  obtain ⟨rfl, rfl⟩ := hy
  exact ⟨_, range_get hi, Same.refl _, cv_int⟩
theorem ix_rng1 {ta : TA} {R : List Cl → List OV → Prop} (h : AX C ta γ os fun cs os1 => ∃ j : Int, cs = [.dat (.int j)] ∧ -(2 ^ 62) ≤ j ∧ j < 2 ^ 62 ∧ R (rngC 0 j.toNat) os1) : IX C (iRng1 ta) γ os R := fun as H σ Q r s k =>
  h as H σ _ r s fun cs os1 as1 H1 vs r1 l1 hv ⟨j, e, h1, h2, q⟩ => by
    subst e
    obtain ⟨x, rfl, hx⟩ := paired1 hv
    exact ⟨j, by rw [cv_intE hx], h1, h2, k _ _ os1 as1 H1 r1 l1 rng_ok q⟩
theorem ix_rng2 {ta : TA} {R : List Cl → List OV → Prop} (h : AX C ta γ os fun cs os1 => ∃ i j : Int, cs = [.dat (.int i), .dat (.int j)] ∧ (-(2 ^ 62) ≤ i ∧ i < 2 ^ 62 ∧ -(2 ^ 62) ≤ j ∧ j < 2 ^ 62) ∧ R (rngC i (j - i).toNat) os1) : IX C (iRng2 ta) γ os R := fun as H σ Q r s k =>
  h as H σ _ r s fun cs os1 as1 H1 vs r1 l1 hv ⟨i, j, e, h1, q⟩ => by
    subst e
    obtain ⟨x, y, rfl, hx, hy⟩ := paired2 hv
    exact ⟨i, j, by rw [cv_intE hx, cv_intE hy], h1, k _ _ os1 as1 H1 r1 l1 rng_ok q⟩
/-- lists that stand still -/
def stOf : Cl → Option (List PyData)
  | .dat (.list ds) => some ds
  | .bl ds => some ds
  | _ => none
theorem st_of {ds : List PyData} (r : Rl C as os H) (h : Cv C as H c v) (e : stOf c = some ds) : ∃ a xs, v = .ref a ∧ DdAll H ds xs ∧ ∀ os2 as2 H2, Rl C as2 os2 H2 → ExI H H2 → SqL C.K H2 a xs := by
  cases c with
  | dat d =>
    cases d with
    | list es =>
      cases e
      obtain ⟨a, o, xs, h1, h2, h3⟩ := dd_lst.mp (cv_of h)
      exact ⟨a, xs, h1, h3, fun _ _ _ _ x => .inl (.inr ⟨o, x _ _ h2 trivial⟩)⟩
    | _ => cases e
  | bl es =>
    cases e
    obtain ⟨a, xs, h1, h2, h3⟩ := h
    exact ⟨a, xs, h1, DdAll.mono (exi_same r.same) _ _ h3, fun _ _ _ r2 _ => r2.same.seq h2⟩
  | _ => cases e
theorem ix_list {R : List Cl → List OV → Prop} (h : EX C te γ os fun c os1 => ∃ ds, stOf c = some ds ∧ R (ds.map .dat) os1) : IX C (iList C.K te) γ os R := fun as H σ Q r s k =>
  h as H σ _ r s fun c os1 as1 H1 v r1 l1 hv ⟨ds, e, q⟩ => by
    obtain ⟨a, xs, rfl, hd, hs⟩ := st_of r1 hv e
    refine ⟨a, rfl, ⟨xs, hs _ _ _ r1 (ExI.refl _)⟩, k _ _ os1 as1 H1 r1 l1 (fun os2 as2 H2 r2 x2 i => ?_) q⟩
    have sq := hs _ _ _ r2 x2
    rw [List.length_map, ← hd.length]
    refine ⟨fun hi => ⟨xs, xs[i], sq, List.getElem?_eq_getElem hi⟩, fun hi => ⟨xs, sq, by omega⟩, fun x H3 hi hy => ?_⟩
    obtain ⟨rfl, hy⟩ := hy
    obtain ⟨d, e1, e2⟩ := (DdAll.mono x2 _ _ hd).getV (hy xs sq)
    exact ⟨.dat d, by rw [List.getElem?_map, e1]; rfl, Same.refl _, e2⟩
theorem ix_tup {R : List Cl → List OV → Prop} (h : EX C te γ os fun c os1 => ∃ ds, tpOf c = some ds ∧ R (ds.map .dat) os1) : IX C (iTup C.K te) γ os R := fun as H σ Q r s k =>
  h as H σ _ r s fun c os1 as1 H1 v r1 l1 hv ⟨ds, e, q⟩ => by
    obtain ⟨a, xs, rfl, hs, hd⟩ := tp_of hv e
    refine ⟨a, rfl, ⟨xs, hs⟩, k _ _ os1 as1 H1 r1 l1 (fun os2 as2 H2 r2 x2 i => ?_) q⟩
    have sq := sqt_mono x2 hs
    rw [List.length_map, ← hd.length]
    refine ⟨fun hi => ⟨xs, xs[i], sq, List.getElem?_eq_getElem hi⟩, fun hi => ⟨xs, sq, by omega⟩, fun x H3 hi hy => ?_⟩
    obtain ⟨rfl, hy⟩ := hy
    obtain ⟨d, e1, e2⟩ := (DdAll.mono x2 _ _ hd).getV (hy xs sq)
    exact ⟨.dat d, by rw [List.getElem?_map, e1]; rfl, Same.refl _, e2⟩
def enumC (ds : List PyData) : List Cl := ds.zipIdx.map fun p => .lt [.int (p.2 : Nat), p.1]
theorem ix_enum {ta : TA} {R : List Cl → List OV → Prop} (h : AX C ta γ os fun cs os1 => ∃ c ds, cs = [c] ∧ tpOf c = some ds ∧ R (enumC ds) os1) : IX C (iEnumT C.K ta) γ os R := fun as H σ Q r s k =>
  h as H σ _ r s fun cs os1 as1 H1 vs r1 l1 hv ⟨c, ds, ec, e, q⟩ => by
    subst ec
    obtain ⟨v, rfl, hv'⟩ := paired1 hv
    obtain ⟨a, xs, rfl, hs, hd⟩ := tp_of hv' e
    refine ⟨a, xs, rfl, hs, k _ _ os1 as1 H1 r1 l1 (fun os2 as2 H2 r2 x2 i => ?_) q⟩
    have hl : (enumC ds).length = xs.length := by unfold enumC; rw [List.length_map, List.length_zipIdx, hd.length]
    rw [hl]
    refine ⟨fun hi => ⟨sqt_mono x2 hs, hi⟩, fun hi => ⟨sqt_mono x2 hs, hi⟩, fun x H3 hi hy => ?_⟩
    obtain ⟨T, y, rfl, hT, rfl, hx⟩ := hy
    obtain ⟨d, e1, e2⟩ := (DdAll.mono x2 _ _ hd).getV hx
    refine ⟨.lt [.int (i : Nat), d], ?_, same_new hT, T, _, rfl, .inl (.inl upd_same), DdAll.cons (dd_int.mpr rfl) (DdAll.cons (Dd.mono (exi_same (same_new hT)) _ _ e2) DdAll.nil)⟩
    unfold enumC
    rw [List.getElem?_map, List.getElem?_zipIdx, e1]
    simp
def zipC (ds es : List PyData) : List Cl := (ds.zip es).map fun p => .lt [p.1, p.2]
theorem ix_zip {ta : TA} {R : List Cl → List OV → Prop} (h : AX C ta γ os fun cs os1 => ∃ c d ds es, cs = [c, d] ∧ tpOf c = some ds ∧ tpOf d = some es ∧ R (zipC ds es) os1) : IX C (RZ.iZipA C.K ta) γ os R := fun as H σ Q r s k =>
  h as H σ _ r s fun cs os1 as1 H1 vs r1 l1 hv ⟨c, d, ds, es, ec, e1, e2, q⟩ => by
    subst ec
    obtain ⟨v, w, rfl, hv, hw⟩ := paired2 hv
    obtain ⟨a, xs, rfl, hs, hd⟩ := tp_of hv e1
    obtain ⟨b, ys, rfl, hs', hd'⟩ := tp_of hw e2
    refine ⟨a, b, xs, ys, rfl, .inr ⟨hs, hs', k _ _ os1 as1 H1 r1 l1 (fun os2 as2 H2 r2 x2 i => ?_) q⟩⟩
    have s1 := sqt_mono x2 hs
    have s2 := sqt_mono x2 hs'
    have hl : (zipC ds es).length = min xs.length ys.length := by unfold zipC; rw [List.length_map, List.length_zip, hd.length, hd'.length]
    rw [hl]
    refine ⟨fun hi => ⟨xs, ys, xs[i]'(by omega), ys[i]'(by omega), s1, s2, List.getElem?_eq_getElem _, List.getElem?_eq_getElem _⟩, fun hi => ⟨xs, ys, s1, s2, by omega⟩, fun x H3 hi hy => ?_⟩
    obtain ⟨T, y, z, rfl, hT, rfl, hy, hz⟩ := hy
    obtain ⟨p, p1, p2⟩ := (DdAll.mono x2 _ _ hd).getV (hy _ s1)
    obtain ⟨q, q1, q2⟩ := (DdAll.mono x2 _ _ hd').getV (hz _ s2)
    refine ⟨.lt [p, q], ?_, same_new hT, T, _, rfl, .inl (.inl upd_same), DdAll.cons (Dd.mono (exi_same (same_new hT)) _ _ p2) (DdAll.cons (Dd.mono (exi_same (same_new hT)) _ _ q2) DdAll.nil)⟩
    unfold zipC
    rw [List.getElem?_map, (List.getElem?_zip_eq_some (z := (p, q))).mpr ⟨p1, q1⟩]
    rfl
theorem ix_keys {R : List Cl → List OV → Prop} (h : EX C te γ os fun c os1 => ∃ m, c = .fd m ∧ R (m.map fun e => .dat e.1.d) os1) : IX C (iKeysN C.P C.w te) γ os R := fun as H σ Q r s k =>
  h as H σ _ r s fun c os1 as1 H1 v r1 l1 hv ⟨m, e, q⟩ => by
    subst e
    obtain ⟨p, o, xs, rfl, h1, h2⟩ := hv
    refine ⟨p, o, xs, rfl, h1, k _ _ os1 as1 H1 r1 l1 (fun os2 as2 H2 r2 x2 i => ?_) q⟩
    have hl := Paired.length h2
    rw [List.length_map, hl]
    refine ⟨fun hi => ⟨x2 _ _ h1 trivial, hi⟩, fun hi => ⟨x2 _ _ h1 trivial, by omega⟩, fun x H3 hi hy => ?_⟩
    obtain ⟨rfl, e, he, rfl⟩ := hy
    have hd := dkv_keys (h2.mono x2)
    obtain ⟨d, e1, e2⟩ := hd.getV (i := i) (x := .ref e.2.1) (by rw [List.getElem?_map, he]; rfl)
    refine ⟨.dat d, ?_, Same.refl _, e2⟩
    rw [List.getElem?_map] at e1 ⊢
    obtain ⟨f, g1, g2⟩ := Option.map_eq_some_iff.mp e1
    rw [g1, ← g2]
    rfl
/-! loops -/
def Nw (I : List (Option Cl) → List OV → Prop) : List (Option Cl) → List OV → Prop := fun γ os => ∃ γ' os', I γ' os' ∧ Wk γ os γ' os'
theorem nw_here {I : List (Option Cl) → List OV → Prop} {as : List (List Addr)} {H : Hp} {σ : L2.St} {γ : List (Option Cl)} {os : List OV} (r : Rl C as os H) (s : Sl C as H σ γ) (h : Nw I γ os) :
    ∃ γ' os' as', I γ' os' ∧ Rl C as' os' H ∧ Sl C as' H σ γ' := by
  obtain ⟨γ', os', hi, w⟩ := h
  refine ⟨γ', os', as.take os'.length, hi, ?_, s.weak w.c⟩
  have := r.take os'.length
  rw [← w.o] at this
  exact this
theorem sx_for {wi : TI} {g : TG} {tb : TS} (h : IX C wi γ os fun cs os1 => ∃ I : Nat → List (Option Cl) → List OV → Prop, I 0 γ os1 ∧ ∀ i γ1 os2, i ≤ cs.length → I i γ1 os2 → (i = cs.length → E.nx γ1 os2) ∧
      ∀ c, cs[i]? = some c → GX C g c γ1 os2 fun γ2 os3 => SX C tb γ2 os3 { nx := Nw (I (i + 1)), ct := Nw (I (i + 1)), bk := E.nx, rt := E.rt }) : SX C (tFor wi g tb) γ os E := fun as H σ D r s kn kr kb kc =>
  h as H σ _ r s fun J cs os1 as1 H1 r1 l1 ok ⟨I, i0, turn⟩ => by
    refine ⟨fun i m σ' H' => m = cs.length - i ∧ i ≤ cs.length ∧ ExI H1 H' ∧ ∃ γ' os' as', Rl C as' os' H' ∧ Sl C as' H' σ' γ' ∧ I i γ' os', ⟨cs.length, by simp, Nat.zero_le _, ExI.refl _, γ, os1, as1, r1, s.mono l1, i0⟩, ?_⟩
    rintro i m σ' H' ⟨rfl, hi, x, γ', os', as', r', s', hI⟩
    obtain ⟨t1, t2⟩ := turn i γ' os' hi hI
    obtain ⟨o1, o2, o3⟩ := ok os' as' H' r' x i
    by_cases hlt : i < cs.length
    · refine .inr ⟨o1 hlt, fun σ3 H3 => ExI H1 H3 ∧ ∃ γ3 os3 as3, Rl C as3 os3 H3 ∧ Sl C as3 H3 σ3 γ3 ∧ I (i + 1) γ3 os3, fun σ3 H3 h3 => ⟨cs.length - (i + 1), by omega, rfl, hlt, h3⟩, fun y H2 hy => ?_⟩
      obtain ⟨c, e1, sm, hc⟩ := o3 y H2 hlt hy
      have rr := r'.grow sm
      have ss := s'.mono (Le.same sm)
      refine t2 c e1 as' H2 σ' y _ rr ss hc fun γ3 os3 as3 H3 σ3 r3 l3 s3 q3 => ?_
      have x3 : ExI H H3 := (l1.ex.trans x).trans ((exi_same sm).trans l3.ex)
      have x13 : ExI H1 H3 := x.trans ((exi_same sm).trans l3.ex)
      have fin : ∀ γ' os' as' H' σ', Rl C as' os' H' → ExI H3 H' → Sl C as' H' σ' γ' → Nw (I (i + 1)) γ' os' → ExI H1 H' ∧ ∃ γ3 os3 as3, Rl C as3 os3 H' ∧ Sl C as3 H' σ' γ3 ∧ I (i + 1) γ3 os3 := fun γ4 os4 as4 H4 σ4 r4 x4 s4 nw => by
        obtain ⟨γ5, os5, as5, h1, h2, h3⟩ := nw_here r4 s4 nw
        exact ⟨x13.trans x4, γ5, os5, as5, h2, h3, h1⟩
      exact q3 as3 H3 σ3 _ r3 s3 fin (fun c os' as' H' v r' x' => kr c os' as' H' v r' (x3.trans x')) (fun γ' os' as' H' σ' r' x' => kn γ' os' as' H' σ' r' (x3.trans x')) fin
    · have e : i = cs.length := by omega
      exact .inl ⟨o2 e, kn γ' os' as' H' σ' r' (l1.ex.trans x) s' (t1 e)⟩
theorem sx_while {tt : TT} {tb : TS} (h : ∃ I : Nat → List (Option Cl) → List OV → Prop, (∃ m, I m γ os) ∧ ∀ m γ1 os1, I m γ1 os1 → TX C tt γ1 os1 fun b os2 =>
      (b = true → SX C tb γ1 os2 { nx := Nw fun γ os => ∃ m', m' < m ∧ I m' γ os, ct := Nw fun γ os => ∃ m', m' < m ∧ I m' γ os, bk := E.nx, rt := E.rt }) ∧ (b = false → E.nx γ1 os2)) : SX C (tWhile tt tb) γ os E := fun as H σ D r s kn kr kb kc => by
  obtain ⟨I, ⟨m0, i0⟩, turn⟩ := h
  refine ⟨fun m σ' H' => ExI H H' ∧ ∃ γ' os' as', Rl C as' os' H' ∧ Sl C as' H' σ' γ' ∧ I m γ' os', ⟨m0, ExI.refl _, γ, os, as, r, s, i0⟩, ?_⟩
  rintro m σ' H' ⟨x, γ', os', as', r', s', hI⟩
  refine turn m γ' os' hI as' H' σ' _ r' s' fun b os2 as2 H2 r2 l2 hb => ?_
  have s2 := s'.mono l2
  have x2 := x.trans l2.ex
  cases b with
  | true =>
    rw [if_pos rfl]
    have fin : ∀ γ4 os4 as4 H4 σ4, Rl C as4 os4 H4 → ExI H2 H4 → Sl C as4 H4 σ4 γ4 → Nw (fun γ os => ∃ m', m' < m ∧ I m' γ os) γ4 os4 → ∃ m', m' < m ∧ ExI H H4 ∧ ∃ γ' os' as', Rl C as' os' H4 ∧ Sl C as' H4 σ4 γ' ∧ I m' γ' os' := fun γ4 os4 as4 H4 σ4 r4 x4 s4 nw => by
      obtain ⟨γ5, os5, as5, ⟨m', h1, h4⟩, h2, h3⟩ := nw_here r4 s4 nw
      exact ⟨m', h1, x2.trans x4, γ5, os5, as5, h2, h3, h4⟩
    exact ⟨fun σ4 H4 => ∃ m', m' < m ∧ ExI H H4 ∧ ∃ γ' os' as', Rl C as' os' H4 ∧ Sl C as' H4 σ4 γ' ∧ I m' γ' os', fun σ4 H4 h4 => h4,
      (hb.1 rfl) as2 H2 σ' _ r2 s2 fin (fun c os' as' H' v r' x' => kr c os' as' H' v r' (x2.trans x')) (fun γ' os' as' H' σ' r' x' => kn γ' os' as' H' σ' r' (x2.trans x')) fin⟩
  | false =>
    rw [if_neg Bool.false_ne_true]
    exact kn γ' os2 as2 H2 σ' r2 x2 s2 (hb.2 rfl)
end
end Pk
/-! Pk, part O: comprehensions and calls on data. -/
namespace Pk
open PySem PySem.Spec PyProof.Rows L2

def wipeC (γ : List (Option Cl)) : List Nat → List (Option Cl)
  | [] => γ
  | v :: vs => (wipeC γ vs).set v none
theorem wipe_get (σ : L2.St) (j : Nat) : ∀ vs : List Nat, (wipe σ vs)[j]? = if j ∈ vs ∧ j < σ.length then some none else σ[j]?
  | [] => by simp [wipe]
  | v :: vs => by
    unfold wipe
    by_cases e : v = j
    · subst e
      by_cases h : v < σ.length
      · rw [List.getElem?_set_self (by rw [wipe_length]; exact h), if_pos ⟨List.mem_cons_self, h⟩]
      · rw [if_neg (fun z => h z.2), List.getElem?_eq_none (by rw [List.length_set, wipe_length]; omega), List.getElem?_eq_none (by omega)]
    · rw [List.getElem?_set_ne e, wipe_get σ j vs]
      have : (j ∈ v :: vs) ↔ j ∈ vs := by
        rw [List.mem_cons]
        exact ⟨fun z => z.elim (fun q => absurd q.symm e) id, .inr⟩
      simp only [this]
theorem wipe_set (σ : L2.St) {i : Nat} {v : Option V} {vs : List Nat} (h : i ∈ vs) : wipe (σ.set i v) vs = wipe σ vs := by
  refine List.ext_getElem? fun j => ?_
  rw [wipe_get, wipe_get, List.length_set]
  by_cases e : j ∈ vs ∧ j < σ.length
  · rw [if_pos e, if_pos e]
  · rw [if_neg e, if_neg e]
    by_cases z : i = j
    · subst z
      have : ¬ i < σ.length := fun q => e ⟨h, q⟩
      rw [List.getElem?_eq_none (by rw [List.length_set]; omega), List.getElem?_eq_none (by omega)]
    · rw [List.getElem?_set_ne z]
theorem wipe_wipe (σ : L2.St) (vs : List Nat) : wipe (wipe σ vs) vs = wipe σ vs := by
  refine List.ext_getElem? fun j => ?_
  rw [wipe_get, wipe_length]
  by_cases e : j ∈ vs ∧ j < σ.length
  · rw [if_pos e, wipe_get, if_pos e]
  · rw [if_neg e]
/-- targets that write within vs -/
def TgOk (g : TG) (vs : List Nat) : Prop := ∀ v σ H (Q : L2.St → Hp → Prop), g v σ H (fun σ2 H2 => wipe σ2 vs = wipe σ vs → Q σ2 H2) → g v σ H Q
def TgsOk (g : TGs) (vs : List Nat) : Prop := ∀ xs σ H (Q : L2.St → Hp → Prop), g xs σ H (fun σ2 H2 => wipe σ2 vs = wipe σ vs → Q σ2 H2) → g xs σ H Q
theorem tg_name {i : Nat} {vs : List Nat} (h : i ∈ vs) : TgOk (gName i) vs := fun v σ H Q q => q (wipe_set σ h)
theorem tgs_nil {vs : List Nat} : TgsOk gNil vs := fun xs σ H Q ⟨e, q⟩ => ⟨e, q rfl⟩
/-- monotone targets -/
def TgMono (g : TG) : Prop := ∀ v σ H (Q Q' : L2.St → Hp → Prop), (∀ σ H, Q σ H → Q' σ H) → g v σ H Q → g v σ H Q'
theorem tm_name {i : Nat} : TgMono (gName i) := fun v σ H Q Q' k h => k _ _ h
theorem tgs_cons {g : TG} {t : TGs} {vs : List Nat} (m : TgMono g) (h : TgOk g vs) (k : TgsOk t vs) : TgsOk (gCons g t) vs := fun xs σ H Q ⟨v, r, e, q⟩ =>
  ⟨v, r, e, h v σ H _ (m v σ H _ _ (fun σ1 H1 q1 => fun e1 => k r σ1 H1 Q (by rw [e1]; exact q1)) q)⟩
theorem tg_tup {K : PySem.W.Frag} {n : Nat} {t : TGs} {vs : List Nat} (k : TgsOk t vs) : TgOk (gTup K n t) vs := fun v σ H Q ⟨a, xs, h1, h2, h3, q⟩ => ⟨a, xs, h1, h2, h3, k xs σ H Q q⟩

section
variable {C : Kx} {as : List (List Addr)} {os : List OV} {H : Hp} {c : Cl} {cs : List Cl} {v : V} {γ : List (Option Cl)} {R : Cl → List OV → Prop} {te tk tv : TE} {E : En}
theorem Sl.wipe {σ : L2.St} (s : Sl C as H σ γ) : ∀ vs : List Nat, Sl C as H (wipe σ vs) (wipeC γ vs)
  | [] => s
  | v :: vs => by
    have q := s.wipe vs
    unfold L2.wipe wipeC
    refine ⟨by rw [List.length_set, List.length_set, q.len], fun j c e => ?_⟩
    by_cases z : v = j
    · subst z
      by_cases h : v < (wipeC γ vs).length
      · rw [List.getElem?_set_self h] at e; cases e
      · rw [List.getElem?_eq_none (by rw [List.length_set]; omega)] at e; cases e
    · rw [List.getElem?_set_ne z] at e ⊢
      exact q.at_ j c e
/-- the general form: the new list stands behind the objects -/
theorem ex_lcG {wi : TI} {g : TG} {tt : TT} {vs : List Nat} (tg : TgOk g vs) (h : IX C wi γ os fun cs os1 => ∃ I : Nat → List PyData → List OV → Prop, I 0 [] os1 ∧
    (∀ (i : Nat) (c : Cl) (acc : List PyData) (o : List OV), cs[i]? = some c → I i acc o → GX C g c (wipeC γ vs) (o ++ [.lst acc]) fun γ2 os2 => TX C tt γ2 os2 fun b os3 =>
      (b = true → EX C te γ2 os3 fun y os4 => ∃ x o', y = .dat x ∧ os4.take (o.length + 1) = o' ++ [.lst acc] ∧ o'.length = o.length ∧ acc.length < sizeLine ∧ I (i + 1) (acc ++ [x]) o') ∧
      (b = false → ∃ o', os3.take (o.length + 1) = o' ++ [.lst acc] ∧ o'.length = o.length ∧ I (i + 1) acc o')) ∧
    (∀ acc o, I cs.length acc o → R (.own o.length) (o ++ [.lst acc]))) : EX C (tLc wi g tt te vs) γ os R := fun as H σ Q r s k =>
  h as H σ _ r s fun J cs os1 as1 H1 r1 l1 ok ⟨I, i0, turn, fin⟩ D hD => by
    have rp := r1.push (l := [D]) (o := .lst []) (fun a ha => by simp only [List.mem_singleton] at ha; subst ha; exact hD) (same_new (o := .lst []) hD) ⟨D, [], rfl, upd_same, DdAll.nil⟩
    have lp : Le as1 H1 (as1 ++ [[D]]) (upd H1 D (.lst [])) := le_push (same_new hD)
    refine ⟨fun i m H' => m = cs.length - i ∧ i ≤ cs.length ∧ ∃ acc o, I i acc o ∧ o.length = os1.length ∧ ∃ as', Rl C as' (o ++ [.lst acc]) H' ∧ Le (as1 ++ [[D]]) (upd H1 D (.lst [])) as' H', ⟨cs.length, by simp, Nat.zero_le _, [], os1, i0, rfl, _, rp, Le.refl _ _⟩, ?_⟩
    rintro i m H' ⟨rfl, hi, acc, o, hI, hol, as', r', l'⟩
    have lx : Le as1 H1 as' H' := lp.trans l'
    obtain ⟨o1, o2, o3⟩ := ok _ as' H' r' lx.ex i
    have hown : ∀ {as2 : List (List Addr)} {H2 : Hp}, Le as' H' as2 H2 → Cv C as2 H2 (.own o.length) (.ref D) := fun {as2 H2} l2 => by
      obtain ⟨l, e⟩ := (l'.trans l2).ad os1.length D [] (by rw [← r1.len, List.getElem?_append_right (Nat.le_refl _), Nat.sub_self]; rfl)
      exact ⟨D, l, by rw [hol]; exact e, rfl⟩
    by_cases hlt : i < cs.length
    · refine .inr ⟨o1 hlt, fun H3 => ∃ acc o, I (i + 1) acc o ∧ o.length = os1.length ∧ ∃ as', Rl C as' (o ++ [.lst acc]) H3 ∧ Le (as1 ++ [[D]]) (upd H1 D (.lst [])) as' H3, fun H3 h3 => ⟨cs.length - (i + 1), by omega, rfl, hlt, h3⟩, fun y H2 hy => ?_⟩
      obtain ⟨c, e1, sm, hc⟩ := o3 y H2 hlt hy
      have lsm : Le as' H' as' H2 := Le.same sm
      refine tg y _ H2 _ (turn i c acc o e1 hI as' H2 (wipe σ vs) y _ (r'.grow sm) ((s.mono (l1.trans (lx.trans lsm))).wipe vs) hc fun γ2 os2 as2 H3 σ2 r2 l2 s2 q2 => fun hw => ⟨by rw [hw, wipe_wipe], ?_⟩)
      refine q2 as2 H3 σ2 _ r2 s2 fun b os3 as3 H4 r3 l3 q3 => ?_
      -- truncated
      have cut : ∀ {os4 : List OV} {as4 : List (List Addr)} {H5 : Hp} {o' : List OV}, Rl C as4 os4 H5 → Le as' H' as4 H5 → os4.take (o.length + 1) = o' ++ [.lst acc] → o'.length = o.length →
          Rl C (as4.take (o.length + 1)) (o' ++ [.lst acc]) H5 ∧ Le (as1 ++ [[D]]) (upd H1 D (.lst [])) (as4.take (o.length + 1)) H5 := fun {os4 as4 H5 o'} r4 l4 e ho => by
        have q := r4.take (o.length + 1)
        rw [e] at q
        refine ⟨q, (l'.trans l4).ex, fun j a l hj => ?_⟩
        obtain ⟨l2, e2⟩ := (l'.trans l4).ad j a l hj
        have hlt : j < (as1 ++ [[D]]).length := (List.getElem?_eq_some_iff.mp hj).1
        rw [List.length_append, List.length_singleton, r1.len, ← hol] at hlt
        exact ⟨l2, by rw [List.getElem?_take, if_pos hlt]; exact e2⟩
      have l3' : Le as' H' as3 H4 := (lsm.trans l2).trans l3
      cases b with
      | true =>
        rw [if_pos rfl]
        refine q3.1 rfl as3 H4 σ2 _ r3 (s2.mono l3) fun y os4 as4 H5 yv r4 l4 hy4 ⟨x, o', ey, e4, ho, hz, hI4⟩ => ?_
        subst ey
        obtain ⟨r5, l5⟩ := cut r4 (l3'.trans l4) e4 ho
        have hown5 : Cv C (as4.take (o.length + 1)) H5 (.own o.length) (.ref D) := by
          obtain ⟨a, l, h1, h2⟩ := hown (l3'.trans l4)
          exact ⟨a, l, by rw [List.getElem?_take, if_pos (Nat.lt_succ_self _)]; exact h1, h2⟩
        have lk : (o' ++ [OV.lst acc])[o.length]? = some (.lst acc) := by rw [← ho, List.getElem?_append_right (Nat.le_refl _), Nat.sub_self]; rfl
        obtain ⟨a, xs, ea, g1, g2, g3, g4⟩ := own_lst r5 hown5 lk
        cases ea
        obtain ⟨r6, l6⟩ := set_lst r5 g1 g2 g3 (g4.append (DdAll.cons hy4 DdAll.nil))
        refine ⟨xs, g3, by rw [g4.length]; exact hz, acc ++ [x], o', hI4, ho.trans hol, _, ?_, l5.trans l6⟩
        have es : (o' ++ [OV.lst acc]).set o.length (.lst (acc ++ [x])) = o' ++ [.lst (acc ++ [x])] := by
          rw [← ho, List.set_append_right _ _ (Nat.le_refl _), Nat.sub_self]; rfl
        rw [es] at r6
        exact r6
      | false =>
        rw [if_neg Bool.false_ne_true]
        obtain ⟨o', e3, ho, hI3⟩ := q3.2 rfl
        obtain ⟨r5, l5⟩ := cut r3 l3' e3 ho
        exact ⟨acc, o', hI3, ho.trans hol, _, r5, l5⟩
    · have e : i = cs.length := by omega
      subst e
      exact .inl ⟨o2 rfl, k (.own o.length) _ as' H' _ r' (l1.trans lx) (hown (Le.refl _ _)) (fin acc o hI)⟩
/-- one that leaves the objects as they are: f gives what an item adds -/
theorem ex_lc {wi : TI} {g : TG} {tt : TT} {vs : List Nat} (tg : TgOk g vs) (h : IX C wi γ os fun cs os1 => os1 = os ∧ ∃ f : Cl → List PyData, cs.length < sizeLine ∧
    (∀ (i : Nat) (c : Cl) (acc : List PyData), cs[i]? = some c → GX C g c (wipeC γ vs) (os ++ [.lst acc]) fun γ2 os2 => TX C tt γ2 os2 fun b os3 =>
      (b = true → EX C te γ2 os3 fun y os4 => ∃ x, y = .dat x ∧ os4.take (os.length + 1) = os ++ [.lst acc] ∧ f c = [x]) ∧
      (b = false → os3.take (os.length + 1) = os ++ [.lst acc] ∧ f c = [])) ∧
    R (.dat (.list (cs.flatMap f))) os) : EX C (tFrz (tLc wi g tt te vs)) γ os R := by
  refine ex_frzT (ex_lcG tg fun as H σ Q r s k => h as H σ Q r s fun J cs os' as' H' r1 l1 ok q => ?_)
  obtain ⟨rfl, f, hz, turn, fin⟩ := q
  refine k J cs os' as' H' r1 l1 ok ⟨fun i acc o => o = os' ∧ acc = (cs.take i).flatMap f ∧ acc.length ≤ i, ⟨rfl, by simp, Nat.le_refl _⟩, fun i c acc o e ⟨h1, h2, h3⟩ => ?_, fun acc o ⟨h1, h2, h3⟩ => ?_⟩
  · subst h1
    have hi : i < cs.length := (List.getElem?_eq_some_iff.mp e).1
    have ec : cs.take (i + 1) = cs.take i ++ [c] := by rw [List.take_add_one, e]; rfl
    intro as H σ v Q r s hv kk
    refine turn i c acc e as H σ v Q r s hv fun γ' os2 as2 H2 σ2 r2 l2 s2 q2 => kk γ' os2 as2 H2 σ2 r2 l2 s2 ?_
    intro as H σ Q r s kk
    refine q2 as H σ Q r s fun b os3 as3 H3 r3 l3 q3 => kk b os3 as3 H3 r3 l3 ⟨fun hb => ?_, fun hb => ?_⟩
    · refine EX.imp (q3.1 hb) fun y os4 ⟨x, e1, e2, e3⟩ => ⟨x, o, e1, e2, rfl, by omega, rfl, ?_, ?_⟩
      · rw [ec, List.flatMap_append, ← h2]; simp [e3]
      · rw [List.length_append, List.length_singleton]; omega
    · obtain ⟨e2, e3⟩ := q3.2 hb
      refine ⟨o, e2, rfl, rfl, ?_, by omega⟩
      rw [ec, List.flatMap_append, ← h2]; simp [e3]
  · subst h1
    rw [List.take_length] at h2
    refine ⟨o.length, acc, rfl, Nat.le_refl _, by rw [List.getElem?_append_right (Nat.le_refl _), Nat.sub_self]; rfl, List.take_left, ?_⟩
    rw [h2]
    exact fin
/-- a dict by a comprehension -/
theorem ex_dcN {wi : TI} {g : TG} {vs : List Nat} (tg : TgOk g vs) (h : IX C wi γ os fun cs os1 => os1 = os ∧ ∃ f : Cl → Crew × PyData, cs.length < sizeLine ∧
    (∀ (i : Nat) (c : Cl) (m : List (Crew × PyData)), cs[i]? = some c → GX C g c (wipeC γ vs) (os ++ [.dic m]) fun γ2 os2 => EX C tk γ2 os2 fun y os3 => EX C tv γ2 os3 fun z os4 => y = .dat (f c).1.d ∧ z = .dat (f c).2 ∧ os4.take (os.length + 1) = os ++ [.dic m]) ∧
    R (.own os.length) (os ++ [.dic (mergeC [] (cs.map f))])) : EX C (tDcN C.P C.w wi g tk tv vs) γ os R := fun as H σ Q r s k =>
  h as H σ _ r s fun J cs os1 as1 H1 r1 l1 ok ⟨eo, f, hz, turn, fin⟩ D hD => by
    subst eo
    have rp := r1.push (l := [D]) (o := .dic []) (fun a ha => by simp only [List.mem_singleton] at ha; subst ha; exact hD) (same_new (o := DnO C.P C.w D []) hD) ⟨D, [], rfl, upd_same, .nil⟩
    have lp : Le as1 H1 (as1 ++ [[D]]) (upd H1 D (DnO C.P C.w D [])) := le_push (same_new hD)
    refine ⟨fun i m H' => m = cs.length - i ∧ i ≤ cs.length ∧ ∃ as', Rl C as' (os1 ++ [.dic (mergeC [] ((cs.take i).map f))]) H' ∧ Le (as1 ++ [[D]]) (upd H1 D (DnO C.P C.w D [])) as' H', ⟨cs.length, by simp, Nat.zero_le _, _, rp, Le.refl _ _⟩, ?_⟩
    rintro i m H' ⟨rfl, hi, as', r', l'⟩
    have lx : Le as1 H1 as' H' := lp.trans l'
    obtain ⟨o1, o2, o3⟩ := ok _ as' H' r' lx.ex i
    have hown : ∀ {as2 : List (List Addr)} {H2 : Hp}, Le as' H' as2 H2 → Cv C as2 H2 (.own os1.length) (.ref D) := fun {as2 H2} l2 => by
      obtain ⟨l, e⟩ := (l'.trans l2).ad os1.length D [] (by rw [← r1.len, List.getElem?_append_right (Nat.le_refl _), Nat.sub_self]; rfl)
      exact ⟨D, l, e, rfl⟩
    by_cases hlt : i < cs.length
    · refine .inr ⟨o1 hlt, fun H3 => ∃ as', Rl C as' (os1 ++ [.dic (mergeC [] ((cs.take (i + 1)).map f))]) H3 ∧ Le (as1 ++ [[D]]) (upd H1 D (DnO C.P C.w D [])) as' H3, fun H3 h3 => ⟨cs.length - (i + 1), by omega, rfl, hlt, h3⟩, fun y H2 hy => ?_⟩
      obtain ⟨c, e1, sm, hc⟩ := o3 y H2 hlt hy
      have lsm : Le as' H' as' H2 := Le.same sm
      refine tg y _ H2 _ (turn i c _ e1 as' H2 (wipe σ vs) y _ (r'.grow sm) ((s.mono (l1.trans (lx.trans lsm))).wipe vs) hc fun γ2 os2 as2 H3 σ2 r2 l2 s2 q2 => fun hw => ⟨by rw [hw, wipe_wipe], ?_⟩)
      refine q2 as2 H3 σ2 _ r2 s2 fun ck os3 as3 H4 yk r3 l3 hk q3 => q3 as3 H4 σ2 _ r3 (s2.mono l3) fun cz os4 as4 H5 zv r4 l4 hz4 ⟨e5, e6, e4⟩ => ?_
      subst e5 e6
      have l3' : Le as' H' as4 H5 := ((lsm.trans l2).trans l3).trans l4
      have q := r4.take (os1.length + 1)
      rw [e4] at q
      have l5 : Le (as1 ++ [[D]]) (upd H1 D (DnO C.P C.w D [])) (as4.take (os1.length + 1)) H5 := by
        refine ⟨(l'.trans l3').ex, fun j a l hj => ?_⟩
        obtain ⟨l2, e2⟩ := (l'.trans l3').ad j a l hj
        have hlt : j < (as1 ++ [[D]]).length := (List.getElem?_eq_some_iff.mp hj).1
        rw [List.length_append, List.length_singleton, r1.len] at hlt
        exact ⟨l2, by rw [List.getElem?_take, if_pos hlt]; exact e2⟩
      have hown5 : Cv C (as4.take (os1.length + 1)) H5 (.own os1.length) (.ref D) := by
        obtain ⟨a, l, h1, h2⟩ := hown l3'
        exact ⟨a, l, by rw [List.getElem?_take, if_pos (Nat.lt_succ_self _)]; exact h1, h2⟩
      have lk : ∀ m : List (Crew × PyData), (os1 ++ [OV.dic m])[os1.length]? = some (.dic m) := fun m => by rw [List.getElem?_append_right (Nat.le_refl _), Nat.sub_self]; rfl
      obtain ⟨a, xs, ea, g1, g2, g3, g4⟩ := own_dic q hown5 (lk _)
      cases ea
      have hk5 : Dd H5 (f c).1.d yk := hk.mono l4
      obtain ⟨b, oo, zs, rfl, q1⟩ := dd_tup.mp (show Dd H5 (.tuple _) yk from hk5)
      obtain ⟨r6, l6⟩ := set_dic q g1 g2 g3 (dkv_put g4 hk5 hz4)
      have hml : ∀ (l m : List (Crew × PyData)), (mergeC m l).length ≤ m.length + l.length := by
        intro l
        induction l with
        | nil => intro m; exact Nat.le_refl _
        | cons e l ih =>
          intro m
          have h1 := ih (put m e.1 e.2)
          have h2 : (put m e.1 e.2).length ≤ m.length + 1 := by
            unfold put
            split
            · rw [List.length_map]; omega
            · rw [List.length_append]; simp
          show (mergeC (put m e.1 e.2) l).length ≤ _
          rw [List.length_cons]; omega
      refine ⟨b, (f c).1, xs, _, rfl, hk5, g3, g4, ?_, _, ?_, l5.trans l6⟩
      · have := hml ((cs.take i).map f) []
        rw [List.length_map, List.length_take, List.length_nil] at this
        omega
      · have ec : (cs.take (i + 1)).map f = (cs.take i).map f ++ [f c] := by rw [List.take_add_one, e1, List.map_append]; rfl
        have em : mergeC [] ((cs.take (i + 1)).map f) = put (mergeC [] ((cs.take i).map f)) (f c).1 (f c).2 := by rw [ec]; unfold mergeC; rw [List.foldl_append]; rfl
        have es : ∀ m m' : List (Crew × PyData), (os1 ++ [OV.dic m]).set os1.length (.dic m') = os1 ++ [.dic m'] := fun m m' => by rw [List.set_append_right _ _ (Nat.le_refl _), Nat.sub_self]; rfl
        rw [es] at r6
        rw [em]
        exact r6
    · have e : i = cs.length := by omega
      subst e
      rw [List.take_length] at r'
      exact .inl ⟨o2 rfl, k (.own os1.length) _ as' H' _ r' (l1.trans lx) (hown (Le.refl _ _)) fin⟩
end
/-! ### calls -/
def ImC : Cl → Prop
  | .own _ => False
  | .bl _ => False
  | _ => True
theorem im_at {C C' : Kx} (eP : C.P = C'.P) (ew : C.w = C'.w) (eK : C.K = C'.K) {as as' : List (List Addr)} {H : Hp} {c : Cl} {v : V} (i : ImC c) (h : Cv C as H c v) : Cv C' as' H c v := by
  obtain ⟨P, w, K, H0⟩ := C
  obtain ⟨P', w', K', H0'⟩ := C'
  cases eP; cases ew; cases eK
  cases c with
  | own k => exact i.elim
  | bl k => exact i.elim
  | _ => exact h
abbrev Spec := List Cl → (Cl → Prop) → Prop
/-- the promise of a def that changes nothing -/
def spX (P : Program) (w : World) (K : PySem.W.Frag) (spec : Spec) : Sp := fun vs H Q _ => ∃ cs R, Paired (Cv ⟨P, w, K, H⟩ [] H) cs vs ∧ (∀ c ∈ cs, ImC c) ∧ spec cs R ∧ ∀ c v H', Same H H' → ImC c → Cv ⟨P, w, K, H⟩ [] H' c v → R c → Q v H'
theorem spX_len {P : Program} {w : World} {K : PySem.W.Frag} {spec : Spec} {n : Nat} (h : ∀ cs R, spec cs R → cs.length = n) : ∀ vs H Q E, spX P w K spec vs H Q E → vs.length = n := fun vs H Q E ⟨cs, R, p, _, s, _⟩ => by
  rw [← Paired.length p]; exact h cs R s
theorem paired_imp {α β : Type} {F G : α → β → Prop} : ∀ {l : List α} {m : List β}, (∀ a ∈ l, ∀ b, F a b → G a b) → Paired F l m → Paired G l m
  | _, _, _, .nil => .nil
  | _, _, h, .cons x t => .cons (h _ List.mem_cons_self _ x) (paired_imp (fun a ha => h a (List.mem_cons_of_mem _ ha)) t)
theorem ex_call {C : Kx} {γ : List (Option Cl)} {os : List OV} {R : Cl → List OV → Prop} {spec : Spec} {E : XK} {t : TA} (h : AX C t γ os fun cs os1 => (∀ c ∈ cs, ImC c) ∧ spec cs fun c => R c os1) : EX C (tCall (spX C.P C.w C.K spec) [] E t) γ os R := fun as H σ Q r s k =>
  h as H σ _ r s fun cs os1 as1 H1 vs r1 l1 hv ⟨hi, hs⟩ => by
    rw [List.append_nil]
    refine ⟨cs, fun c => R c os1, paired_imp (F := Cv C as1 H1) (G := Cv ⟨C.P, C.w, C.K, H1⟩ [] H1) (fun c hc v hv => im_at (C := C) (C' := ⟨C.P, C.w, C.K, H1⟩) rfl rfl rfl (hi c hc) hv) hv, hi, hs, fun c v H' sm ic hc hr => ?_⟩
    exact k c os1 as1 H' v (r1.grow sm) (l1.trans (Le.same sm)) (im_at (C := ⟨C.P, C.w, C.K, H1⟩) (C' := C) rfl rfl rfl ic hc) hr
theorem sl_start {C : Kx} {as : List (List Addr)} {H : Hp} {N : List Str} {cs : List Cl} {vs : List V} (h : Paired (Cv C as H) cs vs) : Sl C as H (L2.start N vs) (cs.map some ++ List.replicate (N.length - cs.length) none) := by
  have hl := Paired.length h
  unfold L2.start
  refine ⟨by rw [List.length_append, List.length_append, List.length_map, List.length_map, List.length_replicate, List.length_replicate, hl], fun j c e => ?_⟩
  by_cases hj : j < cs.length
  · rw [List.getElem?_append_left (by rw [List.length_map]; exact hj), List.getElem?_map] at e
    obtain ⟨d, e1, e2⟩ := Option.map_eq_some_iff.mp e
    cases e2
    obtain ⟨w, h1, h2⟩ := L2.paired_get h e1
    exact ⟨w, by rw [List.getElem?_append_left (by rw [List.length_map, ← hl]; exact hj), List.getElem?_map, h1]; rfl, h2⟩
  · rw [List.getElem?_append_right (by rw [List.length_map]; omega), List.getElem?_replicate] at e
    split at e <;> cases e
/-- a def's body -/
theorem enter {P : Program} {w : World} {K : PySem.W.Frag} {spec : Spec} {N : List Str} {vs : List V} {H : Hp} {Q : VK} {E : XK} {t : TS} (h : spX P w K spec vs H Q E)
    (b : ∀ cs R, spec cs R → SX ⟨P, w, K, H⟩ t (cs.map some ++ List.replicate (N.length - cs.length) none) [] { nx := fun _ _ => R (.dat .none), rt := fun c _ => ImC c ∧ R c }) : t { nx := fun _ H' => Q .non H', rt := Q } (L2.start N vs) H := by
  obtain ⟨cs, R, hp, hi, hs, q⟩ := h
  have r0 : Rl ⟨P, w, K, H⟩ [] [] H := ⟨Same.refl _, rfl, fun k l o e => by simp at e, fun i j l m _ e => by simp at e⟩
  exact b cs R hs [] H _ _ r0 (sl_start hp) (fun γ' os' as' H' σ' r' _ _ h' => q (.dat .none) .non H' r'.same trivial cv_non h')
    (fun c os' as' H' v r' _ hc ⟨h1, h2⟩ => q c v H' r'.same h1 (im_at rfl rfl rfl h1 hc) h2) (fun _ _ _ _ _ _ _ _ h => h.elim) fun _ _ _ _ _ _ _ _ h => h.elim
end Pk
/-! Pk, part P: a dict comprehension that is stored; defs that change the law's record. -/
namespace Pk
open PySem PySem.Spec PyProof.Rows L2

section
variable {X : Cx}
theorem sw_trueD {kx vx : Expr} {gs : List Comprehension} {scope : Scope} {pos py : Pos} {y : Str} {l : Nat} {env : Env} (hk : env.scope.kind = .function) (hy : env.scope.names.lookup y = some .local) (hl : (py.line == pos.line) = true)
    (ha : (scope.names.any fun (n, k) => n == y && (k == .local || k == .cell)) = false) : swapsWith (.DictComp kx vx gs scope pos) (some (.Name y py)) l env = pure true := by
  have ky : env.kindOf y = some .local := hy
  have hb : env.blockKind = .function := by unfold Env.blockKind; rw [hk]; rfl
  unfold swapsWith
  simp only [hb, ky, ha, Expr.pos, hl]
  rfl
theorem ps_setDc {i : Nat} {y : Str} {py : Pos} {kx vx tg iter : Expr} {scope : Scope} {own : List (Str × Nat)} {pos spos : Pos} {wi : TI} {g : TG} {tk tv : TE} (hu : X.A.units + 16 < cLine) (hc : X.calm = true) (hN : X.N.Nodup) (hy : X.N[i]? = some y) (hyl : X.env.scope.names.lookup y = some .local)
    (hsw : swapsWith (.DictComp kx vx [⟨tg, iter, [], 0⟩] scope pos) (some (.Name y py)) spos.line X.env = pure true) (hi : PI X tg iter wi) (ok : BlkOk X.N X.env.scope scope own)
    (hg : ∀ (s : Shared) (H : Hp) (C : Addr) (cl : List (Str × Addr)) (fp : List Addr), PG (X.blk s H scope (compEnvC scope cl C X.env) fp) tg g)
    (hk : ∀ (s : Shared) (H : Hp) (C : Addr) (cl : List (Str × Addr)) (fp : List Addr), PE (X.blk s H scope (compEnvC scope cl C X.env) fp) kx tk)
    (he : ∀ (s : Shared) (H : Hp) (C : Addr) (cl : List (Str × Addr)) (fp : List Addr), PE (X.blk s H scope (compEnvC scope cl C X.env) fp) vx tv) (hs : ∀ x, foldedSetIterable iter X.env x = pure x := by intro _; rfl) :
    PS X (.Assign [.Name y py] (.DictComp kx vx [⟨tg, iter, [], 0⟩] scope pos) spos) (tAsg (tDcN X.prog X.w wi g tk tv (own.map (·.2))) (gName i)) := by
  refine ⟨fun pins s σ H D I h => ?_⟩
  rw [exec_Assign_Name_used _ _ _ _ hsw]
  refine wpAny_bind (wpAny_standAt (wpAny_bind ?_))
  show wpAny _ X.A (do let _ ← comprehension (.DictComp kx vx [⟨tg, iter, [], 0⟩] scope pos) scope X.env (firstIterPos [⟨tg, iter, [], 0⟩] pos) newDict false (eval iter X.env) (some (assign (.Name y py) X.env))) _ _ s
  have h : tDcN X.prog X.w wi g tk tv (own.map (·.2)) σ H (fun x H1 => gName i x σ H1 D.nx) := h
  refine wpAny_bind (thn (dcN_core (Qf := fun _ s' => SP X pins D .next s') hu hc hN I hi ok hg hk he hs h fun L C s' m H' I' q hn f => ?_) fun _ s' hq => wpAny_pure (wpAny_pure hq))
  show wpAny _ _ (assign (.Name y py) X.env (.ref L)) _ _ _
  refine wpAny_assign_Name (store_ok2 (v := V.ref L) I' hN hy (.inl hyl) rfl (fun s2 I2 ⟨a, sb, ha⟩ => ?_) (.inr hyl))
  obtain ⟨f0, f1, f2, f3, f4, f5⟩ := f
  have haC : C ≠ a := by
    rcases ha with z | z
    · rw [z]; exact f1
    · exact fun e => f4 y a z e.symm
  refine ⟨m, hn.sameBut sb haC, fun h3 sb3 => ?_⟩
  exact ⟨_, H', I2.turned (t' := s2.toks) (fun b o hb e => (sb3.2 b hb).trans e) f0 f1 f3 f4 f5, q⟩
end
def imB : List Cl → Bool
  | [] => true
  | .own _ :: _ => false
  | .bl _ :: _ => false
  | _ :: r => imB r
theorem imB_of : ∀ {cs : List Cl}, imB cs = true → ∀ c ∈ cs, ImC c
  | [], _, _, h => nomatch h
  | c :: cs, e, d, h => by
    have key : imB (c :: cs) = true → ImC c ∧ imB cs = true := by
      cases c with
      | own k => intro e; cases e
      | bl k => intro e; cases e
      | _ => intro e; exact ⟨trivial, e⟩
    obtain ⟨h1, h2⟩ := key e
    rcases List.mem_cons.mp h with rfl | h
    · exact h1
    · exact imB_of h2 d h
theorem ex_callB {C : Kx} {γ : List (Option Cl)} {os : List OV} {R : Cl → List OV → Prop} {spec : Spec} {E : XK} {t : TA} (h : AX C t γ os fun cs os1 => imB cs = true ∧ spec cs fun c => R c os1) : EX C (tCall (spX C.P C.w C.K spec) [] E t) γ os R :=
  ex_call fun as H σ Q r s k => h as H σ Q r s fun cs os' as' H' vs r' l' hv ⟨e, q⟩ => k cs os' as' H' vs r' l' hv ⟨imB_of e, q⟩
/-! ### the law's record -/
theorem LawM.dis {H : Hp} {l : List Addr} {n : Nat} (h : LawM H l n) : ∃ p c f, l = [p, c, f] ∧ (∀ x ∈ l, ∃ o, H x = some o ∧ ¬ Imm o) := by
  obtain ⟨p, c, f, cs, fs, k, rfl, _, _, _, h1, h2, h3, _⟩ := h
  refine ⟨p, c, f, rfl, fun x hx => ?_⟩
  simp only [List.mem_cons, List.not_mem_nil, or_false] at hx
  rcases hx with rfl | rfl | rfl
  · exact ⟨_, h1, by simp [Imm]⟩
  · exact ⟨_, h2, by simp [Imm]⟩
  · exact ⟨_, h3, by simp [Imm]⟩
theorem LawM.mono {H : Hp} {l : List Addr} {n m : Nat} (h : LawM H l n) (e : n ≤ m) : LawM H l m := by
  obtain ⟨p, c, f, cs, fs, k, h1, d1, d2, d3, h2, h3, h4, h5, h6, h7⟩ := h
  exact ⟨p, c, f, cs, fs, k, h1, d1, d2, d3, h2, h3, h4, h5, by omega, h7⟩
abbrev SpecM := Nat → List Cl → (Cl → Nat → Prop) → Prop
/-- the promise of a def whose first argument is the record (calls so far at most n) -/
def spM (P : Program) (w : World) (K : PySem.W.Frag) (spec : SpecM) : Sp := fun vs H Q _ => ∃ p l n us cs R, vs = .ref p :: us ∧ LawM H (p :: l) n ∧ Paired (Cv ⟨P, w, K, H⟩ [] H) cs us ∧ (∀ c ∈ cs, ImC c) ∧ spec n cs R ∧
  ∀ c v H' l' n', (∀ x o, x ∉ p :: l → H x = some o → H' x = some o) → LawM H' (p :: l') n' → (∀ x ∈ l', x ∈ l ∨ H x = none) → ImC c → Cv ⟨P, w, K, H⟩ [] H' c v → R c n' → Q v H'
theorem spM_len {P : Program} {w : World} {K : PySem.W.Frag} {spec : SpecM} {n : Nat} (h : ∀ k cs R, spec k cs R → cs.length + 1 = n) : ∀ vs H Q E, spM P w K spec vs H Q E → vs.length = n := fun vs H Q E ⟨p, l, m, us, cs, R, e, _, hp, _, s, _⟩ => by
  rw [e, List.length_cons, ← Paired.length hp]; exact h m cs R s
theorem ex_callM {C : Kx} {γ : List (Option Cl)} {os : List OV} {R : Cl → List OV → Prop} {spec : SpecM} {E : XK} {t : TA} (h : AX C t γ os fun cs os1 => ∃ k p n cs', cs = .own k :: cs' ∧ os1[k]? = some (.mm p n) ∧ imB cs' = true ∧ spec n cs' fun c n' => R c (os1.set k (.mm p n'))) :
    EX C (tCall (spM C.P C.w C.K spec) [] E t) γ os R := fun as H σ Q r s kk =>
  h as H σ _ r s fun cs os1 as1 H1 vs r1 l1 hv ⟨k, p0, n, cs', e, eo, hi, hs⟩ => by
    subst e
    rw [List.append_nil]
    cases hv with
    | @cons _ v _ us h1 h2 =>
      obtain ⟨p, l, g1, rfl⟩ := h1
      obtain ⟨g2, ⟨l0, e0⟩, g3⟩ := r1.at_ _ _ _ g1 eo
      cases e0
      refine ⟨p0, l, n, us, cs', fun c n' => R c (os1.set k (.mm p0 n')), rfl, g3, paired_imp (F := Cv C as1 H1) (G := Cv ⟨C.P, C.w, C.K, H1⟩ [] H1) (fun c hc v hv => im_at (C := C) (C' := ⟨C.P, C.w, C.K, H1⟩) rfl rfl rfl (imB_of hi c hc) hv) h2, imB_of hi, hs, fun c v H' l' n' hx hm hl ic hc hr => ?_⟩
      have he : ExI H1 H' := fun x o hx1 io => by
        refine hx x o (fun z => ?_) hx1
        obtain ⟨_, _, _, _, all⟩ := LawM.dis (show LawM H1 (p0 :: l) n from g3)
        obtain ⟨o2, e2, ni⟩ := all x z
        rw [hx1] at e2; cases e2
        exact ni io
      have r2 := r1.put g1 g2 hx he (fun x hx => by
        rcases List.mem_cons.mp hx with rfl | hx
        · exact .inl List.mem_cons_self
        · exact (hl x hx).imp (List.mem_cons_of_mem _) id) (o' := .mm p0 n') ⟨⟨l', rfl⟩, hm⟩
      refine kk c _ _ H' v r2 (l1.trans ⟨he, fun j a m hj => ?_⟩) (im_at (C := ⟨C.P, C.w, C.K, H1⟩) (C' := C) rfl rfl rfl ic hc) hr
      by_cases z : k = j
      · subst z
        rw [g1] at hj
        cases hj
        exact ⟨l', List.getElem?_set_self (List.getElem?_eq_some_iff.mp g1).1⟩
      · exact ⟨m, by rw [List.getElem?_set_ne z]; exact hj⟩
/-- the heap without the record -/
def noM (H : Hp) (l : List Addr) : Hp := fun x => if x ∈ l then none else H x
theorem enterM {P : Program} {w : World} {K : PySem.W.Frag} {spec : SpecM} {N : List Str} {vs : List V} {H : Hp} {Q : VK} {E : XK} {t : TS} (h : spM P w K spec vs H Q E)
    (b : ∀ p l n cs R, spec n cs R → SX ⟨P, w, K, noM H l⟩ t (some (.own 0) :: cs.map some ++ List.replicate (N.length - (cs.length + 1)) none) [.mm p n] { nx := fun _ os => ∃ n', os[0]? = some (.mm p n') ∧ R (.dat .none) n', rt := fun c os => ImC c ∧ ∃ n', os[0]? = some (.mm p n') ∧ R c n' }) :
    t { nx := fun _ H' => Q .non H', rt := Q } (L2.start N vs) H := by
  obtain ⟨p, l, n, us, cs, R, rfl, hm, hp, hi, hs, q⟩ := h
  have b := b p (p :: l) n cs R hs
  generalize hC : (⟨P, w, K, noM H (p :: l)⟩ : Kx) = C at *
  have eP : C.P = P := by rw [← hC]
  have ew : C.w = w := by rw [← hC]
  have eK : C.K = K := by rw [← hC]
  have e0 : C.H0 = noM H (p :: l) := by rw [← hC]
  have same : Same C.H0 H := fun x o e => by
    rw [e0] at e
    unfold noM at e
    split at e
    · cases e
    · exact e
  have r0 : Rl C [p :: l] [.mm p n] H := by
    refine ⟨same, rfl, fun k m o e1 e2 => ?_, fun i j m m' ne e1 e2 => ?_⟩
    · cases k with
      | zero =>
        cases e1; cases e2
        exact ⟨fun a ha => by rw [e0]; unfold noM; rw [if_pos ha], ⟨l, rfl⟩, hm⟩
      | succ k => simp at e1
    · cases i with
      | zero =>
        cases j with
        | zero => exact absurd rfl ne
        | succ j => simp at e2
      | succ i => simp at e1
  have hp' : Paired (Cv C [p :: l] H) (.own 0 :: cs) (.ref p :: us) := .cons ⟨p, l, rfl, rfl⟩ (paired_imp (F := Cv ⟨P, w, K, H⟩ [] H) (fun c hc v hv => im_at (C := ⟨P, w, K, H⟩) (C' := C) eP.symm ew.symm eK.symm (hi c hc) hv) hp)
  have fin : ∀ c os' as' H' v, Rl C as' os' H' → ImC c → Cv C as' H' c v → (∃ n', os'[0]? = some (.mm p n') ∧ R c n') → Q v H' := fun c os' as' H' v r' ic hc ⟨n', e1, hr⟩ => by
    obtain ⟨L, g1, g3, ⟨l', e2⟩, g4⟩ := r'.ob e1
    subst e2
    refine q c v H' l' n' (fun x o hx e => r'.same x o (by rw [e0]; unfold noM; rw [if_neg hx]; exact e)) g4 (fun x hx => ?_) ic (im_at (C := C) (C' := ⟨P, w, K, H⟩) eP ew eK ic hc) hr
    have z := g3 x (List.mem_cons_of_mem _ hx)
    rw [e0] at z
    unfold noM at z
    split at z
    · rename_i hz
      rcases List.mem_cons.mp hz with e3 | hz
      · exfalso
        obtain ⟨_, c1, f1, _, _, _, el, d1, d2, _⟩ := g4
        cases el
        simp only [List.mem_cons, List.not_mem_nil, or_false] at hx
        rcases hx with h | h
        · exact d1 (e3.symm.trans h)
        · exact d2 (e3.symm.trans h)
      · exact .inl hz
    · exact .inr z
  have st := sl_start (N := N) hp'
  exact b [p :: l] H _ _ r0 st (fun γ' os' as' H' σ' r' _ _ h' => fin (.dat .none) os' as' H' .non r' trivial cv_non h') (fun c os' as' H' v r' _ hc ⟨h1, h2⟩ => fin c os' as' H' v r' h1 hc h2) (fun _ _ _ _ _ _ _ _ h => h.elim) fun _ _ _ _ _ _ _ _ h => h.elim
end Pk
/-! E, part 1: the error BadPaper(part): made, raised, read. -/
namespace PySem
namespace PartX
open PySem.W PySem.Calls PyProof.Rows PySem.HandSPX
def pA : Arguments := { posonlyargs := [], args := [{ arg := "self", annotation := none, pos := ⟨9, 17, 9, 21⟩ }, { arg := "part", annotation := none, pos := ⟨9, 23, 9, 27⟩ }], vararg := none, kwonlyargs := [], kw_defaults := [], kwarg := none, defaults := [] }
def pB : List Stmt := [.Expr (.Call (.Attribute (.Call (.Name "super" ⟨10, 8, 10, 13⟩) [] [] ⟨10, 8, 10, 15⟩) "__init__" ⟨10, 8, 10, 24⟩) [.Constant (.str "no paper that holds") 0 ⟨10, 25, 10, 46⟩] [] ⟨10, 8, 10, 47⟩) ⟨10, 8, 10, 47⟩,
  .Assign [.Attribute (.Name "self" ⟨11, 8, 11, 12⟩) "part" ⟨11, 8, 11, 17⟩] (.Name "part" ⟨11, 20, 11, 24⟩) ⟨11, 8, 11, 24⟩]
def pS : Scope := { kind := .function, names := [(PySem.Str.ofString "self", .local), (PySem.Str.ofString "part", .local), (PySem.Str.ofString "__class__", .free), (PySem.Str.ofString "super", .globalImplicit)], isGenerator := false, isCoroutine := false, more := [] }
/-- what the written part says of BadPaper, at C, and of its __init__, at fI -/
structure PartTxt (P : Program) (K : Frag) (mg : Str → Option Value) (C fI : Addr) : Prop where
  gC : mg "BadPaper" = some (.ref C)
  gS : mg "super" = none
  top : (P.main.scope.names.lookup ("super" : Str)).isSome = false
  cls : ∃ nm q N bs sn sub ab col dd k0 k1 k2 k3 k5, K.lookup C = some (excClassObj nm q C N bs veTail true sn sub ab col dd k0 k1 k2 k3 k5 "ValueError.__new__")
  sa : findIn K (.ref C) "__setattr__" = some (some (.builtin "object.__setattr__"))
  ga : findIn K (.ref C) "__getattribute__" = some (some (.builtin "BaseException.__getattribute__"))
  gg : findIn K (.ref C) "__getattr__" = some none
  noN : findIn K (.ref C) "part" = some none
  iC : findIn K (.ref C) "__init__" = some (some (.ref fI))
  tC : typeIn K (.ref fI) = some (.type "function")
  kC : keepIn K (.ref C) = true
  exC : subIn K (.ref C) (.type "BaseException") = some true
  vS : subIn K (.ref C) (.type "ValueError") = some true
  tyC : typeIn K (.ref C) = some (.type "type")
  hdC : hasDictIn K C = true
  te : exmOne K (.ref C) (.ref C) = some true
  so : nsIn K cStatics "thirdparty.any" = some none
  sI : ks_superIn K C C "__init__" = some (some (.builtin "ValueError.__init__"))
  sC : mroIn K C (.ref C) = some true
  fn : ∃ (oc : Value) (od : Option Addr) (doc pm : Value) (an : Option Addr) (cda cc : Addr) (ct : Value) (osl : Array (Option Value)) (ccl : Value) (cdd : Option Addr) (vs : Array Value) (ccs : Array (Option Value)) (file : Str) (tf : Tok) (cl : Value) (cld : Option Addr) (csl : Array (Option Value)),
    K.lookup fI = some ⟨oc, od, .func (ksFn "__init__" "BadPaper.__init__" pA pB pS .none .none doc pm an (.ref cda) ct cc), osl⟩ ∧ codeIn K (.ref cda) "BadPaper.__init__" = true ∧
    K.lookup cda = some ⟨ccl, cdd, .fields vs, ccs⟩ ∧ vs[2]? = some (.str file tf) ∧ ((P.main.file : Str) == file) = true ∧ K.lookup cc = some ⟨cl, cld, .cell (some (.ref C)), csl⟩
theorem one_size (v : Value) : [v].length ≤ sizeLine := by
  rw [sizeLine_eq]
  exact (by decide : 1 ≤ 16777216)
/-- what __init__ leaves of a fresh exception at x -/
structure InitEnd (h h' : Heap) (x C dx t1 : Addr) (v : Value) : Prop where
  keep : ∀ b o, b ≠ x → h.get? b = some o → h'.get? b = some o
  obj : h'.get? x = some { cls := .ref C, dict := some dx, data := .fields #[.ref t1, .none, .none, .none, .bool false, .none] }
  dbig : h.objs.size ≤ dx
  dne : dx ≠ x
  ns : h'.Ns1 dx (fun y => if y = "part" then some v else none)
/-- a made BadPaper -/
structure OwnMade (h h' : Heap) (e C d : Addr) (v : Value) : Prop where
  keep : ∀ b o, h.get? b = some o → h'.get? b = some o
  new : h.objs.size ≤ e
  obj : ∃ oe vs, h'.get? e = some oe ∧ oe.cls = .ref C ∧ oe.dict = some d ∧ oe.data = .fields vs ∧ vs[1]? = some .none
  dbig : h.objs.size ≤ d
  dne : d ≠ e
  ns : h'.Ns1 d (fun y => if y = "part" then some v else none)
section
variable {prog : Program} {w : World} {A : Around} {E : Value → Shared → Prop} {R : Result → Shared → Prop} {s : Shared} {K : Frag} {mg : Str → Option Value} {C fI : Addr}
/-- the bound ValueError.__init__, called -/
theorem init_call {nm q : Str} {N u x t0 : Addr} {bs bm : List Value} {hdct : Bool} {sn : List Str} {sub : List Value} {ab : Bool} {col : Option Bool} {dd : Option Addr} {k0 k1 k2 k3 k5 : Option Value} {h : Heap} {g : Array GenState} {d : Drawn} {t : Nat} {os : OsState} {rest : List Value} {Q : Value → Shared → Prop}
    (hC : h.get? C = some (excClassObj nm q C N bs bm hdct sn sub ab col dd k0 k1 k2 k3 k5 "ValueError.__new__")) (hx : h.get? x = some (excO C t0)) (hu : h.get? u = some (kxs_mw "ValueError.__init__" x)) (hz : rest.length ≤ sizeLine)
    (hq : ∀ h' t1, (∀ b o, b ≠ x → h.get? b = some o → h'.get? b = some o) → h'.get? x = some (excO C t1) → Q .none ⟨h', g, d, t, os⟩) :
    wpAny (model prog w) A (call (.ref u) rest) Q E ⟨h, g, d, t, os⟩ := by
  have FB := F.excBase_ValueError
  refine wpAny_call (codeAny_of_tree ?_)
  show wpAny _ A.in1 (callAny (.ref u) ⟨rest, []⟩) _ _ _
  simp only [callAny]
  refine wpAny_bind (wpAny_load hu ?_)
  simp only [kxs_mw, show (Value.type "method-wrapper" == Value.type "method" || Value.type "method-wrapper" == Value.type "builtin_function_or_method" || Value.type "method-wrapper" == Value.type "method-wrapper") = true by decide, if_true]
  refine KFB.if_so (by decide) ?_
  refine wpAny_bind (check_bound_init FB.toExcCallFacts hC hx rfl ?_)
  refine wpAny_bind (wpAny_pure (wpAny_pure ?_))
  refine ⟨plainId_quiet FB.init.plain _, codeAny_builtin FB.initEntry ?_⟩
  exact exc_init_tree (cls := .ref C) (t0 := t0) (dv := none) (c2 := .none) (c3 := .none) (b4 := .bool false) hx hz fun h' k e' _ => hq h' _ k e'
theorem part_init (T : PartTxt prog K mg C fI) {x t0 : Addr} {v : Value} {mb : Str → Option Value} (X : K.In s.heap) (hlim : s.heap.NoLimit) (hg : s.heap.Ns mainGlobals mg) (hb : s.heap.Ns builtinsNs mb) (hbv : mb "super" = some (.type "super"))
    (hx : s.heap.get? x = some (excO C t0)) (hnx : K.lookup x = none) (hroom : A.depth < recursionLimit)
    (hq : ∀ h' tk dx t1, InitEnd s.heap h' x C dx t1 v → R (.ok (.ret .none)) { s with heap := h', toks := tk }) :
    codeAny (model prog w) A (.call (.ref fI) ⟨[.ref x, v], []⟩) R s := by
  obtain ⟨oc, od, doc, pm, an, cda, cc, ct, osl, ccl, cdd, vs, ccs, file, tf, cl, cld, csl, ho, hcd, hcode, hvs, hfile, hcell⟩ := T.fn
  obtain ⟨nm, q, N, bs, sn, sub, ab, col, dd, k0, k1, k2, k3, k5, hC⟩ := T.cls
  have hcl : clsIn K C = some { name := nm, bases := bs, mro := .ref C :: veTail, ns := N, qualname := q, hasDict := true, slotNames := sn, subclasses := sub, abstract := ab, collection := col, hasDel := false } := by unfold clsIn; rw [hC] <;> rfl
  have hxC : x ≠ C := fun z => by rw [z, hC] at hnx; cases hnx
  refine ks_codeAny_call_defAt (fd := ksFn "__init__" "BadPaper.__init__" pA pB pS .none .none doc pm an (.ref cda) ct cc) (body := pB) (binds := [("self", .ref x), ("part", v)]) hroom (X _ _ ho) rfl hlim (codeRec_of X hcd) rfl (BindsTo.of_eq (by first | rfl | with_unfolding_all rfl)) (show ∀ y ∈ pS.names, y.2 ≠ .cell by decide) (fun y hy => ?bl) (fun h₁ hn k => ?_) rfl rfl rfl
  case bl =>
    rcases List.mem_cons.mp hy with rfl | hy
    · rfl
    · rw [List.mem_singleton.mp hy]; rfl
  have X₁ : K.In h₁ := X.keeps k
  have hx₁ := k _ _ hx
  obtain ⟨hp, g, dr, tk0, os⟩ := s
  dsimp only at *
  -- super().__init__('no paper that holds')
  refine ks_wpAt_execs_cons (ks_wpAt_Expr_any (ks_wpAt_MethodCall ?_))
  refine ks_wpAt_super_base (f := fI) (cc := cda) (file := file) (tf := tf) rfl rfl rfl rfl (X₁ _ _ ho) rfl rfl rfl (X₁ _ _ hcode) rfl hvs hfile T.top ?_
  refine ks_loadName_global rfl rfl (loadGlobal_builtin (mg := mg) (mb := mb) (hg.keeps k) T.gS (hb.keeps k) hbv ⟨rfl, ?_⟩)
  refine wpAny_loadName_free rfl rfl rfl ⟨_, X₁ _ _ hcell, rfl⟩ ?_
  refine wpAny_loadName_local (v := .ref x) rfl rfl hn (by first | rfl | with_unfolding_all rfl | kernel_rfl) ?_
  refine ks_wpAny_isType_cls (X₁ _ _ hC) rfl ⟨rfl, ?_⟩
  refine ks_wpAny_call_super (C := C) (X₁ _ _ hC) rfl hx₁ rfl (fun c z => by cases z) (looks_mroIn X₁ T.sC) (fun h2 e2 k2 => ?_)
  have X2 : K.In h2 := X₁.keeps k2
  have hx2 := k2 _ _ hx₁
  have hI2 : Looks (model prog w) h2 (isInstance (.ref x) (.type "ValueError")) true := (InstAt.type (od := none) ⟨hx2, rfl, rfl, trivial⟩).andThen (looks_subIn X2 T.vS)
  have hm : alongIn K "__init__" (((Value.ref C :: veTail).dropWhile (· != .ref C)).drop 1) = some (some (.builtin "ValueError.__init__")) := by
    have z := T.sI
    unfold ks_superIn at z
    rw [hcl] at z
    exact z
  refine kxs_getMethod kxs_ValueError e2 (looks_opaque X2 T.so) (l₀ := .ref C :: veTail) (fun A Q E s k q => wpAny_bind ((looks_clsIn X2 hcl) A _ E s k (wpAny_pure q))) rfl X2 hm hI2 hxC (by decide) ?_
  have k3 : ∀ b o, h2.get? b = some o → (h2.push (kxs_mw "ValueError.__init__" x)).get? b = some o := fun b o e => Heap.get?_push_of_some _ e
  have hu : (h2.push (kxs_mw "ValueError.__init__" x)).get? h2.objs.size = some (kxs_mw "ValueError.__init__" x) := Heap.get?_push_at rfl rfl
  refine kxs_callWith (i := "ValueError.__init__") (x := x) (by rfl) ?_
  refine evalArgs_plain (spliced_cons (wpAny_Constant_str (x := "no paper that holds") (k := 0) (pos := ⟨10, 25, 10, 46⟩) (spliced_nil ⟨hu, ?_⟩)))
  refine init_call (k3 _ _ (X2 _ _ hC)) (k3 _ _ hx2) hu (one_size _) fun h4 t1 k4 hx4 => ?_
  have k04 : ∀ b o, b ≠ x → h₁.get? b = some o → h4.get? b = some o := fun b o hb e => k4 b o hb (k3 _ _ (k2 _ _ e))
  have X4 : K.In h4 := fun b o e => k04 b o (fun z => by rw [z, hnx] at e; cases e) (X₁ _ _ e)
  obtain ⟨oL, es, ep, hoL, rL⟩ := hn
  have hLx : hp.objs.size ≠ x := Nat.ne_of_gt (Heap.lt_size hx)
  have hn4 : h4.Ns hp.objs.size (fun y => List.lookup y ([("self", Value.ref x), ("part", v)] : List (Str × Value)).reverse) := ⟨oL, es, ep, k04 _ _ hLx hoL, rL⟩
  -- self.part = part
  refine ks_wpAt_execs_cons (ks_wpAt_Assign_Attr (wpAt_of_wpAny ?_))
  refine wpAny_Name (wpAny_loadName_local (v := v) rfl rfl hn4 (by first | rfl | with_unfolding_all rfl | kernel_rfl) ?_)
  refine wpAny_Name (wpAny_loadName_local (v := .ref x) rfl rfl hn4 (by first | rfl | with_unfolding_all rfl | kernel_rfl) ?_)
  refine set_plain X4 (ox := excO C t1) (od := none) ⟨hx4, rfl, rfl, trivial⟩ T.sa ?_
  refine exc_osa X4 hx4 hcl (show refsVE (.ref C :: veTail) = true by rfl) rfl T.noN (fun h5 tk5 dx k5 dn dne hx5 hn5 => ?_)
  refine wpAt_of_wpAny (wpAny_execs_nil (hq h5 tk5 dx t1 ⟨fun b o hb e => k5 b o hb (k04 b o hb (k b o e)), hx5, ?_, dne, hn5⟩))
  have z1 : hp.objs.size < h4.objs.size := Heap.lt_size (k04 _ _ hLx hoL)
  show hp.objs.size ≤ dx
  exact Nat.le_of_lt (Nat.lt_of_lt_of_le z1 dn)
end
end PartX
end PySem
namespace PySem
namespace PartX
open PySem.W PySem.Calls PyProof.Rows PySem.HandSPX
section
variable {prog : Program} {w : World} {A : Around} {E : Value → Shared → Prop} {R : Result → Shared → Prop} {s : Shared} {K : Frag} {mg : Str → Option Value} {C fI : Addr}
theorem part_made (T : PartTxt prog K mg C fI) {v : Value} {mb : Str → Option Value} (X : K.In s.heap) (hlim : s.heap.NoLimit) (hg : s.heap.Ns mainGlobals mg) (hb : s.heap.Ns builtinsNs mb) (hbv : mb "super" = some (.type "super")) (hroom : A.depth + 1 < recursionLimit)
    (hq : ∀ h' tk e d, OwnMade s.heap h' e C d v → R (.ok (.ret (.ref e))) { s with heap := h', toks := tk }) :
    codeAny (model prog w) A (.call (.ref C) ⟨[v], []⟩) R s := by
  obtain ⟨nm, q, N, bs, sn, sub, ab, col, dd, k0, k1, k2, k3, k5, hC⟩ := T.cls
  obtain ⟨hp, g, dr, tk, os⟩ := s
  have k : ∀ b o, hp.get? b = some o → ((hp.push (kdv_tup [v])).push (excO C hp.objs.size)).get? b = some o := fun b o e => Heap.get?_push_of_some _ (Heap.get?_push_of_some _ e)
  have hget : ((hp.push (kdv_tup [v])).push (excO C hp.objs.size)).get? (hp.objs.size + 1) = some (excO C hp.objs.size) := by heap_get
  have hnx : K.lookup (hp.objs.size + 1) = none := by
    cases e : K.lookup (hp.objs.size + 1) with
    | none => rfl
    | some o =>
      have z : hp.get? (hp.objs.size + 1) = some o := X _ _ e
      exact absurd (Nat.lt_of_succ_lt (Heap.lt_size z)) (Nat.lt_irrefl _)
  refine call_own F.excBase_ValueError (fun _ => rfl) (X _ _ hC) (looks_findIn X T.iC) (fun self => bind_fn X self T.tC) (one_size v) ?_
  refine part_init (s := ⟨(hp.push (kdv_tup [v])).push (excO C hp.objs.size), g, dr, tk, os⟩) T (X.keeps k) (hlim.keeps k) (hg.keeps k) (hb.keeps k) hbv hget hnx ?_ fun h' tk' dx t1 ⟨k', hx, dn, dne, hns⟩ => ?_
  · show A.depth + 1 < recursionLimit
    exact hroom
  · have old : ∀ b o, hp.get? b = some o → h'.get? b = some o := fun b o e => k' b o (Nat.ne_of_lt (Nat.lt_succ_of_lt (Heap.lt_size e))) (k b o e)
    have z : hp.objs.size + 1 + 1 ≤ dx := by
      first
        | (simpa only [Heap.size_push] using dn)
        | exact dn
        | (have q := dn; rw [Heap.size_push, Heap.size_push] at q; exact q)
    exact ⟨rfl, hq h' tk' (hp.objs.size + 1) dx ⟨old, Nat.le_succ _, ⟨_, _, hx, rfl, rfl, rfl, rfl⟩, Nat.le_trans (Nat.le_trans (Nat.le_succ _) (Nat.le_succ _)) z, dne, hns⟩⟩
end
end PartX
end PySem
namespace Pk
open PySem PySem.Spec PyProof.Rows L2
theorem relO_part {v : V} {v' : Value} (r : RelV v v') (f : Str) : RelO (List.lookup f [(("part" : Str), v)]) (if f = "part" then some v' else none) := by
  by_cases hw : f = "part"
  · subst hw
    rw [if_pos rfl]
    have q : List.lookup ("part" : Str) [(("part" : Str), v)] = some v := by simp [List.lookup]
    rw [q]
    exact r
  · rw [if_neg hw]
    have qw : (f == ("part" : Str)) = false := by simpa using hw
    have q2 : List.lookup f [(("part" : Str), v)] = none := by simp [List.lookup, qw]
    rw [q2]
    trivial
section
variable {X : Cx} {C fI : Addr}
/-- BadPaper(e) -/
def tMkPart (C : Addr) (ta : TA) : L2.St → Hp → XK → Prop := fun σ H Q => ta σ H fun vs H1 => ∃ v, vs = [v] ∧ ∀ d, H1 d = none → Q (.ref C) (some d) (upd H1 d (.xd [(("part" : Str), v)]))
theorem pmk_part {a : Expr} {ta : TA} {p pos : Pos} {k : Nat} (T : PySem.PartX.PartTxt X.prog X.K X.mg C fI) (hr : Room k X.A) (ha : PA X [a] ta) (hg : Gl X "BadPaper" := by rfl)
    (he : starEach (a :: []) X.env = (false, eval a X.env) :: starEach [] X.env := by rfl) (hpl : (backTo pos (starEach [] X.env)).any (·.1) = false := by rfl) :
    PMk X (.Call (.Name "BadPaper" p) [a] [] pos) (tMkPart C ta) := by
  intro pins s σ H Q I h
  refine wpAny_Call_Name_kw (ld_glob I hg T.gC ?_)
  refine PySem.W.callWith_K (h₀ := X.base) I.ok.mod.kin T.kC (thn (ha.run pos pins s σ H _ I h) fun us s1 hh => ?_) he hpl
  obtain ⟨vs, H1, I1, r1, v, ev, q1⟩ := hh
  subst ev
  refine ⟨I1.kIn, ?_⟩
  cases r1 with
  | cons rv rn =>
    rename_i v' us'
    cases rn
    show wpAny _ _ (call (.ref C) [v']) _ _ _
    have hlim := I1.nolimit
    obtain ⟨mb, hmb1, hmb2⟩ := I1.mod.blt
    have hG := I1.mod.glob.keeps I1.bk
    have hB := hmb1.keeps I1.bk
    have hS : mb "super" = some (.type "super") := (hmb2 "super" (by decide)).trans (by decide +kernel)
    obtain ⟨hp, g, dr, tk, os⟩ := s1
    refine wpAny_call (PySem.PartX.part_made T I1.kIn hlim hG hB hS (by have := hr.dp; omega) fun h' tk' e d M => ?_)
    show MkP X pins σ Q (.ref e) ⟨h', g, dr, tk', os⟩
    obtain ⟨oe, fv, hoe, hc, hd, hdat, h1⟩ := M.obj
    have hns := M.ns
    obtain ⟨G', g1, g2⟩ := restrict h' fun b => decide (b ≠ e)
    have gk : ∀ b, b ≠ e → G'.get? b = h'.get? b := fun b hb => g1 b (decide_eq_true hb)
    have ge : G'.get? e = none := g2 e (by simp)
    have old : ∀ b o, hp.get? b = some o → G'.get? b = some o := fun b o q => (gk b (Nat.ne_of_lt (Nat.lt_of_lt_of_le (Heap.lt_size q) M.new))).trans (M.keep b o q)
    have ob : ObjOk X.prog X.w (upd H1 d (.xd [(("part" : Str), v)])) G' d (.xd [(("part" : Str), v)]) :=
      ⟨_, hns.at (fun o q => (gk d M.dne).trans q), fun f => relO_part rv f⟩
    have J : Inv X pins σ (upd H1 d (.xd [(("part" : Str), v)])) ⟨G', g, dr, tk', os⟩ := I1.laid (t' := tk') old M.dbig ob
    refine ⟨e, oe, fv, ⟨G', g, dr, tk', os⟩, _, .ref C, some d, rfl, J, fun b o q => ?_, ge, hoe, ⟨hc, hd⟩, hdat, h1, ?_, rfl, I1.bare, raises_own T.exC T.tyC, q1 d (I1.hok.fresh M.dbig)⟩
    · by_cases hb : b = e
      · have q' : G'.get? b = some o := q
        rw [hb, ge] at q'; cases q'
      · exact (gk b hb).symm.trans q
    · rw [upd_ne (Ne.symm M.dne)]
      exact I1.hok.fresh M.new
/-- raise BadPaper(e) -/
def tRaisePart (C : Addr) (W : WX) (ta : TA) : TS := fun _ σ H => tMkPart C ta σ H fun cls d H' => W cls d σ H'
theorem ps_raisePart {a : Expr} {ta : TA} {W : WX} {p pos pos2 : Pos} {k : Nat} (hc : X.calm = true) (T : PySem.PartX.PartTxt X.prog X.K X.mg C fI) (hr : Room k X.A) (tk : Takes X W) (ha : PA X [a] ta) (hg : Gl X "BadPaper" := by rfl)
    (he : starEach (a :: []) X.env = (false, eval a X.env) :: starEach [] X.env := by rfl) (hpl : (backTo pos (starEach [] X.env)).any (·.1) = false := by rfl) :
    PS X (.Raise (some (.Call (.Name "BadPaper" p) [a] [] pos)) none pos2) (tRaisePart C W ta) := ps_raise hc tk (pmk_part T hr ha hg he hpl)
/-- e.part, e the exception that the suite holds (at a; its class cls, its dict d) -/
def tByPart (C : Addr) (a : Addr) (cls : Value) (d : Option Addr) (te : TE) : TE := fun σ H Q => te σ H fun x H1 => x = .ref a ∧ cls = .ref C ∧ ∃ (dd : Addr) (v : V), d = some dd ∧ H1 dd = some (.xd [(("part" : Str), v)]) ∧ Q v H1
theorem pe_byPart {a : Addr} {oe : Obj} {cls : Value} {d : Option Addr} {pn : List (Addr × Obj)} {e : Expr} {te : TE} {pos : Pos} (T : PySem.PartX.PartTxt X.prog X.K X.mg C fI) (hz : Zc cls d oe) (hf : ∃ vs, oe.data = .fields vs) (he : PE (X.suite a ((a, oe) :: pn)) e te)
    (hb : attributeBase e "part" X.env (eval e X.env) = eval e X.env := by rfl) :
    PE (X.suite a ((a, oe) :: pn)) (.Attribute e "part" pos) (tByPart C a cls d te) := by
  refine ⟨fun pins s σ H Q I h => ?_⟩
  refine attr_of hb (thn (he.run pins s σ H _ I h) fun u s1 hh => ?_)
  obtain ⟨x, H1, I1, rx, ex, ec, dd, v, ed, ea, q⟩ := hh
  subst ex
  obtain rfl : u = Value.ref a := rx
  subst ec
  subst ed
  obtain ⟨ha, _⟩ := I1.pin (a, oe) (List.mem_append_left _ List.mem_cons_self)
  obtain ⟨vs, hd⟩ := hf
  have hx : ObjOk X.prog X.w H1 s1.heap dd (.xd [(("part" : Str), v)]) := I1.hok dd _ ea
  obtain ⟨mA, hns, hr⟩ := hx
  obtain ⟨od, ho, hl⟩ := lookIn_ns hns
  have l : List.lookup ("part" : Str) [(("part" : Str), v)] = some v := by simp [List.lookup]
  obtain ⟨u, hu, ru⟩ := RelO.some_of (v := v) (o := mA "part") (by rw [← l]; exact hr "part")
  have J : PySem.W.InstAt s1.heap a oe C (some od) := ⟨ha, hz.1, by unfold PySem.W.notCls; rw [hd] <;> rfl, by rw [hz.2]; exact ho⟩
  exact HandSPX.exc_get I1.kIn J T.ga T.gg T.exC (PySem.W.findObj_own T.hdC T.noN rfl (by rw [hl, hu])) (handed_of ru) ⟨v, H1, I1.tok _, ru, q⟩
end
end Pk
/-! Pk, part Q (printed by gen/top.py): the text, the facts of the top. -/
namespace Pk
open PySem PySem.Spec PyProof.Rows L2 C8
def topS (i : Nat) : Stmt := PySem.Challenge.pw_pumphouse_k07_whole_leads_judged.main.body.getD i (.Pass ⟨0, 0, 0, 0⟩)
abbrev s_is_whole : Stmt := topS 12
abbrev N_is_whole : List Str := ["thing", "least", "most"]
theorem sc_is_whole : FnScope N_is_whole ["thing", "least", "most"] (fnScope s_is_whole) := fnScope_by (by decide +kernel)
abbrev s_wrong_part : Stmt := topS 13
abbrev N_wrong_part : List Str := ["thing", "top", "drain", "on", "off", "run", "rest", "starts", "step", "lag"]
theorem sc_wrong_part : FnScope N_wrong_part ["thing"] (fnScope s_wrong_part) := fnScope_by (by decide +kernel)
abbrev s_need_well : Stmt := topS 14
abbrev N_need_well : List Str := ["thing", "part"]
theorem sc_need_well : FnScope N_need_well ["thing"] (fnScope s_need_well) := fnScope_by (by decide +kernel)
abbrev s_seen_of : Stmt := topS 15
abbrev N_seen_of : List Str := ["well", "level", "past", "found"]
theorem sc_seen_of : FnScope N_seen_of ["well", "level", "past"] (fnScope s_seen_of) := fnScope_by (by decide +kernel)
abbrev s_need_rule : Stmt := topS 23
abbrev N_need_rule : List Str := ["rule"]
theorem sc_need_rule : FnScope N_need_rule ["rule"] (fnScope s_need_rule) := fnScope_by (by decide +kernel)
abbrev s_is_age : Stmt := topS 24
abbrev N_is_age : List Str := ["well", "thing"]
theorem sc_is_age : FnScope N_is_age ["well", "thing"] (fnScope s_is_age) := fnScope_by (by decide +kernel)
abbrev s_is_past : Stmt := topS 25
abbrev N_is_past : List Str := ["well", "thing", "one"]
theorem sc_is_past : FnScope N_is_past ["well", "thing"] (fnScope s_is_past) := fnScope_by (by decide +kernel)
abbrev s_is_crew_of : Stmt := topS 26
abbrev N_is_crew_of : List Str := ["well", "rule", "thing", "age"]
theorem sc_is_crew_of : FnScope N_is_crew_of ["well", "rule", "thing"] (fnScope s_is_crew_of) := fnScope_by (by decide +kernel)
abbrev s_is_crew : Stmt := topS 27
abbrev N_is_crew : List Str := ["well", "rule", "value"]
theorem sc_is_crew : FnScope N_is_crew ["well", "rule", "value"] (fnScope s_is_crew) := fnScope_by (by decide +kernel)
abbrev s_need_crew : Stmt := topS 28
abbrev N_need_crew : List Str := ["well", "rule", "crew"]
theorem sc_need_crew : FnScope N_need_crew ["well", "rule", "crew"] (fnScope s_need_crew) := fnScope_by (by decide +kernel)
abbrev s_beginners : Stmt := topS 29
abbrev N_beginners : List Str := ["well", "rule", "crew", "level", "past", "pumps", "mark", "turn", "names", "name"]
theorem sc_beginners : FnScope N_beginners ["well", "rule", "crew"] (fnScope s_beginners) := fnScope_by (by decide +kernel)
abbrev s_ages_after : Stmt := topS 30
abbrev N_ages_after : List Str := ["well", "rule", "crew", "level", "past", "pumps", "mark", "begun", "found", "is_low", "name", "age"]
theorem sc_ages_after : FnScope N_ages_after ["well", "rule", "crew"] (fnScope s_ages_after) := fnScope_by (by decide +kernel)
abbrev s_crew_in : Stmt := topS 31
abbrev N_crew_in : List Str := ["well", "rule", "crew", "inflow", "level", "past", "pumps", "mark", "ages", "begun", "age", "later"]
theorem sc_crew_in : FnScope N_crew_in ["well", "rule", "crew", "inflow"] (fnScope s_crew_in) := fnScope_by (by decide +kernel)
abbrev s_runners : Stmt := topS 32
abbrev N_runners : List Str := ["well", "rule", "crew", "name", "age"]
theorem sc_runners : FnScope N_runners ["well", "rule", "crew"] (fnScope s_runners) := fnScope_by (by decide +kernel)
abbrev s_need_span : Stmt := topS 38
abbrev N_need_span : List Str := ["low", "high"]
theorem sc_need_span : FnScope N_need_span ["low", "high"] (fnScope s_need_span) := fnScope_by (by decide +kernel)
abbrev s_need_lead : Stmt := topS 39
abbrev N_need_lead : List Str := ["well", "rule", "crew", "low", "high", "one", "other", "name"]
theorem sc_need_lead : FnScope N_need_lead ["well", "rule", "crew", "low", "high", "one", "other"] (fnScope s_need_lead) := fnScope_by (by decide +kernel)
abbrev s_gain : Stmt := topS 40
abbrev N_gain : List Str := ["well", "rule", "crew", "one", "other", "some"]
theorem sc_gain : FnScope N_gain ["well", "rule", "crew", "one", "other"] (fnScope s_gain) := fnScope_by (by decide +kernel)
abbrev s_steps_of : Stmt := topS 41
abbrev N_steps_of : List Str := ["well", "rule", "crew", "low", "high", "found", "known", "inflow", "fresh"]
theorem sc_steps_of : FnScope N_steps_of ["well", "rule", "crew", "low", "high"] (fnScope s_steps_of) := fnScope_by (by decide +kernel)
abbrev s_graph_of : Stmt := topS 42
abbrev N_graph_of : List Str := ["well", "rule", "crew", "low", "high", "found", "waiting", "inflow", "fresh"]
theorem sc_graph_of : FnScope N_graph_of ["well", "rule", "crew", "low", "high"] (fnScope s_graph_of) := fnScope_by (by decide +kernel)
abbrev s_row_to : Stmt := topS 43
abbrev N_row_to : List Str := ["ahead", "crew", "most", "found", "inflow"]
theorem sc_row_to : FnScope N_row_to ["ahead", "crew", "most"] (fnScope s_row_to) := fnScope_by (by decide +kernel)
abbrev s_ring_at : Stmt := topS 44
abbrev N_ring_at : List Str := ["ahead", "crew", "size", "turn", "here", "found", "is_round", "inflow"]
theorem sc_ring_at : FnScope N_ring_at ["ahead", "crew", "size"] (fnScope s_ring_at) := fnScope_by (by decide +kernel)
abbrev s_searched : Stmt := topS 45
abbrev N_searched : List Str := ["well", "rule", "crew", "low", "high", "one", "other", "links", "here", "gains", "best", "ahead", "fresh", "turn", "changed", "inflow", "there"]
theorem sc_searched : FnScope N_searched ["well", "rule", "crew", "low", "high", "one", "other"] (fnScope s_searched) := fnScope_by (by decide +kernel)
abbrev s_way_to : Stmt := topS 46
abbrev N_way_to : List Str := ["well", "rule", "crew", "low", "high", "goal", "ahead", "layer", "further", "here", "inflow", "there"]
theorem sc_way_to : FnScope N_way_to ["well", "rule", "crew", "low", "high", "goal"] (fnScope s_way_to) := fnScope_by (by decide +kernel)
abbrev s_lead_paper : Stmt := topS 47
abbrev N_lead_paper : List Str := ["well", "rule", "crew", "low", "high", "one", "other", "best", "ahead", "ringed", "here", "ring", "most", "goal"]
theorem sc_lead_paper : FnScope N_lead_paper ["well", "rule", "crew", "low", "high", "one", "other"] (fnScope s_lead_paper) := fnScope_by (by decide +kernel)
abbrev s_led_by : Stmt := topS 48
abbrev N_led_by : List Str := ["well", "rule", "crew", "row", "span", "one", "other", "whole", "inflow"]
theorem sc_led_by : FnScope N_led_by ["well", "rule", "crew", "row", "span", "one", "other"] (fnScope s_led_by) := fnScope_by (by decide +kernel)
abbrev s_are_heights : Stmt := topS 49
abbrev N_are_heights : List Str := ["well", "rule", "thing", "pair", "first", "second"]
theorem sc_are_heights : FnScope N_are_heights ["well", "rule", "thing"] (fnScope s_are_heights) := fnScope_by (by decide +kernel)
abbrev s_do_bound : Stmt := topS 50
abbrev N_do_bound : List Str := ["well", "rule", "crew", "span", "heights", "one", "other", "known", "here", "height", "more", "inflow", "there"]
theorem sc_do_bound : FnScope N_do_bound ["well", "rule", "crew", "span", "heights", "one", "other"] (fnScope s_do_bound) := fnScope_by (by decide +kernel)
abbrev s_is_lead : Stmt := topS 51
abbrev N_is_lead : List Str := ["well", "rule", "crew", "span", "paper", "one", "other", "end", "here", "height"]
theorem sc_is_lead : FnScope N_is_lead ["well", "rule", "crew", "span", "paper", "one", "other"] (fnScope s_is_lead) := fnScope_by (by decide +kernel)
abbrev s_is_endless : Stmt := topS 52
abbrev N_is_endless : List Str := ["well", "rule", "crew", "span", "paper", "one", "other", "begin", "end"]
theorem sc_is_endless : FnScope N_is_endless ["well", "rule", "crew", "span", "paper", "one", "other"] (fnScope s_is_endless) := fnScope_by (by decide +kernel)
abbrev s_check_lead : Stmt := topS 53
abbrev N_check_lead : List Str := ["well", "rule", "crew", "low", "high", "one", "other", "paper", "is_good"]
theorem sc_check_lead : FnScope N_check_lead ["well", "rule", "crew", "low", "high", "one", "other", "paper"] (fnScope s_check_lead) := fnScope_by (by decide +kernel)
abbrev s__law_begun : Stmt := topS 55
abbrev N__law_begun : List Str := ["_law_script", "_law_cell"]
theorem sc__law_begun : FnScope N__law_begun ["_law_script"] (fnScope s__law_begun) := fnScope_by (by decide +kernel)
abbrev s__law_next : Stmt := topS 56
abbrev N__law_next : List Str := ["_law_m", "_law_total", "_law_rest", "_law_k", "_law_cell", "_law_mixed"]
theorem sc__law_next : FnScope N__law_next ["_law_m", "_law_total"] (fnScope s__law_next) := fnScope_by (by decide +kernel)
abbrev s__law_well : Stmt := topS 57
abbrev N__law_well : List Str := ["_law_m", "_law_top", "_law_size", "_law_high", "_law_low", "_law_more"]
theorem sc__law_well : FnScope N__law_well ["_law_m", "_law_top"] (fnScope s__law_well) := fnScope_by (by decide +kernel)
abbrev s__law_first : Stmt := topS 58
abbrev N__law_first : List Str := ["_law_well_here", "_law_total", "_law_level"]
theorem sc__law_first : FnScope N__law_first ["_law_well_here", "_law_total", "_law_level"] (fnScope s__law_first) := fnScope_by (by decide +kernel)
abbrev s__law_turned : Stmt := topS 59
abbrev N__law_turned : List Str := ["_law_well_here", "_law_rule", "_law_crew", "_law_level", "_law_past", "_law_ages", "_law_mark", "_law_seen", "_law_names", "_law_row", "_law_k"]
theorem sc__law_turned : FnScope N__law_turned ["_law_well_here", "_law_rule", "_law_crew"] (fnScope s__law_turned) := fnScope_by (by decide +kernel)
abbrev s__law_beat : Stmt := topS 60
abbrev N__law_beat : List Str := ["_law_well_here", "_law_rule", "_law_crew", "_law_inflow", "_law_level", "_law_past", "_law_ages", "_law_mark", "_law_begun_now", "_law_ended_now", "_law_fresh", "_law_k", "_law_age", "_law_runs", "_law_height", "_law_behind_it"]
theorem sc__law_beat : FnScope N__law_beat ["_law_well_here", "_law_rule", "_law_crew", "_law_inflow"] (fnScope s__law_beat) := fnScope_by (by decide +kernel)
abbrev s__law_graph : Stmt := topS 61
abbrev N__law_graph : List Str := ["_law_well_here", "_law_rule", "_law_crew", "_law_low", "_law_high", "_law_limit", "_law_found", "_law_waiting", "_law_here", "_law_steps", "_law_runs", "_law_inflow", "_law_behind_it", "_law_begun_now"]
theorem sc__law_graph : FnScope N__law_graph ["_law_well_here", "_law_rule", "_law_crew", "_law_low", "_law_high", "_law_limit"] (fnScope s__law_graph) := fnScope_by (by decide +kernel)
abbrev s__law_gain : Stmt := topS 62
abbrev N__law_gain : List Str := ["_law_runs", "_law_one", "_law_other"]
theorem sc__law_gain : FnScope N__law_gain ["_law_runs", "_law_one", "_law_other"] (fnScope s__law_gain) := fnScope_by (by decide +kernel)
abbrev s__law_led : Stmt := topS 63
abbrev N__law_led : List Str := ["_law_well_here", "_law_rule", "_law_crew", "_law_row", "_law_low", "_law_high", "_law_one", "_law_other", "_law_whole", "_law_inflow", "_law_behind_it", "_law_runs", "_law_begun_now"]
theorem sc__law_led : FnScope N__law_led ["_law_well_here", "_law_rule", "_law_crew", "_law_row", "_law_low", "_law_high", "_law_one", "_law_other"] (fnScope s__law_led) := fnScope_by (by decide +kernel)
abbrev s__law_are_heights : Stmt := topS 64
abbrev N__law_are_heights : List Str := ["_law_well_here", "_law_rule", "_law_crew", "_law_low", "_law_high", "_law_rows", "_law_kept", "_law_pair", "_law_k", "_law_here", "_law_inflow", "_law_behind_it", "_law_runs", "_law_begun_now"]
theorem sc__law_are_heights : FnScope N__law_are_heights ["_law_well_here", "_law_rule", "_law_crew", "_law_low", "_law_high", "_law_rows"] (fnScope s__law_are_heights) := fnScope_by (by decide +kernel)
abbrev s__law_is_lead : Stmt := topS 65
abbrev N__law_is_lead : List Str := ["_law_well_here", "_law_rule", "_law_crew", "_law_low", "_law_high", "_law_sheet", "_law_end", "_law_pair"]
theorem sc__law_is_lead : FnScope N__law_is_lead ["_law_well_here", "_law_rule", "_law_crew", "_law_low", "_law_high", "_law_sheet"] (fnScope s__law_is_lead) := fnScope_by (by decide +kernel)
abbrev s__law_is_endless : Stmt := topS 66
abbrev N__law_is_endless : List Str := ["_law_well_here", "_law_rule", "_law_crew", "_law_low", "_law_high", "_law_sheet", "_law_begin", "_law_end"]
theorem sc__law_is_endless : FnScope N__law_is_endless ["_law_well_here", "_law_rule", "_law_crew", "_law_low", "_law_high", "_law_sheet"] (fnScope s__law_is_endless) := fnScope_by (by decide +kernel)
abbrev s__law_due : Stmt := topS 67
abbrev N__law_due : List Str := ["_law_well_here", "_law_rule", "_law_crew", "_law_low", "_law_high", "_law_sheet"]
theorem sc__law_due : FnScope N__law_due ["_law_well_here", "_law_rule", "_law_crew", "_law_low", "_law_high", "_law_sheet"] (fnScope s__law_due) := fnScope_by (by decide +kernel)
abbrev s__law_outcome : Stmt := topS 68
abbrev N__law_outcome : List Str := ["_law_well_here", "_law_rule", "_law_crew", "_law_low", "_law_high", "_law_sheet", "_law_found", "e"]
theorem sc__law_outcome : FnScope N__law_outcome ["_law_well_here", "_law_rule", "_law_crew", "_law_low", "_law_high", "_law_sheet"] (fnScope s__law_outcome) := fnScope_by (by decide +kernel)
abbrev s__law_bent : Stmt := topS 69
abbrev N__law_bent : List Str := ["_law_m", "_law_sheet", "_law_place", "_law_part", "_law_at", "_law_more", "_law_odd", "_law_some", "_law_fresh"]
theorem sc__law_bent : FnScope N__law_bent ["_law_m", "_law_sheet"] (fnScope s__law_bent) := fnScope_by (by decide +kernel)
abbrev s_law : Stmt := topS 70
abbrev N_law : List Str := ["_law_script", "_law_m", "_law_turn", "_law_well_here", "_law_rule", "_law_low", "_law_crew", "_law_high", "_law_told", "_law_some", "_law_one", "_law_height", "_law_k", "_law_sheet", "_law_due_here"]
theorem sc_law : FnScope N_law ["_law_script"] (fnScope s_law) := fnScope_by (by decide +kernel)
theorem bo_isinstance : bootBuiltins "isinstance" = some (.builtin "isinstance") := by decide +kernel
theorem bo_len : bootBuiltins "len" = some (.builtin "len") := by decide +kernel
theorem bo_int : bootBuiltins "int" = some (.type "int") := by decide +kernel
theorem bo_bool : bootBuiltins "bool" = some (.type "bool") := by decide +kernel
theorem bo_str : bootBuiltins "str" = some (.type "str") := by decide +kernel
theorem bo_tuple : bootBuiltins "tuple" = some (.type "tuple") := by decide +kernel
theorem bo_list : bootBuiltins "list" = some (.type "list") := by decide +kernel
theorem bo_dict : bootBuiltins "dict" = some (.type "dict") := by decide +kernel
theorem bo_range : bootBuiltins "range" = some (.type "range") := by decide +kernel
theorem bo_min : bootBuiltins "min" = some (.builtin "min") := by decide +kernel
theorem bo_max : bootBuiltins "max" = some (.builtin "max") := by decide +kernel
theorem bo_all : bootBuiltins "all" = some (.builtin "all") := by decide +kernel
theorem bo_sorted : bootBuiltins "sorted" = some (.builtin "sorted") := by decide +kernel
theorem bo_enumerate : bootBuiltins "enumerate" = some (.type "enumerate") := by decide +kernel
theorem bo_zip : bootBuiltins "zip" = some (.type "zip") := by decide +kernel
theorem bo_repr : bootBuiltins "repr" = some (.builtin "repr") := by decide +kernel
theorem bo_super : bootBuiltins "super" = some (.type "super") := by decide +kernel
structure Tp (mg : Str → Option Value) : Prop where
  b_isinstance : mg "isinstance" = none
  b_len : mg "len" = none
  b_int : mg "int" = none
  b_bool : mg "bool" = none
  b_str : mg "str" = none
  b_tuple : mg "tuple" = none
  b_list : mg "list" = none
  b_dict : mg "dict" = none
  b_range : mg "range" = none
  b_min : mg "min" = none
  b_max : mg "max" = none
  b_all : mg "all" = none
  b_sorted : mg "sorted" = none
  b_enumerate : mg "enumerate" = none
  b_zip : mg "zip" = none
  b_repr : mg "repr" = none
  b_super : mg "super" = none
  g_MOST_TOP : ∃ u, mg "MOST_TOP" = some u ∧ RelV (.int 200) u
  g_MOST_DRAIN : ∃ u, mg "MOST_DRAIN" = some u ∧ RelV (.int 50) u
  g_MOST_AGE : ∃ u, mg "MOST_AGE" = some u ∧ RelV (.int 5) u
  g_MOST_STARTS : ∃ u, mg "MOST_STARTS" = some u ∧ RelV (.int 5) u
  g_MOST_STEP : ∃ u, mg "MOST_STEP" = some u ∧ RelV (.int 20) u
  g_MOST_LAG : ∃ u, mg "MOST_LAG" = some u ∧ RelV (.int 3) u
  g_MOST_PUMPS : ∃ u, mg "MOST_PUMPS" = some u ∧ RelV (.int 6) u
  g_MOST_INFLOW : ∃ u, mg "MOST_INFLOW" = some u ∧ RelV (.int 300) u
  g_FIRST : ∃ u, mg "FIRST" = some u ∧ RelV (.str "first") u
  g_TURNS : ∃ u, mg "TURNS" = some u ∧ RelV (.str "turns") u
  g_OVER : ∃ u, mg "OVER" = some u ∧ RelV (.str "over") u
  g_DRY : ∃ u, mg "DRY" = some u ∧ RelV (.str "dry") u
  g_MOST_CREWS : ∃ u, mg "MOST_CREWS" = some u ∧ RelV (.int 5000) u
  g_MOST_ROW : ∃ u, mg "MOST_ROW" = some u ∧ RelV (.int 100000) u
  g_LEAD : ∃ u, mg "LEAD" = some u ∧ RelV (.str "lead") u
  g_ENDLESS : ∃ u, mg "ENDLESS" = some u ∧ RelV (.str "endless") u
section
variable {k : Nat} {A : Around}
theorem hu1 (r : Room k A) : A.units + 1 < cLine := by have := r.un; omega
theorem hu16 (r : Room k A) : A.units + 16 < cLine := by have := r.un; omega
theorem hu64 (r : Room k A) : A.units + 64 < cLine := by have := r.un; omega
theorem hu65 (r : Room k A) : A.units + 65 < cLine := by have := r.un; omega
end
theorem lenLe {n : Nat} (h : Nat.ble n sizeLine = true) : n ≤ sizeLine := Nat.le_of_ble_eq_true h
end Pk
/-! Pk, part R: promises by arguments and answers; the wells. -/
namespace Pk
open PySem PySem.Spec PyProof.Rows L2 C8

/-- arguments, what is asked of them, what is told -/
def Sp1 {α : Type} (a : α → List Cl) (pre : α → Prop) (post : α → Cl → Prop) : Spec := fun cs R => ∃ x, pre x ∧ cs = a x ∧ ∀ c, post x c → R c
theorem sp1_len {α : Type} {a : α → List Cl} {pre : α → Prop} {post : α → Cl → Prop} {P : Program} {w : World} {K : PySem.W.Frag} {n : Nat} (h : ∀ x, (a x).length = n) : ∀ vs H Q E, spX P w K (Sp1 a pre post) vs H Q E → vs.length = n :=
  spX_len fun cs R ⟨x, _, e, _⟩ => by rw [e]; exact h x
theorem enter1 {α : Type} {a : α → List Cl} {pre : α → Prop} {post : α → Cl → Prop} {P : Program} {w : World} {K : PySem.W.Frag} {N : List Str} {vs : List V} {H : Hp} {Q : VK} {E : XK} {t : TS} (h : spX P w K (Sp1 a pre post) vs H Q E)
    (b : ∀ x, pre x → SX ⟨P, w, K, H⟩ t ((a x).map some ++ List.replicate (N.length - (a x).length) none) [] { nx := fun _ _ => post x (.dat .none), rt := fun c _ => ImC c ∧ post x c }) : t { nx := fun _ H' => Q .non H', rt := Q } (L2.start N vs) H := by
  refine enter h fun cs R ⟨x, hp, e, hR⟩ => ?_
  subst e
  intro as H' σ D r s kn kr kb kc
  exact b x hp as H' σ D r s (fun γ' os' as' H' σ' r' x' s' q => kn γ' os' as' H' σ' r' x' s' (hR _ q)) (fun c os' as' H' v r' x' hc q => kr c os' as' H' v r' x' hc ⟨q.1, hR _ q.2⟩) (fun _ _ _ _ _ _ _ _ h => h.elim) fun _ _ _ _ _ _ _ _ h => h.elim
theorem ex_call1 {α : Type} {a : α → List Cl} {pre : α → Prop} {post : α → Cl → Prop} {C : Kx} {γ : List (Option Cl)} {os : List OV} {R : Cl → List OV → Prop} {E : XK} {t : TA}
    (h : AX C t γ os fun cs os1 => imB cs = true ∧ ∃ x, cs = a x ∧ pre x ∧ ∀ c, post x c → R c os1) : EX C (tCall (spX C.P C.w C.K (Sp1 a pre post)) [] E t) γ os R :=
  ex_callB fun as H σ Q r s k => h as H σ Q r s fun cs os' as' H' vs r' l' hv ⟨e, x, e2, hp, q⟩ => k cs os' as' H' vs r' l' hv ⟨e, x, hp, e2, q⟩
theorem ex_cb {C : Kx} {γ : List (Option Cl)} {os : List OV} {R : Cl → List OV → Prop} {r : List V → Hp → VK → Prop} {t : TA} (h : AX C t γ os fun cs os1 => BX C r cs os1 R) : EX C (tCB r t) γ os R := fun as H σ Q rl s k =>
  h as H σ _ rl s fun cs os1 as1 H1 vs r1 l1 hv h1 => h1 as1 H1 vs Q r1 hv (Kt.from_ k l1)
def SpM1 {α : Type} (a : α → List Cl) (pre : α → Nat → Prop) (post : α → Nat → Cl → Nat → Prop) : SpecM := fun n cs R => ∃ x, pre x n ∧ cs = a x ∧ ∀ c n', post x n c n' → R c n'
theorem spM1_len {α : Type} {a : α → List Cl} {pre : α → Nat → Prop} {post : α → Nat → Cl → Nat → Prop} {P : Program} {w : World} {K : PySem.W.Frag} {n : Nat} (h : ∀ x, (a x).length + 1 = n) : ∀ vs H Q E, spM P w K (SpM1 a pre post) vs H Q E → vs.length = n :=
  spM_len fun k cs R ⟨x, _, e, _⟩ => by rw [e]; exact h x
theorem ex_callM1 {α : Type} {a : α → List Cl} {pre : α → Nat → Prop} {post : α → Nat → Cl → Nat → Prop} {C : Kx} {γ : List (Option Cl)} {os : List OV} {R : Cl → List OV → Prop} {E : XK} {t : TA}
    (h : AX C t γ os fun cs os1 => ∃ k p n cs', cs = .own k :: cs' ∧ os1[k]? = some (.mm p n) ∧ imB cs' = true ∧ ∃ x, cs' = a x ∧ pre x n ∧ ∀ c n', post x n c n' → R c (os1.set k (.mm p n'))) : EX C (tCall (spM C.P C.w C.K (SpM1 a pre post)) [] E t) γ os R :=
  ex_callM fun as H σ Q r s kk => h as H σ Q r s fun cs os' as' H' vs r' l' hv ⟨k, p, n, cs', e, eo, ei, x, e2, hp, q⟩ => kk cs os' as' H' vs r' l' hv ⟨k, p, n, cs', e, eo, ei, x, hp, e2, q⟩
theorem enterM1 {α : Type} {a : α → List Cl} {pre : α → Nat → Prop} {post : α → Nat → Cl → Nat → Prop} {P : Program} {w : World} {K : PySem.W.Frag} {N : List Str} {vs : List V} {H : Hp} {Q : VK} {E : XK} {t : TS} (h : spM P w K (SpM1 a pre post) vs H Q E)
    (b : ∀ p l n x, pre x n → SX ⟨P, w, K, noM H l⟩ t (some (.own 0) :: (a x).map some ++ List.replicate (N.length - ((a x).length + 1)) none) [.mm p n] { nx := fun _ os => ∃ n', os[0]? = some (.mm p n') ∧ post x n (.dat .none) n', rt := fun c os => ImC c ∧ ∃ n', os[0]? = some (.mm p n') ∧ post x n c n' }) :
    t { nx := fun _ H' => Q .non H', rt := Q } (L2.start N vs) H := by
  refine enterM h fun p l n cs R ⟨x, hp, e, hR⟩ => ?_
  subst e
  intro as H' σ D r s kn kr kb kc
  exact b p l n x hp as H' σ D r s (fun γ' os' as' H' σ' r' x' s' ⟨n', e, q⟩ => kn γ' os' as' H' σ' r' x' s' ⟨n', e, hR _ _ q⟩) (fun c os' as' H' v r' x' hc ⟨i, n', e, q⟩ => kr c os' as' H' v r' x' hc ⟨i, n', e, hR _ _ q⟩) (fun _ _ _ _ _ _ _ _ h => h.elim) fun _ _ _ _ _ _ _ _ h => h.elim

section
variable {C : Kx} {os : List OV} {R : Cl → List OV → Prop} {c : Cl} {ds : List PyData} {x : PyData} {i : Int}
theorem ixN_nat {n j : Nat} (h : j < n) : ixN n (j : Int) = some j := by
  unfold ixN
  rw [if_pos (Int.natCast_nonneg j), if_pos (by omega)]
  simp
theorem atI_at {α : Type} {xs : List α} {j : Nat} {y : α} (h : xs[j]? = some y) : atI xs (j : Int) = some y := by
  unfold atI
  rw [ixN_nat (List.getElem?_eq_some_iff.mp h).1]
  exact h
theorem rx_ixTk (j : Nat) (hi : i = (j : Int)) (e : tpOf c = some ds) (ei : ds[j]? = some x) (h : R (.dat x) os) : RX C (rIxU C.K C.P C.w) c (.dat (.int i)) os R := rx_ixT e (by rw [hi]; exact atI_at ei) h
theorem rx_ixLk (j : Nat) (hi : i = (j : Int)) (e : lsOf os c = some ds) (ei : ds[j]? = some x) (h : R (.dat x) os) : RX C (rIxU C.K C.P C.w) c (.dat (.int i)) os R := rx_ixL e (by rw [hi]; exact atI_at ei) h
theorem rx_ix0 (e : tpOf c = some ds) (ei : ds[0]? = some x) (h : R (.dat x) os) : RX C (rIxU C.K C.P C.w) c (.dat (.int 0)) os R := rx_ixTk 0 rfl e ei h
theorem rx_ix1 (e : tpOf c = some ds) (ei : ds[1]? = some x) (h : R (.dat x) os) : RX C (rIxU C.K C.P C.w) c (.dat (.int 1)) os R := rx_ixTk 1 rfl e ei h
theorem rx_ix2 (e : tpOf c = some ds) (ei : ds[2]? = some x) (h : R (.dat x) os) : RX C (rIxU C.K C.P C.w) c (.dat (.int 2)) os R := rx_ixTk 2 rfl e ei h
theorem rx_ix3 (e : tpOf c = some ds) (ei : ds[3]? = some x) (h : R (.dat x) os) : RX C (rIxU C.K C.P C.w) c (.dat (.int 3)) os R := rx_ixTk 3 rfl e ei h
theorem rx_ix4 (e : tpOf c = some ds) (ei : ds[4]? = some x) (h : R (.dat x) os) : RX C (rIxU C.K C.P C.w) c (.dat (.int 4)) os R := rx_ixTk 4 rfl e ei h
theorem rx_ix5 (e : tpOf c = some ds) (ei : ds[5]? = some x) (h : R (.dat x) os) : RX C (rIxU C.K C.P C.w) c (.dat (.int 5)) os R := rx_ixTk 5 rfl e ei h
theorem rx_ix6 (e : tpOf c = some ds) (ei : ds[6]? = some x) (h : R (.dat x) os) : RX C (rIxU C.K C.P C.w) c (.dat (.int 6)) os R := rx_ixTk 6 rfl e ei h
theorem rx_ix7 (e : tpOf c = some ds) (ei : ds[7]? = some x) (h : R (.dat x) os) : RX C (rIxU C.K C.P C.w) c (.dat (.int 7)) os R := rx_ixTk 7 rfl e ei h
theorem rx_ix8 (e : tpOf c = some ds) (ei : ds[8]? = some x) (h : R (.dat x) os) : RX C (rIxU C.K C.P C.w) c (.dat (.int 8)) os R := rx_ixTk 8 rfl e ei h
theorem rx_ixL0 (e : lsOf os c = some ds) (ei : ds[0]? = some x) (h : R (.dat x) os) : RX C (rIxU C.K C.P C.w) c (.dat (.int 0)) os R := rx_ixLk 0 rfl e ei h
theorem rx_ixL1 (e : lsOf os c = some ds) (ei : ds[1]? = some x) (h : R (.dat x) os) : RX C (rIxU C.K C.P C.w) c (.dat (.int 1)) os R := rx_ixLk 1 rfl e ei h
theorem rx_ixLast (e : lsOf os c = some ds) (ei : ds.getLast? = some x) (h : R (.dat x) os) : RX C (rIxU C.K C.P C.w) c (.dat (.int (-1))) os R := rx_ixL e (by
  have hl : 0 < ds.length := by
    cases ds with
    | nil => simp at ei
    | cons a l => simp
  have e2 : ixN ds.length (-1) = some (ds.length - 1) := by
    unfold ixN
    rw [if_neg (by decide), if_pos (by omega)]
    congr 1
    omega
  unfold atI
  rw [e2]
  rw [List.getLast?_eq_getElem?] at ei
  exact ei) h
end
/-! ### wells -/
abbrev oD : Option Int → PyData
  | none => .none
  | some i => .int i
def wholeB (d : PyData) (lo hi : Option Int) : Bool := match d with
  | .int i => (match lo with | none => true | some a => decide (a ≤ i)) && (match hi with | none => true | some b => decide (i ≤ b))
  | _ => false
structure Well where
  top : Int
  drain : Int
  on : Int
  off : Int
  run : Int
  rest : Int
  starts : Int
  step : Int
  lag : Int
def Well.d (w : Well) : PyData := .tuple [.int w.top, .int w.drain, .int w.on, .int w.off, .int w.run, .int w.rest, .int w.starts, .int w.step, .int w.lag]
structure Well.Ok (w : Well) : Prop where
  top : 1 ≤ w.top ∧ w.top ≤ 200
  drain : 1 ≤ w.drain ∧ w.drain ≤ 50
  on : 1 ≤ w.on ∧ w.on ≤ w.top
  off : 0 ≤ w.off ∧ w.off ≤ w.on - 1
  run : 1 ≤ w.run ∧ w.run ≤ 5
  rest : 1 ≤ w.rest ∧ w.rest ≤ 5
  starts : 1 ≤ w.starts ∧ w.starts ≤ 5
  step : 1 ≤ w.step ∧ w.step ≤ 20
  lag : 0 ≤ w.lag ∧ w.lag ≤ 3
def ruleD (t : Bool) : PyData := .str (if t then "turns" else "first")
theorem whole_int {i a b : Int} (h : a ≤ i ∧ i ≤ b) : wholeB (.int i) (some a) (some b) = true := by
  simp [wholeB, h.1, h.2]
/-- the level that is seen -/
def seen (w : Well) (level : Int) (past : List Int) : Int := let f := if w.lag > 0 then past.headD 0 else level; f - f % w.step
end Pk
/-! Pk, part S: comprehensions by forms; crews. -/
namespace Pk
open PySem PySem.Spec PyProof.Rows L2 C8

section
variable {C : Kx} {os : List OV} {γ : List (Option Cl)} {R : Cl → List OV → Prop} {te : TE} {wi : TI} {g : TG} {tt : TT} {vs : List Nat}
/-- [f(c) for c in cs] -/
theorem ex_lcM (tg : TgOk g vs) (h : IX C wi γ os fun cs os1 => os1 = os ∧ ∃ f : Cl → PyData, cs.length < sizeLine ∧
    (∀ (i : Nat) (c : Cl) (acc : List PyData), cs[i]? = some c → GX C g c (wipeC γ vs) (os ++ [.lst acc]) fun γ2 os2 => EX C te γ2 os2 fun y os4 => y = .dat (f c) ∧ os4.take (os.length + 1) = os ++ [.lst acc]) ∧
    R (.dat (.list (cs.map f))) os) : EX C (tFrz (tLc wi g tYes te vs)) γ os R :=
  ex_lc tg fun as H σ Q r s k => h as H σ Q r s fun J cs os' as' H' r1 l1 ok ⟨e, f, hz, turn, fin⟩ => k J cs os' as' H' r1 l1 ok ⟨e, fun c => [f c], hz, fun i c acc e1 as H σ v Q r s hv kk =>
    turn i c acc e1 as H σ v Q r s hv fun γ' os2 as2 H2 σ2 r2 l2 s2 q2 => kk γ' os2 as2 H2 σ2 r2 l2 s2 (tx_yes ⟨fun _ => EX.imp q2 fun y os4 ⟨e1, e2⟩ => ⟨f c, e1, e2, rfl⟩, fun h => Bool.noConfusion h⟩), by
      have : ∀ l : List Cl, l.flatMap (fun c => [f c]) = l.map f := by
        intro l
        induction l with
        | nil => rfl
        | cons a l ih => rw [List.flatMap_cons, ih, List.map_cons]; rfl
      rw [this]; exact fin⟩
/-- [f(c) for c in cs if p(c)] -/
theorem ex_lcF (tg : TgOk g vs) (h : IX C wi γ os fun cs os1 => os1 = os ∧ ∃ (p : Cl → Bool) (f : Cl → PyData), cs.length < sizeLine ∧
    (∀ (i : Nat) (c : Cl) (acc : List PyData), cs[i]? = some c → GX C g c (wipeC γ vs) (os ++ [.lst acc]) fun γ2 os2 => TX C tt γ2 os2 fun b os3 => b = p c ∧ os3.take (os.length + 1) = os ++ [.lst acc] ∧
      (b = true → EX C te γ2 os3 fun y os4 => y = .dat (f c) ∧ os4.take (os.length + 1) = os ++ [.lst acc])) ∧
    R (.dat (.list ((cs.filter p).map f))) os) : EX C (tFrz (tLc wi g tt te vs)) γ os R :=
  ex_lc tg fun as H σ Q r s k => h as H σ Q r s fun J cs os' as' H' r1 l1 ok ⟨e, p, f, hz, turn, fin⟩ => k J cs os' as' H' r1 l1 ok ⟨e, fun c => if p c then [f c] else [], hz, fun i c acc e1 as H σ v Q r s hv kk =>
    turn i c acc e1 as H σ v Q r s hv fun γ' os2 as2 H2 σ2 r2 l2 s2 q2 => kk γ' os2 as2 H2 σ2 r2 l2 s2 fun as H σ Q r s kk => q2 as H σ Q r s fun b os3 as3 H3 r3 l3 ⟨eb, et, q3⟩ => kk b os3 as3 H3 r3 l3
      ⟨fun hb => EX.imp (q3 hb) fun y os4 ⟨e1, e2⟩ => ⟨f c, e1, e2, if_pos (by rw [← eb]; exact hb)⟩, fun hb => ⟨et, if_neg (by rw [← eb, hb]; exact Bool.false_ne_true)⟩⟩, by
      have : ∀ l : List Cl, l.flatMap (fun c => if p c then [f c] else []) = (l.filter p).map f := by
        intro l
        induction l with
        | nil => rfl
        | cons a l ih =>
          rw [List.flatMap_cons, ih, List.filter_cons]
          by_cases q : p a = true <;> simp [q]
      rw [this]; exact fin⟩
end
def onD (f : PyData → PyData) : Cl → PyData
  | .dat d => f d
  | _ => .none
def onB (f : PyData → Bool) : Cl → Bool
  | .dat d => f d
  | _ => false
theorem map_onD {f : PyData → PyData} (ds : List PyData) : (ds.map Cl.dat).map (onD f) = ds.map f := by rw [List.map_map]; rfl
theorem filter_onD {p : PyData → Bool} {f : PyData → PyData} : ∀ ds : List PyData, ((ds.map Cl.dat).filter (onB p)).map (onD f) = (ds.filter p).map f
  | [] => rfl
  | d :: ds => by
    rw [List.map_cons, List.filter_cons, List.filter_cons]
    show List.map (onD f) (if p d = true then _ else _) = _
    by_cases h : p d = true
    · rw [if_pos h, if_pos h, List.map_cons, List.map_cons, filter_onD ds]; rfl
    · rw [if_neg h, if_neg h, filter_onD ds]
theorem each_dat {ds : List PyData} {Q : Nat → Cl → List PyData → Prop} (h : ∀ (i : Nat) (d : PyData) (acc : List PyData), ds[i]? = some d → Q i (.dat d) acc) : ∀ (i : Nat) (c : Cl) (acc : List PyData), (ds.map Cl.dat)[i]? = some c → Q i c acc := fun i c acc e => by
  rw [List.getElem?_map] at e
  obtain ⟨d, e1, rfl⟩ := Option.map_eq_some_iff.mp e
  exact h i d acc e1
theorem each_rng {lo : Int} {n : Nat} {Q : Nat → Cl → List PyData → Prop} (h : ∀ (i : Nat) (acc : List PyData), i < n → Q i (.dat (.int (lo + (i : Nat)))) acc) : ∀ (i : Nat) (c : Cl) (acc : List PyData), (rngC lo n)[i]? = some c → Q i c acc := fun i c acc e => by
  unfold rngC at e
  rw [List.getElem?_map] at e
  obtain ⟨d, e1, rfl⟩ := Option.map_eq_some_iff.mp e
  obtain ⟨h1, h2⟩ := List.getElem?_eq_some_iff.mp e1
  rw [List.getElem_range] at h2
  subst h2
  rw [List.length_range] at h1
  exact h i acc h1
theorem small {n k : Nat} (h : n ≤ k) (hk : Nat.ble (k + 1) sizeLine = true) : n < sizeLine := Nat.lt_of_le_of_lt h (Nat.le_of_ble_eq_true hk)
theorem rx_eqRule {t : Bool} {C : Kx} {os : List OV} {R : Cl → List OV → Prop} (h : R (.dat (.bool t)) os) : RX C (rEqU C.K) (.dat (ruleD t)) (.dat (.str "turns")) os R := by
  refine rx_eqS ?_
  have e : ((if t then "turns" else "first" : Str) == ("turns" : Str)) = t := by cases t <;> decide
  rw [e]; exact h
/-! ### crews -/
def ageB (w : Well) (d : PyData) : Bool := match d with
  | .int i => decide (0 - w.rest ≤ i) && decide (i ≤ w.run) && !decide (i = 0)
  | _ => false
def pastB (w : Well) (d : PyData) : Bool := match d with
  | .tuple ds => decide ((ds.length : Int) = w.lag) && ds.all fun x => wholeB x (some 0) (some w.top)
  | _ => false
def crewB (w : Well) (t : Bool) (d : PyData) : Bool := match d with
  | .tuple [a, b, .tuple gs, m] => wholeB a (some 0) (some w.top) && pastB w b && (decide ((1 : Int) ≤ (gs.length : Int)) && decide ((gs.length : Int) ≤ 6)) && gs.all (ageB w) && wholeB m (some 0) (some (if t then (gs.length : Int) - 1 else 0))
  | _ => false
theorem crewB_eq {w : Well} {t : Bool} {a b m : PyData} {gs : List PyData} : crewB w t (.tuple [a, b, .tuple gs, m]) = (wholeB a (some 0) (some w.top) && pastB w b && (decide ((1 : Int) ≤ (gs.length : Int)) && decide ((gs.length : Int) ≤ 6)) && gs.all (ageB w) && wholeB m (some 0) (some (if t then (gs.length : Int) - 1 else 0))) := rfl
structure Crew.Ok (w : Well) (t : Bool) (c : Crew) : Prop where
  level : 0 ≤ c.level ∧ c.level ≤ w.top
  plen : (c.past.length : Int) = w.lag
  past : ∀ x ∈ c.past, 0 ≤ x ∧ x ≤ w.top
  alen : 1 ≤ c.ages.length ∧ c.ages.length ≤ 6
  ages : ∀ a ∈ c.ages, 0 - w.rest ≤ a ∧ a ≤ w.run ∧ a ≠ 0
  mark : 0 ≤ c.mark ∧ c.mark ≤ if t then (c.ages.length : Int) - 1 else 0
theorem whole_iff {d : PyData} {a b : Int} : wholeB d (some a) (some b) = true ↔ ∃ i, d = .int i ∧ a ≤ i ∧ i ≤ b := by
  cases d <;> simp [wholeB]
theorem age_iff {w : Well} {d : PyData} : ageB w d = true ↔ ∃ i, d = .int i ∧ 0 - w.rest ≤ i ∧ i ≤ w.run ∧ i ≠ 0 := by
  cases d <;> simp [ageB, and_assoc]
theorem ints_of {p : PyData → Bool} {q : Int → Prop} (h : ∀ d, p d = true → ∃ i, d = .int i ∧ q i) : ∀ {ds : List PyData}, ds.all p = true → ∃ ns : List Int, ds = ns.map .int ∧ ∀ n ∈ ns, q n
  | [], _ => ⟨[], rfl, fun _ h => nomatch h⟩
  | d :: ds, e => by
    rw [List.all_cons, Bool.and_eq_true] at e
    obtain ⟨i, rfl, hi⟩ := h d e.1
    obtain ⟨ns, rfl, hn⟩ := ints_of h e.2
    refine ⟨i :: ns, rfl, fun n hn' => ?_⟩
    rcases List.mem_cons.mp hn' with rfl | hn'
    · exact hi
    · exact hn n hn'
theorem crew_ok {w : Well} {t : Bool} {c : Crew} (h : c.Ok w t) : crewB w t c.d = true := by
  have h1 : wholeB (.int c.level) (some 0) (some w.top) = true := whole_int h.level
  have h2 : pastB w (.tuple (c.past.map .int)) = true := by
    simp only [pastB, List.length_map, Bool.and_eq_true, decide_eq_true_eq, List.all_eq_true]
    refine ⟨h.plen, fun x hx => ?_⟩
    obtain ⟨n, hn, rfl⟩ := List.mem_map.mp hx
    exact whole_int (h.past n hn)
  have h3 : (c.ages.map PyData.int).all (ageB w) = true := by
    rw [List.all_eq_true]
    intro x hx
    obtain ⟨n, hn, rfl⟩ := List.mem_map.mp hx
    exact age_iff.mpr ⟨n, rfl, h.ages n hn⟩
  have h4 := whole_int h.mark
  show (wholeB (.int c.level) (some 0) (some w.top) && pastB w (.tuple (c.past.map .int)) && (decide ((1 : Int) ≤ ((c.ages.map PyData.int).length : Int)) && decide (((c.ages.map PyData.int).length : Int) ≤ 6)) && (c.ages.map PyData.int).all (ageB w) && wholeB (.int c.mark) (some 0) (some (if t then ((c.ages.map PyData.int).length : Int) - 1 else 0))) = true
  have h5 := h.alen
  rw [h1, h2, h3, List.length_map, h4, decide_eq_true (show (1 : Int) ≤ (c.ages.length : Int) by omega), decide_eq_true (show (c.ages.length : Int) ≤ 6 by omega)]
  rfl
theorem crew_of {w : Well} {t : Bool} {d : PyData} (h : crewB w t d = true) : ∃ c : Crew, d = c.d ∧ c.Ok w t := by
  unfold crewB at h
  split at h
  · rename_i a b gs m
    simp only [Bool.and_eq_true, decide_eq_true_eq] at h
    obtain ⟨⟨⟨⟨h1, h2⟩, h3, h4⟩, h5⟩, h6⟩ := h
    obtain ⟨i, rfl, hi⟩ := whole_iff.mp h1
    obtain ⟨j, rfl, hj⟩ := whole_iff.mp h6
    unfold pastB at h2
    split at h2
    · rename_i ds
      simp only [Bool.and_eq_true, decide_eq_true_eq] at h2
      obtain ⟨ns, rfl, hn⟩ := ints_of (fun d hd => whole_iff.mp hd) h2.2
      obtain ⟨as, rfl, ha⟩ := ints_of (fun d hd => age_iff.mp hd) h5
      rw [List.length_map] at h2 h3 h4 hj
      exact ⟨⟨i, ns, as, j⟩, rfl, hi, h2.1, hn, ⟨by show 1 ≤ as.length; omega, by show as.length ≤ 6; omega⟩, ha, hj⟩
    · cases h2
  · cases h
theorem crew_iff {w : Well} {t : Bool} {c : Crew} : crewB w t c.d = true ↔ c.Ok w t := by
  refine ⟨fun h => ?_, crew_ok⟩
  obtain ⟨c', e, ho⟩ := crew_of h
  have : c = c' := by
    obtain ⟨l, p, g, m⟩ := c
    obtain ⟨l', p', g', m'⟩ := c'
    simp only [Crew.d, PyData.tuple.injEq, List.cons.injEq, PyData.int.injEq, and_true] at e
    obtain ⟨rfl, e2, e3, rfl⟩ := e
    have inj : ∀ {a b : List Int}, a.map PyData.int = b.map PyData.int → a = b := by
      intro a
      induction a with
      | nil => intro b h; cases b with
        | nil => rfl
        | cons => simp at h
      | cons x a ih => intro b h; cases b with
        | nil => simp at h
        | cons y b =>
          simp only [List.map_cons, List.cons.injEq, PyData.int.injEq] at h
          rw [h.1, ih h.2]
    rw [inj e2, inj e3]
  rw [this]; exact ho
/-! what the pumps do -/
def Crew.seen (w : Well) (c : Crew) : Int := Pk.seen w c.level c.past
def namesL (t : Bool) (c : Crew) : List Int := (List.range c.ages.length).map fun i => if t then (c.mark + (i : Nat)) % (c.ages.length : Int) else (i : Nat)
def ageAt (c : Crew) (n : Int) : Int := c.ages.getD n.toNat 0
def begL (w : Well) (t : Bool) (c : Crew) : List Int := if c.seen w < w.on then [] else ((namesL t c).filter fun n => decide (ageAt c n = 0 - w.rest)).take w.starts.toNat
def age1 (w : Well) (low : Bool) (age : Int) : Int := if age > 0 then (if low && decide (age = w.run) then -1 else min (age + 1) w.run) else max (age - 1) (0 - w.rest)
def agesL (w : Well) (t : Bool) (c : Crew) : List Int := c.ages.zipIdx.map fun p => if ((p.2 : Nat) : Int) ∈ begL w t c then 1 else age1 w (decide (c.seen w ≤ w.off)) p.1
def countL (l : List Int) : Nat := (l.filter fun a => decide (a > 0)).length
def later (w : Well) (t : Bool) (c : Crew) (x : Int) : Int := c.level + x - w.drain * countL (agesL w t c)
def markL (w : Well) (t : Bool) (c : Crew) : Int := match t, (begL w t c).getLast? with
  | true, some z => (z + 1) % (c.ages.length : Int)
  | _, _ => c.mark
def nextC (w : Well) (t : Bool) (c : Crew) (x : Int) : Option Crew :=
  if later w t c x > w.top then none else if later w t c x < 0 then none else some ⟨later w t c x, (c.past ++ [c.level]).drop 1, agesL w t c, markL w t c⟩
def stepD (w : Well) (t : Bool) (c : Crew) (x : Int) : PyData :=
  if later w t c x > w.top then .str "over" else if later w t c x < 0 then .str "dry" else Crew.d ⟨later w t c x, (c.past ++ [c.level]).drop 1, agesL w t c, markL w t c⟩
def runL (w : Well) (t : Bool) (c : Crew) : List Int := ((agesL w t c).zipIdx.filter fun p => decide (p.1 > 0)).map fun p => ((p.2 : Nat) : Int)
def gainL (w : Well) (t : Bool) (c : Crew) (one other : Int) : Int := (if one ∈ runL w t c then 1 else 0) - (if other ∈ runL w t c then 1 else 0)
theorem step_some {w : Well} {t : Bool} {c c' : Crew} {x : Int} (h : nextC w t c x = some c') : stepD w t c x = c'.d := by
  unfold nextC at h
  unfold stepD
  split at h
  · cases h
  · split at h
    · cases h
    · rename_i h1 h2
      cases h
      rw [if_neg h1, if_neg h2]
theorem step_none {w : Well} {t : Bool} {c : Crew} {x : Int} (h : nextC w t c x = none) : stepD w t c x = .str "over" ∨ stepD w t c x = .str "dry" := by
  unfold nextC at h
  unfold stepD
  split at h
  · rename_i h1; rw [if_pos h1]; exact .inl rfl
  · split at h
    · rename_i h1 h2; rw [if_neg h1, if_pos h2]; exact .inr rfl
    · cases h
theorem agesL_len {w : Well} {t : Bool} {c : Crew} : (agesL w t c).length = c.ages.length := by unfold agesL; rw [List.length_map, List.length_zipIdx]
theorem names_range {w : Well} {t : Bool} {c : Crew} (h : c.Ok w t) : ∀ n ∈ namesL t c, 0 ≤ n ∧ n < (c.ages.length : Int) := by
  intro n hn
  have hp := h.alen.1
  obtain ⟨i, hi, rfl⟩ := List.mem_map.mp hn
  have := List.mem_range.mp hi
  have hpos : (0 : Int) < (c.ages.length : Int) := by omega
  cases t with
  | true => exact ⟨Int.emod_nonneg _ (by omega), Int.emod_lt_of_pos _ hpos⟩
  | false =>
    show 0 ≤ ((i : Nat) : Int) ∧ ((i : Nat) : Int) < _
    omega
theorem beg_sub {w : Well} {t : Bool} {c : Crew} {n : Int} (hn : n ∈ begL w t c) : n ∈ namesL t c := by
  unfold begL at hn
  split at hn
  · cases hn
  · exact (List.mem_filter.mp (List.mem_of_mem_take hn)).1
theorem next_ok {w : Well} {t : Bool} {c c' : Crew} {x : Int} (hw : w.Ok) (h : c.Ok w t) (e : nextC w t c x = some c') : c'.Ok w t := by
  unfold nextC at e
  split at e
  · cases e
  split at e
  · cases e
  rename_i h1 h2
  cases e
  refine ⟨⟨by show 0 ≤ later w t c x; omega, by show later w t c x ≤ w.top; omega⟩, ?_, fun y hy => ?_, by show 1 ≤ (agesL w t c).length ∧ _; rw [agesL_len]; exact h.alen, fun a ha => ?_, ?_⟩
  · show (((c.past ++ [c.level]).drop 1).length : Int) = w.lag
    rw [List.length_drop, List.length_append, List.length_singleton, Nat.add_sub_cancel]
    exact h.plen
  · have := List.mem_of_mem_drop hy
    rcases List.mem_append.mp this with q | q
    · exact h.past y q
    · rw [List.mem_singleton.mp q]; exact h.level
  · obtain ⟨p, hp, rfl⟩ := List.mem_map.mp ha
    have hr := hw.run
    have hs := hw.rest
    have hm : p.1 ∈ c.ages := by
      obtain ⟨i, hi⟩ := List.mem_iff_getElem?.mp hp
      rw [List.getElem?_zipIdx] at hi
      obtain ⟨a, ea, eb⟩ := Option.map_eq_some_iff.mp hi
      rw [← eb]
      exact List.mem_iff_getElem?.mpr ⟨i, ea⟩
    have hb := h.ages p.1 hm
    split
    · omega
    · unfold age1
      split
      · split
        · omega
        · have := Int.min_le_right (p.1 + 1) w.run
          have h3 : min (p.1 + 1) w.run = p.1 + 1 ∨ min (p.1 + 1) w.run = w.run := by omega
          omega
      · have h3 : max (p.1 - 1) (0 - w.rest) = p.1 - 1 ∨ max (p.1 - 1) (0 - w.rest) = 0 - w.rest := by omega
        omega
  · have hl : ((agesL w t c).length : Int) = (c.ages.length : Int) := by rw [agesL_len]
    show 0 ≤ markL w t c ∧ markL w t c ≤ if t then ((agesL w t c).length : Int) - 1 else 0
    rw [hl]
    have hm := h.mark
    have hp := h.alen.1
    have hpos : (0 : Int) < (c.ages.length : Int) := by omega
    unfold markL
    split
    · rename_i z q
      have h1 := Int.emod_nonneg (z + 1) (show (c.ages.length : Int) ≠ 0 by omega)
      have h2 := Int.emod_lt_of_pos (z + 1) hpos
      simp only [if_true]
      omega
    · exact hm
/-! ### data of crews, for == and in -/
theorem any_str {a b x : Str} : ([PyData.str a, .str b].any fun z => PyData.eqv z (.str x)) = ((a == x) || (b == x)) := by simp [PyData.eqv]
theorem any_crew {a b : Str} {c : Crew} : ([PyData.str a, .str b].any fun z => PyData.eqv z c.d) = false := by simp [PyData.eqv, Crew.d]
theorem lay_ints : ∀ ns : List Int, PyData.canLayAll0 (ns.map PyData.int) = true
  | [] => by simp [PyData.canLayAll0]
  | _ :: r => by simp [PyData.canLayAll0, PyData.canLay0, lay_ints r]
theorem dep_ints : ∀ ns : List Int, PyData.depthAll (ns.map PyData.int) = 0
  | [] => by simp [PyData.depthAll]
  | _ :: r => by simp [PyData.depthAll, PyData.depth, dep_ints r]
theorem lay_crew (c : Crew) : c.d.canLay0 = true := by simp [Crew.d, PyData.canLay0, PyData.canLayAll0, lay_ints]
theorem dep_crew (c : Crew) : c.d.depth = 2 := by simp [Crew.d, PyData.depth, PyData.depthAll, dep_ints]
theorem shaped_crew (c : Crew) : SeqAt.shaped c.d = true := by
  unfold SeqAt.shaped
  rw [lay_crew, dep_crew]
  decide
theorem lay_crews : ∀ cs : List Crew, PyData.canLayAll0 (cs.map Crew.d) = true
  | [] => by simp [PyData.canLayAll0]
  | c :: r => by simp [PyData.canLayAll0, lay_crew, lay_crews r]
theorem dep_crews : ∀ cs : List Crew, PyData.depthAll (cs.map Crew.d) ≤ 2
  | [] => by simp [PyData.depthAll]
  | c :: r => by
    have := dep_crews r
    rw [List.map_cons, PyData.depthAll, dep_crew]
    omega
theorem shaped_crews (cs : List Crew) : SeqAt.shaped (.list (cs.map Crew.d)) = true := by
  unfold SeqAt.shaped
  rw [PyData.canLay0, lay_crews, PyData.depth]
  have := dep_crews cs
  simp
  omega
theorem eqv_ints : ∀ {a b : List Int}, PyData.eqvAll (a.map PyData.int) (b.map PyData.int) = decide (a = b)
  | [], [] => by simp [PyData.eqvAll]
  | [], _ :: _ => by simp [PyData.eqvAll]
  | _ :: _, [] => by simp [PyData.eqvAll]
  | x :: a, y :: b => by
    simp only [List.map_cons, PyData.eqvAll, PyData.eqv, eqv_ints]
    by_cases h : x = y <;> by_cases h2 : a = b <;> simp [h, h2]
theorem eqv_crew {c c' : Crew} : PyData.eqv c.d c'.d = decide (c = c') := by
  obtain ⟨l, p, g, m⟩ := c
  obtain ⟨l', p', g', m'⟩ := c'
  simp only [Crew.d, PyData.eqv, PyData.eqvAll, eqv_ints, Crew.mk.injEq]
  by_cases h1 : l = l' <;> by_cases h2 : p = p' <;> by_cases h3 : g = g' <;> by_cases h4 : m = m' <;> simp [h1, h2, h3, h4]
theorem eqv_nil {ds : List PyData} : PyData.eqv (.list ds) (.list []) = ds.isEmpty := by
  cases ds <;> simp [PyData.eqv, PyData.eqvAll]
theorem eqv_nilT {ds : List PyData} : PyData.eqv (.tuple ds) (.tuple []) = ds.isEmpty := by
  cases ds <;> simp [PyData.eqv, PyData.eqvAll]
theorem shaped_nil : SeqAt.shaped (.list []) = true := by simp [SeqAt.shaped, PyData.canLay0, PyData.canLayAll0, PyData.depth, PyData.depthAll]
theorem shaped_nilT : SeqAt.shaped (.tuple []) = true := by simp [SeqAt.shaped, PyData.canLay0, PyData.canLayAll0, PyData.depth, PyData.depthAll]
theorem shaped_ints (ns : List Int) : SeqAt.shaped (.list (ns.map .int)) = true := by simp [SeqAt.shaped, PyData.canLay0, PyData.depth, lay_ints, dep_ints]
theorem shaped_intsT (ns : List Int) : SeqAt.shaped (.tuple (ns.map .int)) = true := by simp [SeqAt.shaped, PyData.canLay0, PyData.depth, lay_ints, dep_ints]
theorem shaped_words : SeqAt.shaped (.tuple [.str "over", .str "dry"]) = true := by decide +kernel
theorem shaped_rules : SeqAt.shaped (.tuple [.str "first", .str "turns"]) = true := by decide +kernel
theorem shaped_rule (t : Bool) : SeqAt.shaped (ruleD t) = true := by cases t <;> decide +kernel
end Pk
/-! W1 (printed by gen/mk.py) -/
namespace Pk
open PySem PySem.Spec PyProof.Rows L2 C8

local macro_rules | `(tactic| fail "x1") => `(tactic| (first
  | (guard_target =~ EX _ _ _ _ _; first
    | ((with_reducible apply ex_var); exact rfl)
    | with_reducible refine ex_int ?_
    | with_reducible refine ex_op ?_
    | with_reducible refine ex_cb ?_
    | with_reducible refine ex_str ?_
    | with_reducible refine ex_non ?_
    | with_reducible refine ex_bl ?_
    | with_reducible refine ex_ty ?_
    | with_reducible refine ex_call1 ?_
    | with_reducible refine ex_if ?_
    | with_reducible refine ex_and ?_
    | with_reducible refine ex_or ?_
    | with_reducible refine ex_not ?_
    | with_reducible refine ex_chain ?_
    | with_reducible refine ex_tup ?_
    | with_reducible refine ex_lst ?_
    | with_reducible refine ex_un ?_
    | with_reducible refine ex_slT ?_
    | fail "stop")
  | (guard_target =~ AX _ _ _ _ _; first
    | with_reducible refine ax_cons ?_
    | with_reducible refine ax_nil ?_
    | fail "stop")
  | (guard_target =~ SX _ _ _ _ _; first
    | with_reducible refine sx_seq ?_
    | with_reducible refine sx_set ?_
    | with_reducible refine sx_if ?_
    | with_reducible refine sx_ret ?_
    | with_reducible refine sx_next ?_
    | with_reducible refine sx_asg ?_
    | with_reducible refine sx_drop ?_
    | with_reducible refine sx_par ?_
    | with_reducible refine sx_par3 ?_
    | fail "stop")
  | (guard_target =~ TX _ _ _ _ _; first
    | with_reducible refine tx_b ?_
    | with_reducible refine tx_test ?_
    | with_reducible refine tx_and ?_
    | with_reducible refine tx_or ?_
    | with_reducible refine tx_not ?_
    | with_reducible refine tx_yes ?_
    | fail "stop")
  | (guard_target =~ RX _ _ _ _ _ _; first
    | with_reducible refine rx_add ?_
    | with_reducible refine rx_sub ?_
    | ((with_reducible apply rx_mod); (first | assumption | omega))
    | ((with_reducible apply rx_mul); (first | assumption | exact .inl ⟨by omega, by omega⟩))
    | with_reducible refine rx_lt ?_
    | with_reducible refine rx_le ?_
    | with_reducible refine rx_gt ?_
    | with_reducible refine rx_ge ?_
    | with_reducible refine rx_isN ?_
    | with_reducible refine rx_notN ?_
    | with_reducible refine rx_eqI ?_
    | with_reducible refine rx_neI ?_
    | with_reducible refine rx_eqS ?_
    | with_reducible refine rx_neS ?_
    | ((with_reducible apply rx_ix0); exact rfl; exact rfl)
    | ((with_reducible apply rx_ix1); exact rfl; exact rfl)
    | ((with_reducible apply rx_ix2); exact rfl; exact rfl)
    | ((with_reducible apply rx_ix3); exact rfl; exact rfl)
    | ((with_reducible apply rx_ix4); exact rfl; exact rfl)
    | ((with_reducible apply rx_ix5); exact rfl; exact rfl)
    | ((with_reducible apply rx_ix6); exact rfl; exact rfl)
    | ((with_reducible apply rx_ix7); exact rfl; exact rfl)
    | ((with_reducible apply rx_ix8); exact rfl; exact rfl)
    | ((with_reducible apply rx_ixL0); exact rfl; exact rfl)
    | ((with_reducible apply rx_ixL1); exact rfl; exact rfl)
    | fail "stop")
  | (guard_target =~ BX _ _ _ _ _; first
    | with_reducible refine bx_isInt ?_
    | with_reducible refine bx_isBool ?_
    | with_reducible refine bx_isStr ?_
    | with_reducible refine bx_isTup ?_
    | with_reducible refine bx_intI ?_
    | with_reducible refine bx_intB ?_
    | with_reducible refine bx_min2 ?_
    | with_reducible refine bx_max2 ?_
    | ((with_reducible apply bx_lenT); exact rfl)
    | ((with_reducible apply bx_lenL); exact rfl)
    | ((with_reducible apply bx_lenN); exact rfl)
    | fail "stop")
  | ((with_reducible apply gx_tup); exact rfl; exact rfl)
  | (guard_target =~ GsX _ _ _ _ _ _; first | refine gsx_cons ?_ | refine gsx_nil ?_ | fail "stop")
  | with_reducible refine gx_name ?_
  | with_reducible refine ox_some ?_
  | with_reducible refine ox_none ?_
  | with_reducible refine ux_neg ?_
  | refine ⟨_, rfl, Nat.le_of_ble_eq_true rfl, ?_⟩
  | refine ⟨_, _, rfl, ?_⟩
  | refine ⟨_, rfl, ?_⟩
  | refine ⟨rfl, (_, some _, some _), rfl, trivial, ?_⟩
  | refine ⟨rfl, (_, some _, none), rfl, trivial, ?_⟩
  | ((with_reducible intro c hc); subst hc)
  | dsimp only
  | fail "stop"))
local macro_rules | `(tactic| fail "xc") => `(tactic| (first | (refine ⟨fun hb => ?_, fun hb => ?_⟩ <;> first | exact Bool.noConfusion hb | skip) | fail "stop"))
local macro_rules | `(tactic| fail "xs") => `(tactic| repeat fail "x1")
local macro_rules | `(tactic| fail "xx") => `(tactic| repeat' (first | fail "x1" | fail "xc" | fail "stop"))

section
variable {P : Program} {w : World} {K : PySem.W.Frag} {mg : Str → Option Value} {base : Heap}
abbrev sp_is_whole : Spec := Sp1 (α := PyData × Option Int × Option Int) (fun x => [.dat x.1, .dat (oD x.2.1), .dat (oD x.2.2)]) (fun _ => True) fun x c => c = .dat (.bool (wholeB x.1 x.2.1 x.2.2))
theorem cal_is_whole {f : Addr} {fd : FuncData} (T : Tp mg) (F : Def K mg "is_whole" s_is_whole f fd) (B : Binds K fd ["thing", "least", "most"] [])  : Cal P w K mg base 1 "is_whole" (spX P w K sp_is_whole) [] := by
  refine cal0 F B .nil sc_is_whole (sp1_len fun x => rfl) (fun cdv A outer s H vs Q E hr h => ?_)
  refine ⟨_, (pss_cons (ps_if (PW.pt (pw_or (pt_not (pt_val (pe_callB call_isi (by rfl) T.b_isinstance bo_isinstance (pa_cons (pv 0) (pa_cons (pe_bltn (v := .ty "int") (u := .type "int") (by rfl) T.b_int bo_int rfl) pa_nil))))) (pw_or1 (pt_val (pe_callB call_isi (by rfl) T.b_isinstance bo_isinstance (pa_cons (pv 0) (pa_cons (pe_bltn (v := .ty "bool") (u := .type "bool") (by rfl) T.b_bool bo_bool rfl) pa_nil))))))) (pss_one (ps_ret pe_bl)) pss_nil) (pss_one (ps_ret (pe_and (pe_or (pe_cmpR op_isN (pv 1) pe_non (nomark _)) (pe_one (pe_cmpR op_ge (pv 0) (pv 1) (nomark _)))) (pe_one (pe_or (pe_cmpR op_isN (pv 2) pe_non (nomark _)) (pe_one (pe_cmpR op_le (pv 0) (pv 2) (nomark _))))))))), ?_⟩
  dsimp only [cxOf, L2.Cx.nox, L2.Cx.wish, L2.Cx.blk]
  refine enter1 h fun x hx => ?_
  change SX _ _ [_, _, _] [] _
  obtain ⟨d, lo, hi⟩ := x
  change SX _ _ [some (.dat d), some (.dat (oD lo)), some (.dat (oD hi))] [] _
  cases d with
  | int i =>
    cases lo <;> cases hi <;> fail "xx"
    all_goals refine ⟨trivial, ?_⟩
    all_goals first | (simp_all [wholeB]; done) | (simp_all [wholeB]; omega)
  | _ =>
    fail "xx"
    exact ⟨trivial, rfl⟩
abbrev sp_wrong_part : Spec := Sp1 (α := Well) (fun w => [.dat w.d]) Well.Ok fun _ c => c = .dat .none
theorem cal_wrong_part {f : Addr} {fd : FuncData} (T : Tp mg) (F : Def K mg "wrong_part" s_wrong_part f fd) (B : Binds K fd ["thing"] []) (c_is_whole : Cal P w K mg base 1 "is_whole" (spX P w K sp_is_whole) []) : Cal P w K mg base 2 "wrong_part" (spX P w K sp_wrong_part) [] := by
  refine cal0 F B .nil sc_wrong_part (sp1_len fun x => rfl) (fun cdv A outer s H vs Q E hr h => ?_)
  refine ⟨_, (pss_cons (ps_asg (pv 0) (pg_tup rfl (pgs_cons (pg_name (i := 1) sc_wrong_part.nd rfl (Or.inl rfl)) (pgs_cons (pg_name (i := 2) sc_wrong_part.nd rfl (Or.inl rfl)) (pgs_cons (pg_name (i := 3) sc_wrong_part.nd rfl (Or.inl rfl)) (pgs_cons (pg_name (i := 4) sc_wrong_part.nd rfl (Or.inl rfl)) (pgs_cons (pg_name (i := 5) sc_wrong_part.nd rfl (Or.inl rfl)) (pgs_cons (pg_name (i := 6) sc_wrong_part.nd rfl (Or.inl rfl)) (pgs_cons (pg_name (i := 7) sc_wrong_part.nd rfl (Or.inl rfl)) (pgs_cons (pg_name (i := 8) sc_wrong_part.nd rfl (Or.inl rfl)) (pgs_cons (pg_name (i := 9) sc_wrong_part.nd rfl (Or.inl rfl)) pgs_nil))))))))))) (pss_cons (ps_if (pt_not (pt_val (pe_c c_is_whole hr (by decide) (by rfl) (pa_cons (pv 1) (pa_cons pe_int (pa_cons (pe_gc (by rfl) T.g_MOST_TOP) pa_nil)))))) (pss_one (ps_ret pe_str)) pss_nil) (pss_cons (ps_if (pt_not (pt_val (pe_c c_is_whole hr (by decide) (by rfl) (pa_cons (pv 2) (pa_cons pe_int (pa_cons (pe_gc (by rfl) T.g_MOST_DRAIN) pa_nil)))))) (pss_one (ps_ret pe_str)) pss_nil) (pss_cons (ps_if (pt_not (pt_val (pe_c c_is_whole hr (by decide) (by rfl) (pa_cons (pv 3) (pa_cons pe_int (pa_cons (pv 1) pa_nil)))))) (pss_one (ps_ret pe_str)) pss_nil) (pss_cons (ps_if (pt_not (pt_val (pe_c c_is_whole hr (by decide) (by rfl) (pa_cons (pv 4) (pa_cons pe_int (pa_cons (pe_op op_sub (pv 3) pe_int) pa_nil)))))) (pss_one (ps_ret pe_str)) pss_nil) (pss_cons (ps_if (pt_not (pt_val (pe_c c_is_whole hr (by decide) (by rfl) (pa_cons (pv 5) (pa_cons pe_int (pa_cons (pe_gc (by rfl) T.g_MOST_AGE) pa_nil)))))) (pss_one (ps_ret pe_str)) pss_nil) (pss_cons (ps_if (pt_not (pt_val (pe_c c_is_whole hr (by decide) (by rfl) (pa_cons (pv 6) (pa_cons pe_int (pa_cons (pe_gc (by rfl) T.g_MOST_AGE) pa_nil)))))) (pss_one (ps_ret pe_str)) pss_nil) (pss_cons (ps_if (pt_not (pt_val (pe_c c_is_whole hr (by decide) (by rfl) (pa_cons (pv 7) (pa_cons pe_int (pa_cons (pe_gc (by rfl) T.g_MOST_STARTS) pa_nil)))))) (pss_one (ps_ret pe_str)) pss_nil) (pss_cons (ps_if (pt_not (pt_val (pe_c c_is_whole hr (by decide) (by rfl) (pa_cons (pv 8) (pa_cons pe_int (pa_cons (pe_gc (by rfl) T.g_MOST_STEP) pa_nil)))))) (pss_one (ps_ret pe_str)) pss_nil) (pss_one (ps_ret (pe_ifExp (pt_val (pe_c c_is_whole hr (by decide) (by rfl) (pa_cons (pv 9) (pa_cons pe_int (pa_cons (pe_gc (by rfl) T.g_MOST_LAG) pa_nil))))) pe_non pe_str)))))))))))), ?_⟩
  dsimp only [cxOf, L2.Cx.nox, L2.Cx.wish, L2.Cx.blk]
  refine enter1 h fun x hx => ?_
  change SX _ _ [_, none, none, none, none, none, none, none, none, none] [] _
  change SX _ _ [some (.dat x.d), none, none, none, none, none, none, none, none, none] [] _
  have t1 := whole_int hx.top
  have t2 := whole_int hx.drain
  have t3 := whole_int hx.on
  have t4 := whole_int hx.off
  have t5 := whole_int hx.run
  have t6 := whole_int hx.rest
  have t7 := whole_int hx.starts
  have t8 := whole_int hx.step
  have t9 := whole_int hx.lag
  fail "xx"
  all_goals first | exact ⟨trivial, rfl⟩ | (exfalso; simp_all; done)
abbrev sp_need_well : Spec := Sp1 (α := Well) (fun w => [.dat w.d]) Well.Ok fun w c => c = .dat w.d
theorem cal_need_well {f : Addr} {fd : FuncData} (T : Tp mg) (F : Def K mg "need_well" s_need_well f fd) (B : Binds K fd ["thing"] []) (c_wrong_part : Cal P w K mg base 2 "wrong_part" (spX P w K sp_wrong_part) []) : Cal P w K mg base 3 "need_well" (spX P w K sp_need_well) [] := by
  refine cal0 F B .nil sc_need_well (sp1_len fun x => rfl) (fun cdv A outer s H vs Q E hr h => ?_)
  refine ⟨_, (pss_cons (ps_if (PW.pt (pw_or (pt_not (pt_val (pe_callB call_isi (by rfl) T.b_isinstance bo_isinstance (pa_cons (pv 0) (pa_cons (pe_bltn (v := .ty "tuple") (u := .type "tuple") (by rfl) T.b_tuple bo_tuple rfl) pa_nil))))) (pw_or1 (pt_cmpR (op_neU (hu64 hr)) (pe_callB call_lenU (by rfl) T.b_len bo_len (pa_cons (pv 0) pa_nil)) pe_int (nomark _))))) (pss_one ps_never) pss_nil) (pss_cons (ps_set (i := 1) sc_need_well.nd rfl (Or.inl rfl) (pe_c c_wrong_part hr (by decide) (by rfl) (pa_cons (pv 0) pa_nil))) (pss_cons (ps_if (pt_cmpR op_notN (pv 1) pe_non (nomark _)) (pss_one ps_never) pss_nil) (pss_one (ps_ret (pv 0)))))), ?_⟩
  dsimp only [cxOf, L2.Cx.nox, L2.Cx.wish, L2.Cx.blk]
  refine enter1 h fun x hx => ?_
  change SX _ _ [_, none] [] _
  change SX _ _ [some (.dat x.d), none] [] _
  fail "xx"
  refine ⟨rfl, x, rfl, hx, ?_⟩
  fail "xx"
  exact ⟨trivial, rfl⟩
abbrev sp_seen_of : Spec := Sp1 (α := Well × Int × List Int) (fun x => [.dat x.1.d, .dat (.int x.2.1), .dat (.tuple (x.2.2.map .int))]) (fun x => x.1.Ok ∧ (x.1.lag > 0 → x.2.2 ≠ [])) fun x c => c = .dat (.int (seen x.1 x.2.1 x.2.2))
theorem cal_seen_of {f : Addr} {fd : FuncData} (T : Tp mg) (F : Def K mg "seen_of" s_seen_of f fd) (B : Binds K fd ["well", "level", "past"] [])  : Cal P w K mg base 1 "seen_of" (spX P w K sp_seen_of) [] := by
  refine cal0 F B .nil sc_seen_of (sp1_len fun x => rfl) (fun cdv A outer s H vs Q E hr h => ?_)
  refine ⟨_, (pss_cons (ps_set (i := 3) sc_seen_of.nd rfl (Or.inl rfl) (pe_ifExp (pt_cmpR op_gt (pe_ix (ix_u (hu16 hr)) (pv 0) pe_int (fun _ _ => rfl)) pe_int (nomark _)) (pe_ix (ix_u (hu16 hr)) (pv 2) pe_int (fun _ _ => rfl)) (pv 1))) (pss_one (ps_ret (pe_op op_sub (pv 3) (pe_op op_mod (pe_callTy call_int1 (by rfl) T.b_int bo_int (pa_cons (pv 3) pa_nil)) (pe_ix (ix_u (hu16 hr)) (pv 0) pe_int (fun _ _ => rfl))))))), ?_⟩
  dsimp only [cxOf, L2.Cx.nox, L2.Cx.wish, L2.Cx.blk]
  refine enter1 h fun x hx => ?_
  change SX _ _ [_, _, _, none] [] _
  obtain ⟨w0, level, past⟩ := x
  obtain ⟨ok, hp⟩ := hx
  change SX _ _ [some (.dat w0.d), some (.dat (.int level)), some (.dat (.tuple (past.map .int))), none] [] _
  dsimp only at ok hp
  have hs : 0 < w0.step := by have := ok.step; omega
  by_cases hl : w0.lag > 0
  · cases past with
    | nil => exact absurd rfl (hp hl)
    | cons a r =>
      fail "xx"
      all_goals first | (exfalso; simp_all; done) | (refine ⟨trivial, ?_⟩; simp [seen, hl])
  · fail "xs"
    refine ⟨fun hb => ?_, fun hb => ?_⟩
    · exact absurd (of_decide_eq_true hb) hl
    fail "xx"
    refine ⟨trivial, ?_⟩
    simp only [seen, if_neg hl]
end
end Pk
/-! W2 (printed by gen/mk.py) -/
namespace Pk
open PySem PySem.Spec PyProof.Rows L2 C8

local macro_rules | `(tactic| fail "x1") => `(tactic| (first
  | (guard_target =~ EX _ _ _ _ _; first
    | ((with_reducible apply ex_var); exact rfl)
    | with_reducible refine ex_int ?_
    | with_reducible refine ex_op ?_
    | with_reducible refine ex_cb ?_
    | with_reducible refine ex_str ?_
    | with_reducible refine ex_non ?_
    | with_reducible refine ex_bl ?_
    | with_reducible refine ex_ty ?_
    | with_reducible refine ex_call1 ?_
    | with_reducible refine ex_if ?_
    | with_reducible refine ex_and ?_
    | with_reducible refine ex_or ?_
    | with_reducible refine ex_not ?_
    | with_reducible refine ex_chain ?_
    | with_reducible refine ex_tup ?_
    | with_reducible refine ex_lst ?_
    | with_reducible refine ex_un ?_
    | with_reducible refine ex_slT ?_
    | fail "stop")
  | (guard_target =~ AX _ _ _ _ _; first
    | with_reducible refine ax_cons ?_
    | with_reducible refine ax_nil ?_
    | fail "stop")
  | (guard_target =~ SX _ _ _ _ _; first
    | with_reducible refine sx_seq ?_
    | with_reducible refine sx_set ?_
    | with_reducible refine sx_if ?_
    | with_reducible refine sx_ret ?_
    | with_reducible refine sx_next ?_
    | with_reducible refine sx_asg ?_
    | with_reducible refine sx_drop ?_
    | with_reducible refine sx_par ?_
    | with_reducible refine sx_par3 ?_
    | fail "stop")
  | (guard_target =~ TX _ _ _ _ _; first
    | with_reducible refine tx_b ?_
    | with_reducible refine tx_test ?_
    | with_reducible refine tx_and ?_
    | with_reducible refine tx_or ?_
    | with_reducible refine tx_not ?_
    | with_reducible refine tx_yes ?_
    | fail "stop")
  | (guard_target =~ RX _ _ _ _ _ _; first
    | with_reducible refine rx_add ?_
    | with_reducible refine rx_sub ?_
    | ((with_reducible apply rx_mod); (first | assumption | omega))
    | ((with_reducible apply rx_mul); (first | assumption | exact .inl ⟨by omega, by omega⟩))
    | with_reducible refine rx_lt ?_
    | with_reducible refine rx_le ?_
    | with_reducible refine rx_gt ?_
    | with_reducible refine rx_ge ?_
    | with_reducible refine rx_isN ?_
    | with_reducible refine rx_notN ?_
    | with_reducible refine rx_eqI ?_
    | with_reducible refine rx_neI ?_
    | with_reducible refine rx_eqRule ?_
    | with_reducible refine rx_eqS ?_
    | with_reducible refine rx_neS ?_
    | ((with_reducible apply rx_ix0); exact rfl; exact rfl)
    | ((with_reducible apply rx_ix1); exact rfl; exact rfl)
    | ((with_reducible apply rx_ix2); exact rfl; exact rfl)
    | ((with_reducible apply rx_ix3); exact rfl; exact rfl)
    | ((with_reducible apply rx_ix4); exact rfl; exact rfl)
    | ((with_reducible apply rx_ix5); exact rfl; exact rfl)
    | ((with_reducible apply rx_ix6); exact rfl; exact rfl)
    | ((with_reducible apply rx_ix7); exact rfl; exact rfl)
    | ((with_reducible apply rx_ix8); exact rfl; exact rfl)
    | ((with_reducible apply rx_ixL0); exact rfl; exact rfl)
    | ((with_reducible apply rx_ixL1); exact rfl; exact rfl)
    | fail "stop")
  | (guard_target =~ BX _ _ _ _ _; first
    | with_reducible refine bx_isInt ?_
    | with_reducible refine bx_isBool ?_
    | with_reducible refine bx_isStr ?_
    | with_reducible refine bx_isTup ?_
    | with_reducible refine bx_intI ?_
    | with_reducible refine bx_intB ?_
    | with_reducible refine bx_min2 ?_
    | with_reducible refine bx_max2 ?_
    | ((with_reducible apply bx_lenT); exact rfl)
    | ((with_reducible apply bx_lenL); exact rfl)
    | ((with_reducible apply bx_lenN); exact rfl)
    | fail "stop")
  | ((with_reducible apply gx_tup); exact rfl; exact rfl)
  | (guard_target =~ GsX _ _ _ _ _ _; first | refine gsx_cons ?_ | refine gsx_nil ?_ | fail "stop")
  | with_reducible refine gx_name ?_
  | with_reducible refine ox_some ?_
  | with_reducible refine ox_none ?_
  | with_reducible refine ux_neg ?_
  | refine ⟨_, rfl, Nat.le_of_ble_eq_true rfl, ?_⟩
  | refine ⟨_, _, rfl, ?_⟩
  | refine ⟨_, rfl, ?_⟩
  | refine ⟨rfl, (_, some _, some _), rfl, trivial, ?_⟩
  | refine ⟨rfl, (_, some _, none), rfl, trivial, ?_⟩
  | refine ⟨rfl, (_, _), rfl, by assumption, ?_⟩
  | refine ⟨rfl, (_, _, _), rfl, by assumption, ?_⟩
  | refine ⟨rfl, (_, _, _, _), rfl, by assumption, ?_⟩
  | ((with_reducible intro c hc); subst hc)
  | refine ⟨fun hb => Bool.noConfusion hb, fun _ => ?_⟩
  | refine ⟨fun _ => ?_, fun hb => Bool.noConfusion hb⟩
  | dsimp only
  | fail "stop"))
local macro_rules | `(tactic| fail "xc") => `(tactic| (first | (refine ⟨fun hb => ?_, fun hb => ?_⟩ <;> first | exact Bool.noConfusion hb | skip) | fail "stop"))
local macro_rules | `(tactic| fail "xs") => `(tactic| repeat fail "x1")
local macro_rules | `(tactic| fail "xx") => `(tactic| repeat' (first | fail "x1" | fail "xc" | fail "stop"))

section
variable {P : Program} {w : World} {K : PySem.W.Frag} {mg : Str → Option Value} {base : Heap}
abbrev sp_need_rule : Spec := Sp1 (α := Bool) (fun t => [.dat (ruleD t)]) (fun _ => True) fun _ c => c = .dat .none
theorem cal_need_rule {f : Addr} {fd : FuncData} (T : Tp mg) (F : Def K mg "need_rule" s_need_rule f fd) (B : Binds K fd ["rule"] [])  : Cal P w K mg base 1 "need_rule" (spX P w K sp_need_rule) [] := by
  refine cal0 F B .nil sc_need_rule (sp1_len fun x => rfl) (fun cdv A outer s H vs Q E hr h => ?_)
  refine ⟨_, (pss_one (ps_if (PW.pt (pw_or (pt_not (pt_val (pe_callB (r := rIsi K) call_isi (by rfl) T.b_isinstance bo_isinstance (pa_cons (pv 0) (pa_cons (pe_bltn (v := .ty "str") (u := .type "str") (by rfl) T.b_str bo_str rfl) pa_nil))))) (pw_or1 (pt_cmpR (r := rInU K P w true) (op_notInU (hu65 hr)) (pv 0) (pe_tupP (pa_cons (pe_gc (by rfl) T.g_FIRST) (pa_cons (pe_gc (by rfl) T.g_TURNS) pa_nil))) (by rfl))))) (pss_one ps_never) pss_nil)), ?_⟩
  try dsimp only [cxOf, L2.Cx.nox, L2.Cx.wish, L2.Cx.blk]
  refine enter1 h fun x hx => ?_
  change SX _ _ [_] [] _
  change SX _ _ [some (.dat (ruleD x))] [] _
  unfold ruleD
  fail "xx"
  refine rx_notInT rfl rfl (shaped_rule x) shaped_rules ?_
  rw [any_str]
  fail "xx"
  exfalso
  rename_i hb
  cases x <;> exact absurd hb (by decide)
abbrev sp_is_age : Spec := Sp1 (α := Well × PyData) (fun x => [.dat x.1.d, .dat x.2]) (fun x => x.1.Ok) fun x c => c = .dat (.bool (ageB x.1 x.2))
theorem cal_is_age {f : Addr} {fd : FuncData} (T : Tp mg) (F : Def K mg "is_age" s_is_age f fd) (B : Binds K fd ["well", "thing"] []) (c_is_whole : Cal P w K mg base 1 "is_whole" (spX P w K sp_is_whole) []) : Cal P w K mg base 2 "is_age" (spX P w K sp_is_age) [] := by
  refine cal0 F B .nil sc_is_age (sp1_len fun x => rfl) (fun cdv A outer s H vs Q E hr h => ?_)
  refine ⟨_, (pss_one (ps_ret (pe_and (pe_c c_is_whole hr (by decide) (by rfl) (pa_cons (pv 1) (pa_cons (pe_op op_sub pe_int (pe_ix (r := rIxU K P w) (ix_u (hu16 hr)) (pv 0) pe_int (fun _ _ => rfl))) (pa_cons (pe_ix (r := rIxU K P w) (ix_u (hu16 hr)) (pv 0) pe_int (fun _ _ => rfl)) pa_nil)))) (pe_one (pe_cmpR (r := rNeU K) (op_neU (hu64 hr)) (pv 1) pe_int (nomark _)))))), ?_⟩
  try dsimp only [cxOf, L2.Cx.nox, L2.Cx.wish, L2.Cx.blk]
  refine enter1 h fun x hx => ?_
  change SX _ _ [_, _] [] _
  obtain ⟨w0, d⟩ := x
  change SX _ _ [some (.dat w0.d), some (.dat d)] [] _
  cases d with
  | int i =>
    fail "xx"
    · rename_i hb
      refine ⟨trivial, ?_⟩
      have e : ageB w0 (.int i) = (wholeB (.int i) (some (0 - w0.rest)) (some w0.run) && !decide (i = 0)) := rfl
      rw [e]
      simp_all
    · rename_i hb
      refine ⟨trivial, ?_⟩
      have e : ageB w0 (.int i) = (wholeB (.int i) (some (0 - w0.rest)) (some w0.run) && !decide (i = 0)) := rfl
      rw [e]
      simp_all
  | _ =>
    fail "xx"
    all_goals exact ⟨trivial, rfl⟩
abbrev sp_is_past : Spec := Sp1 (α := Well × PyData) (fun x => [.dat x.1.d, .dat x.2]) (fun x => x.1.Ok) fun x c => c = .dat (.bool (pastB x.1 x.2))
theorem cal_is_past {f : Addr} {fd : FuncData} (T : Tp mg) (F : Def K mg "is_past" s_is_past f fd) (B : Binds K fd ["well", "thing"] []) (c_is_whole : Cal P w K mg base 1 "is_whole" (spX P w K sp_is_whole) []) : Cal P w K mg base 2 "is_past" (spX P w K sp_is_past) [] := by
  refine cal0 F B .nil sc_is_past (sp1_len fun x => rfl) (fun cdv A outer s H vs Q E hr h => ?_)
  refine ⟨_, (pss_one (ps_ret (pe_and (pe_callB (r := rIsi K) call_isi (by rfl) T.b_isinstance bo_isinstance (pa_cons (pv 1) (pa_cons (pe_bltn (v := .ty "tuple") (u := .type "tuple") (by rfl) T.b_tuple bo_tuple rfl) pa_nil))) (pe_and (pe_cmpR (r := rEqU K) (op_eqU (hu64 hr)) (pe_callB (r := rLenU K P w) call_lenU (by rfl) T.b_len bo_len (pa_cons (pv 1) pa_nil)) (pe_ix (r := rIxU K P w) (ix_u (hu16 hr)) (pv 0) pe_int (fun _ _ => rfl)) (nomark _)) (pe_one (pe_callB (r := rAll K) (cr_all rfl) (by rfl) T.b_all bo_all (pa_cons (pe_frz (pe_lc (own := [("one", 2)]) (g := (gName 2)) rfl sc_is_past.nd (pi_tup (pv 1)) (blkOk_by (N := N_is_past) (sc := fnScope s_is_past) (by decide +kernel)) (fun _ _ _ _ _ => (pg_name (i := 2) sc_is_past.nd rfl (Or.inl rfl))) (fun _ _ _ _ _ => pts_nil) (fun _ _ _ _ _ => (pe_c c_is_whole hr (by decide) (by rfl) (pa_cons (pv 2) (pa_cons pe_int (pa_cons (pe_ix (r := rIxU K P w) (ix_u (hu16 hr)) (pv 0) pe_int (fun _ _ => rfl)) pa_nil))))))) pa_nil))))))), ?_⟩
  try dsimp only [cxOf, L2.Cx.nox, L2.Cx.wish, L2.Cx.blk]
  refine enter1 h fun x hx => ?_
  change SX _ _ [_, _, none] [] _
  obtain ⟨w0, d⟩ := x
  dsimp only at hx
  change SX _ _ [some (.dat w0.d), some (.dat d), none] [] _
  cases d with
  | tuple ds =>
    fail "xx"
    · rename_i hb
      have hl : (ds.length : Int) = w0.lag := of_decide_eq_true hb
      have hz := hx.lag
      refine ex_lcM (tg_name (by decide)) (ix_tup (ex_var rfl ⟨ds, rfl, rfl, onD fun d => .bool (wholeB d (some 0) (some w0.top)), ?_, ?_, ?_⟩))
      · rw [List.length_map]; exact small (k := 3) (by omega) rfl
      · refine each_dat fun i d acc e => gx_name ?_
        change EX _ _ [_, _, _] _ _
        fail "xx"
        exact ⟨rfl, rfl⟩
      · rw [map_onD]
        fail "xs"
        refine bx_all (bs := ds.map fun d => wholeB d (some 0) (some w0.top)) (by show some _ = some _; rw [List.map_map]; rfl) ⟨trivial, ?_⟩
        congr 2
        simp [pastB, hl, List.all_map, Function.comp_def]
    · rename_i hb
      refine ⟨trivial, ?_⟩
      have hl : ¬ (ds.length : Int) = w0.lag := of_decide_eq_false hb
      congr 2
      simp [pastB, hl]
  | _ =>
    fail "xx"
    all_goals exact ⟨trivial, rfl⟩
abbrev sp_is_crew_of : Spec := Sp1 (α := Well × Bool × PyData) (fun x => [.dat x.1.d, .dat (ruleD x.2.1), .dat x.2.2]) (fun x => x.1.Ok) fun x c => c = .dat (.bool (crewB x.1 x.2.1 x.2.2))
theorem cal_is_crew_of {f : Addr} {fd : FuncData} (T : Tp mg) (F : Def K mg "is_crew_of" s_is_crew_of f fd) (B : Binds K fd ["well", "rule", "thing"] []) (c_is_whole : Cal P w K mg base 1 "is_whole" (spX P w K sp_is_whole) []) (c_is_past : Cal P w K mg base 2 "is_past" (spX P w K sp_is_past) []) (c_is_age : Cal P w K mg base 2 "is_age" (spX P w K sp_is_age) []) : Cal P w K mg base 3 "is_crew_of" (spX P w K sp_is_crew_of) [] := by
  refine cal0 F B .nil sc_is_crew_of (sp1_len fun x => rfl) (fun cdv A outer s H vs Q E hr h => ?_)
  refine ⟨_, (pss_cons (ps_if (PW.pt (pw_or (pt_not (pt_val (pe_callB (r := rIsi K) call_isi (by rfl) T.b_isinstance bo_isinstance (pa_cons (pv 2) (pa_cons (pe_bltn (v := .ty "tuple") (u := .type "tuple") (by rfl) T.b_tuple bo_tuple rfl) pa_nil))))) (pw_or (pt_cmpR (r := rNeU K) (op_neU (hu64 hr)) (pe_callB (r := rLenU K P w) call_lenU (by rfl) T.b_len bo_len (pa_cons (pv 2) pa_nil)) pe_int (nomark _)) (pw_or1 (pt_not (pt_val (pe_c c_is_whole hr (by decide) (by rfl) (pa_cons (pe_ix (r := rIxU K P w) (ix_u (hu16 hr)) (pv 2) pe_int (fun _ _ => rfl)) (pa_cons pe_int (pa_cons (pe_ix (r := rIxU K P w) (ix_u (hu16 hr)) (pv 0) pe_int (fun _ _ => rfl)) pa_nil)))))))))) (pss_one (ps_ret pe_bl)) pss_nil) (pss_cons (ps_if (PW.pt (pw_or (pt_not (pt_val (pe_c c_is_past hr (by decide) (by rfl) (pa_cons (pv 0) (pa_cons (pe_ix (r := rIxU K P w) (ix_u (hu16 hr)) (pv 2) pe_int (fun _ _ => rfl)) pa_nil))))) (pw_or (pt_not (pt_val (pe_callB (r := rIsi K) call_isi (by rfl) T.b_isinstance bo_isinstance (pa_cons (pe_ix (r := rIxU K P w) (ix_u (hu16 hr)) (pv 2) pe_int (fun _ _ => rfl)) (pa_cons (pe_bltn (v := .ty "tuple") (u := .type "tuple") (by rfl) T.b_tuple bo_tuple rfl) pa_nil))))) (pw_or1 (pt_not (pt_chain op_le op_le pe_int (pe_callB (r := rLenU K P w) call_lenU (by rfl) T.b_len bo_len (pa_cons (pe_ix (r := rIxU K P w) (ix_u (hu16 hr)) (pv 2) pe_int (fun _ _ => rfl)) pa_nil)) (pe_gc (by rfl) T.g_MOST_PUMPS))))))) (pss_one (ps_ret pe_bl)) pss_nil) (pss_cons (ps_if (pt_not (pt_val (pe_callB (r := rAll K) (cr_all rfl) (by rfl) T.b_all bo_all (pa_cons (pe_frz (pe_lc (own := [("age", 3)]) (g := (gName 3)) rfl sc_is_crew_of.nd (pi_tup (pe_ix (r := rIxU K P w) (ix_u (hu16 hr)) (pv 2) pe_int (fun _ _ => rfl))) (blkOk_by (N := N_is_crew_of) (sc := fnScope s_is_crew_of) (by decide +kernel)) (fun _ _ _ _ _ => (pg_name (i := 3) sc_is_crew_of.nd rfl (Or.inl rfl))) (fun _ _ _ _ _ => pts_nil) (fun _ _ _ _ _ => (pe_c c_is_age hr (by decide) (by rfl) (pa_cons (pv 0) (pa_cons (pv 3) pa_nil)))))) pa_nil)))) (pss_one (ps_ret pe_bl)) pss_nil) (pss_one (ps_ret (pe_c c_is_whole hr (by decide) (by rfl) (pa_cons (pe_ix (r := rIxU K P w) (ix_u (hu16 hr)) (pv 2) pe_int (fun _ _ => rfl)) (pa_cons pe_int (pa_cons (pe_ifExp (pt_cmpR (r := rEqU K) (op_eqU (hu64 hr)) (pv 1) (pe_gc (by rfl) T.g_TURNS) (nomark _)) (pe_op op_sub (pe_callB (r := rLenU K P w) call_lenU (by rfl) T.b_len bo_len (pa_cons (pe_ix (r := rIxU K P w) (ix_u (hu16 hr)) (pv 2) pe_int (fun _ _ => rfl)) pa_nil)) pe_int) pe_int) pa_nil))))))))), ?_⟩
  try dsimp only [cxOf, L2.Cx.nox, L2.Cx.wish, L2.Cx.blk]
  refine enter1 h fun x hx => ?_
  change SX _ _ [_, _, _, none] [] _
  obtain ⟨w0, t, d⟩ := x
  dsimp only at hx
  change SX _ _ [some (.dat w0.d), some (.dat (ruleD t)), some (.dat d), none] [] _
  cases d with
  | tuple ds =>
    match ds with
    | [a, b, g, m] =>
      by_cases hg : isT g = true
      · cases g with
        | tuple gs =>
          fail "xx"
          · (refine ⟨trivial, ?_⟩; rw [crewB_eq]; simp only [Bool.not_eq_true', Bool.not_eq_false'] at *; simp only [*, Bool.and_false, Bool.false_and, Bool.and_true, Bool.true_and])
          · (refine ⟨trivial, ?_⟩; rw [crewB_eq]; simp only [Bool.not_eq_true', Bool.not_eq_false'] at *; simp only [*, Bool.and_false, Bool.false_and, Bool.and_true, Bool.true_and])
          · (refine ⟨trivial, ?_⟩; rw [crewB_eq]; simp only [Bool.not_eq_true', Bool.not_eq_false'] at *; simp only [*, Bool.and_false, Bool.false_and, Bool.and_true, Bool.true_and])
          · rename_i h6
            have h6' : (gs.length : Int) ≤ 6 := by
              simp only [Bool.not_eq_false'] at h6
              exact of_decide_eq_true h6
            refine ex_lcM (tg_name (by decide)) (ix_tup ?_)
            fail "xs"
            refine ⟨rfl, onD fun d => .bool (ageB w0 d), ?_, ?_, ?_⟩
            · rw [List.length_map]; exact small (k := 6) (by omega) rfl
            · refine each_dat fun i d acc e => gx_name ?_
              change EX _ _ [_, _, _, _] _ _
              fail "xx"
              exact ⟨rfl, rfl⟩
            · rw [map_onD]
              fail "xs"
              refine bx_all (bs := gs.map (ageB w0)) (by show some _ = some _; rw [List.map_map]; rfl) ?_
              have ea : (gs.map (ageB w0)).all id = gs.all (ageB w0) := by rw [List.all_map]; rfl
              rw [ea]
              fail "xx"
              all_goals (refine ⟨trivial, ?_⟩; rw [crewB_eq]; simp only [Bool.not_eq_true', Bool.not_eq_false'] at *; simp only [*, Bool.and_false, Bool.false_and, Bool.and_true, Bool.true_and])
              all_goals rfl
          · (refine ⟨trivial, ?_⟩; rw [crewB_eq]; simp only [Bool.not_eq_true', Bool.not_eq_false'] at *; simp only [*, Bool.and_false, Bool.false_and, Bool.and_true, Bool.true_and])
        | _ => cases hg
      · have e : crewB w0 t (.tuple [a, b, g, m]) = false := by
          cases g <;> first | rfl | exact absurd rfl hg
        have hg' : isT g = false := by cases h : isT g with
          | true => exact absurd h hg
          | false => rfl
        rw [e]
        clear hg
        fail "xx"
        all_goals first | exact ⟨trivial, rfl⟩ | (exfalso; simp_all; done)
    | [] => fail "xx"; exact ⟨trivial, rfl⟩
    | [_] => fail "xx"; exact ⟨trivial, rfl⟩
    | [_, _] => fail "xx"; exact ⟨trivial, rfl⟩
    | [_, _, c] => fail "xx"; exact ⟨trivial, by cases c <;> rfl⟩
    | _ :: _ :: c :: _ :: x :: r =>
      fail "xs"
      exact ⟨trivial, by cases c <;> rfl⟩
  | _ =>
    fail "xx"
    all_goals exact ⟨trivial, rfl⟩
abbrev sp_is_crew : Spec := Sp1 (α := Well × Bool × PyData) (fun x => [.dat x.1.d, .dat (ruleD x.2.1), .dat x.2.2]) (fun x => x.1.Ok) fun x c => c = .dat (.bool (crewB x.1 x.2.1 x.2.2))
theorem cal_is_crew {f : Addr} {fd : FuncData} (T : Tp mg) (F : Def K mg "is_crew" s_is_crew f fd) (B : Binds K fd ["well", "rule", "value"] []) (c_need_well : Cal P w K mg base 3 "need_well" (spX P w K sp_need_well) []) (c_need_rule : Cal P w K mg base 1 "need_rule" (spX P w K sp_need_rule) []) (c_is_crew_of : Cal P w K mg base 3 "is_crew_of" (spX P w K sp_is_crew_of) []) : Cal P w K mg base 4 "is_crew" (spX P w K sp_is_crew) [] := by
  refine cal0 F B .nil sc_is_crew (sp1_len fun x => rfl) (fun cdv A outer s H vs Q E hr h => ?_)
  refine ⟨_, (pss_cons (ps_expr (pe_c c_need_well hr (by decide) (by rfl) (pa_cons (pv 0) pa_nil))) (pss_cons (ps_expr (pe_c c_need_rule hr (by decide) (by rfl) (pa_cons (pv 1) pa_nil))) (pss_one (ps_ret (pe_c c_is_crew_of hr (by decide) (by rfl) (pa_cons (pv 0) (pa_cons (pv 1) (pa_cons (pv 2) pa_nil)))))))), ?_⟩
  try dsimp only [cxOf, L2.Cx.nox, L2.Cx.wish, L2.Cx.blk]
  refine enter1 h fun x hx => ?_
  change SX _ _ [_, _, _] [] _
  obtain ⟨w0, t, d⟩ := x
  dsimp only at hx
  change SX _ _ [some (.dat w0.d), some (.dat (ruleD t)), some (.dat d)] [] _
  fail "xs"
  refine ⟨rfl, w0, rfl, hx, ?_⟩
  fail "xs"
  refine ⟨rfl, t, rfl, trivial, ?_⟩
  fail "xs"
  exact ⟨trivial, rfl⟩
abbrev sp_need_crew : Spec := Sp1 (α := Well × Bool × Crew) (fun x => [.dat x.1.d, .dat (ruleD x.2.1), .dat x.2.2.d]) (fun x => x.1.Ok ∧ x.2.2.Ok x.1 x.2.1) fun _ c => c = .dat .none
theorem cal_need_crew {f : Addr} {fd : FuncData} (T : Tp mg) (F : Def K mg "need_crew" s_need_crew f fd) (B : Binds K fd ["well", "rule", "crew"] []) (c_need_well : Cal P w K mg base 3 "need_well" (spX P w K sp_need_well) []) (c_need_rule : Cal P w K mg base 1 "need_rule" (spX P w K sp_need_rule) []) (c_is_crew_of : Cal P w K mg base 3 "is_crew_of" (spX P w K sp_is_crew_of) []) : Cal P w K mg base 4 "need_crew" (spX P w K sp_need_crew) [] := by
  refine cal0 F B .nil sc_need_crew (sp1_len fun x => rfl) (fun cdv A outer s H vs Q E hr h => ?_)
  refine ⟨_, (pss_cons (ps_expr (pe_c c_need_well hr (by decide) (by rfl) (pa_cons (pv 0) pa_nil))) (pss_cons (ps_expr (pe_c c_need_rule hr (by decide) (by rfl) (pa_cons (pv 1) pa_nil))) (pss_one (ps_if (pt_not (pt_val (pe_c c_is_crew_of hr (by decide) (by rfl) (pa_cons (pv 0) (pa_cons (pv 1) (pa_cons (pv 2) pa_nil)))))) (pss_one ps_never) pss_nil)))), ?_⟩
  try dsimp only [cxOf, L2.Cx.nox, L2.Cx.wish, L2.Cx.blk]
  refine enter1 h fun x hx => ?_
  change SX _ _ [_, _, _] [] _
  obtain ⟨w0, t, c0⟩ := x
  obtain ⟨ok, hc⟩ := hx
  dsimp only at ok hc
  change SX _ _ [some (.dat w0.d), some (.dat (ruleD t)), some (.dat c0.d)] [] _
  fail "xs"
  refine ⟨rfl, w0, rfl, ok, ?_⟩
  fail "xs"
  refine ⟨rfl, t, rfl, trivial, ?_⟩
  fail "xs"
  refine ⟨fun hb => ?_, fun hb => ?_⟩
  · exfalso
    have hb' : (!crewB w0 t c0.d) = true := hb
    rw [crew_ok hc] at hb'
    exact Bool.noConfusion hb'
  fail "xs"
end
end Pk
/-! Pk, part T: new lists that are frozen at once; walks by forms. -/
namespace Pk
open PySem PySem.Spec PyProof.Rows L2 C8
section
variable {C : Kx} {os : List OV} {γ : List (Option Cl)} {R : Cl → List OV → Prop} {te ta : TE} {wi : TI} {g : TG} {tt : TT} {vs : List Nat} {t : TA}
theorem last_lst (os : List OV) (ds : List PyData) : (os ++ [OV.lst ds])[os.length]? = some (.lst ds) := by rw [List.getElem?_append_right (Nat.le_refl _), Nat.sub_self]; rfl
theorem ex_frzL (h : AX C t γ os fun cs os1 => ∃ ds, dts cs = some ds ∧ ds.length ≤ sizeLine ∧ os1 = os ∧ R (.dat (.list ds)) os) : EX C (tFrz (tLst t)) γ os R :=
  ex_frzT (ex_lst fun as H σ Q r s k => h as H σ Q r s fun cs os' as' H' vs r' l' hv ⟨ds, e, hz, eo, q⟩ => k cs os' as' H' vs r' l' hv ⟨ds, e, hz, by
    subst eo
    exact ⟨_, ds, rfl, Nat.le_refl _, last_lst _ _, List.take_left, q⟩⟩)
theorem ex_frzRg (h : EX C ta γ os fun c os1 => ∃ n : Nat, c = .dat (.int n) ∧ n ≤ 1000 ∧ os1 = os ∧ R (.dat (.list ((List.range n).map fun (i : Nat) => .int i))) os) : EX C (tFrz (tLstRg (tRg1 ta))) γ os R := fun as H σ Q r s kk =>
  h as H σ _ r s fun c os1 as1 H1 x r1 l1 hx ⟨n, e, hn, eo, q⟩ => by
    subst e eo
    refine ⟨n, cv_intE hx, ?_⟩
    have key : EX C (tFrz (tLstRg fun σ' H' Q' => Q' 0 n H')) γ os1 R := ex_frzT (ex_lstRg (n := n) (fun as H σ Q r s q => q) hn ⟨_, _, rfl, Nat.le_refl _, last_lst _ _, List.take_left, q⟩)
    exact key as1 H1 σ Q r1 (s.mono l1) (Kt.from_ kk l1)
theorem ex_frzSl {tl th : TO} (h : EX C te γ os fun c os1 => OX C tl γ os1 fun lo os2 => OX C th γ os2 fun hi os3 => ∃ ds, lsOf os3 c = some ds ∧ os3 = os ∧ R (.dat (.list (cutD ds lo hi))) os) : EX C (tFrz (tSl (rSlL C.K) te tl th)) γ os R :=
  ex_frzT (ex_slL fun as H σ Q r s k => h as H σ Q r s fun c os' as' H' v r' l' hv q => k c os' as' H' v r' l' hv fun as H σ Q r s k => q as H σ Q r s fun lo os2 as2 H2 r2 l2 q2 => k lo os2 as2 H2 r2 l2 fun as H σ Q r s k => q2 as H σ Q r s fun hi os3 as3 H3 r3 l3 ⟨ds, e, eo, q3⟩ => k hi os3 as3 H3 r3 l3 ⟨ds, e, by
    subst eo
    exact ⟨_, _, rfl, Nat.le_refl _, last_lst _ _, List.take_left, q3⟩⟩)
theorem ex_frzRev (h : EX C te γ os fun c os1 => ∃ ds, lsOf os1 c = some ds ∧ os1 = os ∧ R (.dat (.list ds.reverse)) os) : EX C (tFrz (tRevU C.K te)) γ os R :=
  ex_frzT (ex_revL (EX.imp h fun c os1 ⟨ds, e, eo, q⟩ => ⟨ds, e, by
    subst eo
    exact ⟨_, _, rfl, Nat.le_refl _, last_lst _ _, List.take_left, q⟩⟩))
/-- a built-in that makes a list -/
theorem ex_frzB {r : List V → Hp → VK → Prop} (h : AX C t γ os fun cs os1 => os1 = os ∧ ∃ P : List PyData → Prop, BX C r cs os (fun c os2 => ∃ ds, c = .own os.length ∧ os2 = os ++ [.lst ds] ∧ P ds) ∧ ∀ ds, P ds → R (.dat (.list ds)) os) : EX C (tFrz (tCB r t)) γ os R :=
  ex_frzT (ex_cb fun as H σ Q r s k => h as H σ Q r s fun cs os' as' H' vs r' l' hv ⟨eo, P, hb, hp⟩ => k cs os' as' H' vs r' l' hv (by
    subst eo
    exact fun as H xs Q r hx kk => hb as H xs Q r hx fun c os2 as2 H2 v r2 l2 hc ⟨ds, e1, e2, q⟩ => kk c os2 as2 H2 v r2 l2 hc (by
      subst e1 e2
      exact ⟨_, ds, rfl, Nat.le_refl _, last_lst _ _, List.take_left, hp ds q⟩)))
def onI (f : Int → PyData) : Cl → PyData
  | .dat (.int i) => f i
  | _ => .none
theorem map_onI {f : Int → PyData} {lo : Int} (n : Nat) : (rngC lo n).map (onI f) = (List.range n).map fun (i : Nat) => f (lo + i) := by unfold rngC; rw [List.map_map]; rfl
theorem cut_to {ds : List PyData} {n : Int} (h : 0 ≤ n) : cutD ds none (some n) = ds.take n.toNat := by
  obtain ⟨k, rfl⟩ := Int.eq_ofNat_of_zero_le h
  unfold cutD
  rw [HT.sIx_none, HT.sIx_nat, List.drop_zero, Nat.sub_zero]
  by_cases q : k ≤ ds.length
  · rw [Nat.min_eq_left q]; rfl
  · rw [Nat.min_eq_right (by omega), List.take_length, List.take_of_length_le (by simp; omega)]
theorem cut_from {ds : List PyData} {n : Int} (h : 0 ≤ n) : cutD ds (some n) none = ds.drop n.toNat := by
  obtain ⟨k, rfl⟩ := Int.eq_ofNat_of_zero_le h
  unfold cutD
  rw [HT.sIx_none, HT.sIx_nat]
  by_cases q : k ≤ ds.length
  · rw [Nat.min_eq_left q, List.take_of_length_le (by rw [List.length_drop]; omega)]; rfl
  · rw [Nat.min_eq_right (by omega), Nat.sub_self, List.take_zero, List.drop_eq_nil_of_le (by simp; omega)]
theorem atI_int {ns : List Int} {n : Int} (h0 : 0 ≤ n) (h : n < (ns.length : Int)) : atI (ns.map PyData.int) n = some (.int (ns.getD n.toNat 0)) := by
  obtain ⟨k, rfl⟩ := Int.eq_ofNat_of_zero_le h0
  have hk : k < ns.length := by omega
  refine atI_at ?_
  rw [List.getElem?_map, List.getElem?_eq_getElem hk, Int.toNat_natCast, List.getD_eq_getElem?_getD, List.getElem?_eq_getElem hk]
  rfl
end
theorem enum_at {ds : List PyData} {i : Nat} {c : Cl} (e : (enumC ds)[i]? = some c) : ∃ d, ds[i]? = some d ∧ c = .lt [.int (i : Nat), d] := by
  unfold enumC at e
  rw [List.getElem?_map, List.getElem?_zipIdx] at e
  obtain ⟨p, e1, rfl⟩ := Option.map_eq_some_iff.mp e
  obtain ⟨d, e2, rfl⟩ := Option.map_eq_some_iff.mp e1
  exact ⟨d, e2, by simp⟩
theorem rng_at {lo : Int} {n i : Nat} {c : Cl} (e : (rngC lo n)[i]? = some c) : i < n ∧ c = .dat (.int (lo + (i : Nat))) := by
  unfold rngC at e
  rw [List.getElem?_map] at e
  obtain ⟨d, e1, rfl⟩ := Option.map_eq_some_iff.mp e
  obtain ⟨h1, h2⟩ := List.getElem?_eq_some_iff.mp e1
  rw [List.getElem_range] at h2
  subst h2
  rw [List.length_range] at h1
  exact ⟨h1, rfl⟩
theorem dat_at {ds : List PyData} {i : Nat} {c : Cl} (e : (ds.map Cl.dat)[i]? = some c) : ∃ d, ds[i]? = some d ∧ c = .dat d := by
  rw [List.getElem?_map] at e
  obtain ⟨d, e1, rfl⟩ := Option.map_eq_some_iff.mp e
  exact ⟨d, e1, rfl⟩
theorem map_at {α : Type} {f : α → PyData} {l : List α} {i : Nat} {d : PyData} (e : (l.map f)[i]? = some d) : ∃ x, l[i]? = some x ∧ d = f x := by
  rw [List.getElem?_map] at e
  obtain ⟨x, e1, rfl⟩ := Option.map_eq_some_iff.mp e
  exact ⟨x, e1, rfl⟩
theorem enumC_len (ds : List PyData) : (enumC ds).length = ds.length := by unfold enumC; rw [List.length_map, List.length_zipIdx]
theorem rngC_len (lo : Int) (n : Nat) : (rngC lo n).length = n := by unfold rngC; rw [List.length_map, List.length_range]
theorem take_map_succ {α β : Type} {l : List α} {f : α → β} {i : Nat} {x : α} (h : l[i]? = some x) : (l.take (i + 1)).map f = (l.take i).map f ++ [f x] := by
  rw [List.take_add_one, h, List.map_append]; rfl
end Pk
/-! W3 (printed by gen/mk.py) -/
namespace Pk
open PySem PySem.Spec PyProof.Rows L2 C8

local macro_rules | `(tactic| fail "x1") => `(tactic| (first
  | (guard_target =~ EX _ _ _ _ _; first
    | ((with_reducible apply ex_var); exact rfl)
    | with_reducible refine ex_int ?_
    | with_reducible refine ex_op ?_
    | with_reducible refine ex_cb ?_
    | with_reducible refine ex_str ?_
    | with_reducible refine ex_non ?_
    | with_reducible refine ex_bl ?_
    | with_reducible refine ex_ty ?_
    | with_reducible refine ex_call1 ?_
    | with_reducible refine ex_if ?_
    | with_reducible refine ex_and ?_
    | with_reducible refine ex_or ?_
    | with_reducible refine ex_not ?_
    | with_reducible refine ex_chain ?_
    | with_reducible refine ex_tup ?_
    | with_reducible refine ex_lst ?_
    | with_reducible refine ex_frzL ?_
    | with_reducible refine ex_frzSl ?_
    | with_reducible refine ex_frzRev ?_
    | with_reducible refine ex_frzRg ?_
    | with_reducible refine ex_un ?_
    | with_reducible refine ex_slT ?_
    | fail "stop")
  | (guard_target =~ AX _ _ _ _ _; first
    | with_reducible refine ax_cons ?_
    | with_reducible refine ax_nil ?_
    | fail "stop")
  | (guard_target =~ SX _ _ _ _ _; first
    | with_reducible refine sx_seq ?_
    | with_reducible refine sx_set ?_
    | with_reducible refine sx_if ?_
    | with_reducible refine sx_ret ?_
    | with_reducible refine sx_next ?_
    | with_reducible refine sx_asg ?_
    | with_reducible refine sx_drop ?_
    | with_reducible refine sx_par ?_
    | with_reducible refine sx_par3 ?_
    | fail "stop")
  | (guard_target =~ TX _ _ _ _ _; first
    | with_reducible refine tx_b ?_
    | with_reducible refine tx_test ?_
    | with_reducible refine tx_and ?_
    | with_reducible refine tx_or ?_
    | with_reducible refine tx_not ?_
    | with_reducible refine tx_yes ?_
    | fail "stop")
  | (guard_target =~ RX _ _ _ _ _ _; first
    | with_reducible refine rx_add ?_
    | with_reducible refine rx_sub ?_
    | ((with_reducible apply rx_mod); (first | assumption | omega))
    | ((with_reducible apply rx_mul); (first | assumption | exact .inl ⟨by omega, by omega⟩))
    | with_reducible refine rx_lt ?_
    | with_reducible refine rx_le ?_
    | with_reducible refine rx_gt ?_
    | with_reducible refine rx_ge ?_
    | with_reducible refine rx_isN ?_
    | with_reducible refine rx_notN ?_
    | with_reducible refine rx_eqI ?_
    | with_reducible refine rx_neI ?_
    | with_reducible refine rx_eqRule ?_
    | with_reducible refine rx_eqS ?_
    | with_reducible refine rx_neS ?_
    | ((with_reducible apply rx_ix0); exact rfl; exact rfl)
    | ((with_reducible apply rx_ix1); exact rfl; exact rfl)
    | ((with_reducible apply rx_ix2); exact rfl; exact rfl)
    | ((with_reducible apply rx_ix3); exact rfl; exact rfl)
    | ((with_reducible apply rx_ix4); exact rfl; exact rfl)
    | ((with_reducible apply rx_ix5); exact rfl; exact rfl)
    | ((with_reducible apply rx_ix6); exact rfl; exact rfl)
    | ((with_reducible apply rx_ix7); exact rfl; exact rfl)
    | ((with_reducible apply rx_ix8); exact rfl; exact rfl)
    | ((with_reducible apply rx_ixL0); exact rfl; exact rfl)
    | ((with_reducible apply rx_ixL1); exact rfl; exact rfl)
    | fail "stop")
  | (guard_target =~ BX _ _ _ _ _; first
    | with_reducible refine bx_isInt ?_
    | with_reducible refine bx_isBool ?_
    | with_reducible refine bx_isStr ?_
    | with_reducible refine bx_isTup ?_
    | with_reducible refine bx_intI ?_
    | with_reducible refine bx_intB ?_
    | with_reducible refine bx_min2 ?_
    | with_reducible refine bx_max2 ?_
    | ((with_reducible apply bx_lenT); exact rfl)
    | ((with_reducible apply bx_lenL); exact rfl)
    | ((with_reducible apply bx_lenN); exact rfl)
    | fail "stop")
  | ((with_reducible apply gx_tup); exact rfl; exact rfl)
  | (guard_target =~ GsX _ _ _ _ _ _; first | refine gsx_cons ?_ | refine gsx_nil ?_ | fail "stop")
  | with_reducible refine gx_name ?_
  | with_reducible refine ox_some ?_
  | with_reducible refine ox_none ?_
  | with_reducible refine ux_neg ?_
  | refine ⟨_, rfl, Nat.le_of_ble_eq_true rfl, rfl, ?_⟩
  | refine ⟨_, rfl, Nat.le_of_ble_eq_true rfl, ?_⟩
  | refine ⟨_, _, rfl, ?_⟩
  | refine ⟨_, rfl, ?_⟩
  | refine ⟨rfl, (_, some _, some _), rfl, trivial, ?_⟩
  | refine ⟨rfl, (_, some _, none), rfl, trivial, ?_⟩
  | refine ⟨rfl, (_, _), rfl, by assumption, ?_⟩
  | refine ⟨rfl, (_, _, _), rfl, by assumption, ?_⟩
  | refine ⟨rfl, (_, _, _, _), rfl, by assumption, ?_⟩
  | ((with_reducible intro c hc); subst hc)
  | refine ⟨fun hb => Bool.noConfusion hb, fun _ => ?_⟩
  | refine ⟨fun _ => ?_, fun hb => Bool.noConfusion hb⟩
  | dsimp only
  | fail "stop"))
local macro_rules | `(tactic| fail "xc") => `(tactic| (first | (refine ⟨fun hb => ?_, fun hb => ?_⟩ <;> first | exact Bool.noConfusion hb | skip) | fail "stop"))
local macro_rules | `(tactic| fail "xs") => `(tactic| repeat fail "x1")
local macro_rules | `(tactic| fail "xx") => `(tactic| repeat' (first | fail "x1" | fail "xc" | fail "stop"))

section
variable {P : Program} {w : World} {K : PySem.W.Frag} {mg : Str → Option Value} {base : Heap}
abbrev sp_beginners : Spec := Sp1 (α := Well × Bool × Crew) (fun x => [.dat x.1.d, .dat (ruleD x.2.1), .dat x.2.2.d]) (fun x => x.1.Ok ∧ x.2.2.Ok x.1 x.2.1) fun x c => c = .dat (.list ((begL x.1 x.2.1 x.2.2).map .int))
theorem cal_beginners {f : Addr} {fd : FuncData} (T : Tp mg) (F : Def K mg "beginners" s_beginners f fd) (B : Binds K fd ["well", "rule", "crew"] []) (c_seen_of : Cal P w K mg base 1 "seen_of" (spX P w K sp_seen_of) []) : Cal P w K mg base 2 "beginners" (spX P w K sp_beginners) [] := by
  refine cal0 F B .nil sc_beginners (sp1_len fun x => rfl) (fun cdv A outer s H vs Q E hr h => ?_)
  refine ⟨_, (pss_cons (ps_asg (pv 2) (pg_tup rfl (pgs_cons (pg_name (i := 3) sc_beginners.nd rfl (Or.inl rfl)) (pgs_cons (pg_name (i := 4) sc_beginners.nd rfl (Or.inl rfl)) (pgs_cons (pg_name (i := 5) sc_beginners.nd rfl (Or.inr rfl)) (pgs_cons (pg_name (i := 6) sc_beginners.nd rfl (Or.inr rfl)) pgs_nil)))))) (pss_cons (ps_if (pt_cmpR op_lt (pe_c c_seen_of hr (by decide) (by rfl) (pa_cons (pv 0) (pa_cons (pv 3) (pa_cons (pv 4) pa_nil)))) (pe_ix (r := rIxU K P w) (ix_u (hu16 hr)) (pv 0) pe_int (fun _ _ => rfl)) (nomark _)) (pss_one (ps_ret (pe_frz (pe_lst pa_nil)))) pss_nil) (pss_cons (ps_set (i := 8) sc_beginners.nd rfl (Or.inl rfl) (pe_ifExp (pt_cmpR (r := rEqU K) (op_eqU (hu64 hr)) (pv 1) (pe_gc (by rfl) T.g_TURNS) (nomark _)) (pe_frz (pe_lc (own := [("turn", 7)]) (g := (gName 7)) rfl sc_beginners.nd (pi_range1 (by rfl) T.b_range (pa_cons (pe_callB (r := rLenU K P w) call_lenU (by rfl) T.b_len bo_len (pa_cons (pv 5) pa_nil)) pa_nil)) (blkOk_by (N := N_beginners) (sc := fnScope s_beginners) (by decide +kernel)) (fun _ _ _ _ _ => (pg_name (i := 7) sc_beginners.nd rfl (Or.inl rfl))) (fun _ _ _ _ _ => pts_nil) (fun _ _ _ _ _ => (pe_op op_mod (pe_callTy call_int1 (by rfl) T.b_int bo_int (pa_cons (pe_op op_add (pv 6) (pv 7)) pa_nil)) (pe_callB (r := rLenU K P w) call_lenU (by rfl) T.b_len bo_len (pa_cons (pv 5) pa_nil)))))) (pe_frz (pe_listRg rfl (by rfl) T.b_list (prg_1 (by rfl) T.b_range (pe_callB (r := rLenU K P w) call_lenU (by rfl) T.b_len bo_len (pa_cons (pv 5) pa_nil))))))) (pss_one (ps_ret (pe_frz (pe_slice (r := rSlL K) sl_list (pe_frz (pe_lc (own := [("name", 9)]) (g := (gName 9)) rfl sc_beginners.nd (pi_list (pv 8)) (blkOk_by (N := N_beginners) (sc := fnScope s_beginners) (by decide +kernel)) (fun _ _ _ _ _ => (pg_name (i := 9) sc_beginners.nd rfl (Or.inl rfl))) (fun _ _ _ _ _ => (pts_one (pt_cmpR (r := rEqU K) (op_eqU (hu64 hr)) (pe_ix (r := rIxU K P w) (ix_u (hu16 hr)) (pv 5) (pv 9) (fun _ _ => rfl)) (pe_op op_sub pe_int (pe_ix (r := rIxU K P w) (ix_u (hu16 hr)) (pv 0) pe_int (fun _ _ => rfl))) (nomark _)))) (fun _ _ _ _ _ => (pv 9)))) po_none (po_some (pe_ix (r := rIxU K P w) (ix_u (hu16 hr)) (pv 0) pe_int (fun _ _ => rfl)))))))))), ?_⟩
  try dsimp only [cxOf, L2.Cx.nox, L2.Cx.wish, L2.Cx.blk]
  refine enter1 h fun x hx => ?_
  change SX _ _ [_, _, _, none, none, none, none, none, none, none] [] _
  obtain ⟨w0, t, c0⟩ := x
  obtain ⟨ok, hc⟩ := hx
  dsimp only at ok hc
  change SX _ _ [some (.dat w0.d), some (.dat (ruleD t)), some (.dat c0.d), none, none, none, none, none, none, none] [] _
  have hp : w0.Ok ∧ (w0.lag > 0 → c0.past ≠ []) := ⟨ok, fun h e => by have := hc.plen; rw [e] at this; simp at this; omega⟩
  have hl : (c0.ages.map PyData.int).length = c0.ages.length := List.length_map _
  have hal := hc.alen
  have hpos : (0 : Int) < ((c0.ages.map PyData.int).length : Int) := by omega
  fail "xs"
  refine ⟨fun hb => ?_, fun hb => ?_⟩
  · fail "xs"
    refine ⟨trivial, ?_⟩
    have hb' : c0.seen w0 < w0.on := of_decide_eq_true hb
    unfold begL
    rw [if_pos hb']
    rfl
  refine sx_next ?_
  dsimp only
  refine sx_seq (sx_set ?_)
  refine EX.imp (R' := fun c os1 => c = .dat (.list ((namesL t c0).map .int)) ∧ os1 = []) ?_ ?_
  · fail "xs"
    refine ⟨fun hb => ?_, fun hb => ?_⟩
    · refine ex_lcM (tg_name (by decide)) (ix_rng1 ?_)
      fail "xs"
      refine ⟨by omega, by omega, rfl, onI fun i => .int ((c0.mark + i) % ((c0.ages.map PyData.int).length : Int)), ?_, ?_, ?_⟩
      · unfold rngC
        rw [List.length_map, List.length_range]
        exact small (k := 6) (by omega) rfl
      · refine each_rng fun i acc hi => gx_name ?_
        change EX _ _ [_, _, _, _, _, _, _, _, _, _] _ _
        fail "xs"
        exact ⟨rfl, rfl⟩
      · refine ⟨?_, rfl⟩
        rw [map_onI, hl]
        unfold namesL
        rw [List.map_map, hb]
        congr 2
        refine List.map_congr_left fun i hi => ?_
        simp
    · fail "xs"
      refine ⟨by omega, rfl, ?_, rfl⟩
      rw [hl]
      unfold namesL
      rw [List.map_map, hb]
      congr 2
  rintro _ _ ⟨rfl, rfl⟩
  fail "xs"
  refine ex_lcF (tg_name (by decide)) (ix_list (ex_var rfl ⟨_, rfl, rfl, onB fun d => match d with | .int n => decide (ageAt c0 n = 0 - w0.rest) | _ => false, onD id, ?_, ?_, ?_⟩))
  · rw [List.length_map, List.length_map]
    unfold namesL
    rw [List.length_map, List.length_range]
    exact small (k := 6) (by omega) rfl
  · refine each_dat fun i d acc e => gx_name ?_
    rw [List.getElem?_map] at e
    obtain ⟨n, hn, rfl⟩ := Option.map_eq_some_iff.mp e
    have hr := names_range hc n (List.mem_of_getElem? hn)
    change TX _ _ [_, _, _, _, _, _, _, _, _, _] _ _
    fail "xs"
    refine rx_ixT rfl (atI_int hr.1 hr.2) ?_
    fail "xs"
    refine ⟨rfl, rfl, fun hb => ?_⟩
    fail "xs"
    exact ⟨rfl, rfl⟩
  · rw [filter_onD]
    fail "xs"
    refine ⟨rfl, trivial, ?_⟩
    have hb' : ¬ c0.seen w0 < w0.on := of_decide_eq_false hb
    have h1 := ok.starts
    rw [cut_to (by omega)]
    unfold begL
    rw [if_neg hb', List.map_id, List.map_take, List.filter_map]
    rfl
end
end Pk
/-! W4 (printed by gen/mk.py) -/
namespace Pk
open PySem PySem.Spec PyProof.Rows L2 C8

local macro_rules | `(tactic| fail "x1") => `(tactic| (first
  | (guard_target =~ EX _ _ _ _ _; first
    | ((with_reducible apply ex_var); exact rfl)
    | with_reducible refine ex_int ?_
    | with_reducible refine ex_op ?_
    | with_reducible refine ex_cb ?_
    | with_reducible refine ex_str ?_
    | with_reducible refine ex_non ?_
    | with_reducible refine ex_bl ?_
    | with_reducible refine ex_ty ?_
    | with_reducible refine ex_call1 ?_
    | with_reducible refine ex_if ?_
    | with_reducible refine ex_and ?_
    | with_reducible refine ex_or ?_
    | with_reducible refine ex_not ?_
    | with_reducible refine ex_chain ?_
    | with_reducible refine ex_tup ?_
    | with_reducible refine ex_lst ?_
    | with_reducible refine ex_append ?_
    | with_reducible refine ex_frzL ?_
    | with_reducible refine ex_frzSl ?_
    | with_reducible refine ex_frzRev ?_
    | with_reducible refine ex_frzRg ?_
    | with_reducible refine ex_un ?_
    | with_reducible refine ex_slT ?_
    | fail "stop")
  | (guard_target =~ AX _ _ _ _ _; first
    | with_reducible refine ax_cons ?_
    | with_reducible refine ax_nil ?_
    | fail "stop")
  | (guard_target =~ SX _ _ _ _ _; first
    | with_reducible refine sx_seq ?_
    | with_reducible refine sx_set ?_
    | with_reducible refine sx_if ?_
    | with_reducible refine sx_ret ?_
    | with_reducible refine sx_next ?_
    | with_reducible refine sx_asg ?_
    | with_reducible refine sx_drop ?_
    | with_reducible refine sx_par ?_
    | with_reducible refine sx_par3 ?_
    | fail "stop")
  | (guard_target =~ TX _ _ _ _ _; first
    | with_reducible refine tx_b ?_
    | with_reducible refine tx_test ?_
    | with_reducible refine tx_and ?_
    | with_reducible refine tx_or ?_
    | with_reducible refine tx_not ?_
    | with_reducible refine tx_yes ?_
    | fail "stop")
  | (guard_target =~ RX _ _ _ _ _ _; first
    | with_reducible refine rx_add ?_
    | with_reducible refine rx_sub ?_
    | ((with_reducible apply rx_mod); (first | assumption | omega))
    | ((with_reducible apply rx_mul); (first | assumption | exact .inl ⟨by omega, by omega⟩))
    | with_reducible refine rx_lt ?_
    | with_reducible refine rx_le ?_
    | with_reducible refine rx_gt ?_
    | with_reducible refine rx_ge ?_
    | with_reducible refine rx_isN ?_
    | with_reducible refine rx_notN ?_
    | with_reducible refine rx_eqI ?_
    | with_reducible refine rx_neI ?_
    | with_reducible refine rx_eqRule ?_
    | with_reducible refine rx_eqS ?_
    | with_reducible refine rx_neS ?_
    | ((with_reducible apply rx_ix0); exact rfl; exact rfl)
    | ((with_reducible apply rx_ix1); exact rfl; exact rfl)
    | ((with_reducible apply rx_ix2); exact rfl; exact rfl)
    | ((with_reducible apply rx_ix3); exact rfl; exact rfl)
    | ((with_reducible apply rx_ix4); exact rfl; exact rfl)
    | ((with_reducible apply rx_ix5); exact rfl; exact rfl)
    | ((with_reducible apply rx_ix6); exact rfl; exact rfl)
    | ((with_reducible apply rx_ix7); exact rfl; exact rfl)
    | ((with_reducible apply rx_ix8); exact rfl; exact rfl)
    | ((with_reducible apply rx_ixL0); exact rfl; exact rfl)
    | ((with_reducible apply rx_ixL1); exact rfl; exact rfl)
    | fail "stop")
  | (guard_target =~ BX _ _ _ _ _; first
    | with_reducible refine bx_isInt ?_
    | with_reducible refine bx_isBool ?_
    | with_reducible refine bx_isStr ?_
    | with_reducible refine bx_isTup ?_
    | with_reducible refine bx_intI ?_
    | with_reducible refine bx_intB ?_
    | with_reducible refine bx_min2 ?_
    | with_reducible refine bx_max2 ?_
    | ((with_reducible apply bx_lenT); exact rfl)
    | ((with_reducible apply bx_lenL); exact rfl)
    | ((with_reducible apply bx_lenN); exact rfl)
    | fail "stop")
  | ((with_reducible apply gx_tup); exact rfl; exact rfl)
  | (guard_target =~ GsX _ _ _ _ _ _; first | refine gsx_cons ?_ | refine gsx_nil ?_ | fail "stop")
  | with_reducible refine gx_name ?_
  | with_reducible refine ox_some ?_
  | with_reducible refine ox_none ?_
  | with_reducible refine ux_neg ?_
  | refine ⟨_, rfl, Nat.le_of_ble_eq_true rfl, rfl, ?_⟩
  | refine ⟨_, rfl, Nat.le_of_ble_eq_true rfl, ?_⟩
  | refine ⟨_, _, rfl, rfl, by assumption, ?_⟩
  | refine ⟨_, _, rfl, rfl, ?_⟩
  | refine ⟨_, _, rfl, ?_⟩
  | refine ⟨_, rfl, ?_⟩
  | refine ⟨rfl, (_, some _, some _), rfl, trivial, ?_⟩
  | refine ⟨rfl, (_, some _, none), rfl, trivial, ?_⟩
  | refine ⟨rfl, (_, _), rfl, by assumption, ?_⟩
  | refine ⟨rfl, (_, _, _), rfl, by assumption, ?_⟩
  | refine ⟨rfl, (_, _, _, _), rfl, by assumption, ?_⟩
  | ((with_reducible intro c hc); subst hc)
  | refine ⟨fun hb => Bool.noConfusion hb, fun _ => ?_⟩
  | refine ⟨fun _ => ?_, fun hb => Bool.noConfusion hb⟩
  | dsimp only
  | fail "stop"))
local macro_rules | `(tactic| fail "xc") => `(tactic| (first | (refine ⟨fun hb => ?_, fun hb => ?_⟩ <;> first | exact Bool.noConfusion hb | skip) | fail "stop"))
local macro_rules | `(tactic| fail "xs") => `(tactic| repeat fail "x1")
local macro_rules | `(tactic| fail "xx") => `(tactic| repeat' (first | fail "x1" | fail "xc" | fail "stop"))
local macro_rules | `(tactic| fail "wk") => `(tactic| (first | (refine ⟨?_, rfl⟩; repeat (first | exact Wc.nil | refine Wc.keep (by first | exact trivial | exact Nat.le_of_ble_eq_true rfl) ?_ | refine Wc.drop ?_)) | fail "stop"))

section
variable {P : Program} {w : World} {K : PySem.W.Frag} {mg : Str → Option Value} {base : Heap}
theorem ages_at {w : Well} {t : Bool} {c : Crew} {i : Nat} {a : Int} (h : c.ages[i]? = some a) : (agesL w t c)[i]? = some (if ((i : Nat) : Int) ∈ begL w t c then 1 else age1 w (decide (c.seen w ≤ w.off)) a) := by
  unfold agesL
  rw [List.getElem?_map, List.getElem?_zipIdx, h]
  simp
abbrev sp_ages_after : Spec := Sp1 (α := Well × Bool × Crew) (fun x => [.dat x.1.d, .dat (ruleD x.2.1), .dat x.2.2.d]) (fun x => x.1.Ok ∧ x.2.2.Ok x.1 x.2.1) fun x c => c = .dat (.tuple ((agesL x.1 x.2.1 x.2.2).map .int))
theorem cal_ages_after {f : Addr} {fd : FuncData} (T : Tp mg) (F : Def K mg "ages_after" s_ages_after f fd) (B : Binds K fd ["well", "rule", "crew"] []) (c_beginners : Cal P w K mg base 2 "beginners" (spX P w K sp_beginners) []) (c_seen_of : Cal P w K mg base 1 "seen_of" (spX P w K sp_seen_of) []) : Cal P w K mg base 3 "ages_after" (spX P w K sp_ages_after) [] := by
  refine cal0 F B .nil sc_ages_after (sp1_len fun x => rfl) (fun cdv A outer s H vs Q E hr h => ?_)
  refine ⟨_, (pss_cons (ps_asg (pv 2) (pg_tup rfl (pgs_cons (pg_name (i := 3) sc_ages_after.nd rfl (Or.inl rfl)) (pgs_cons (pg_name (i := 4) sc_ages_after.nd rfl (Or.inl rfl)) (pgs_cons (pg_name (i := 5) sc_ages_after.nd rfl (Or.inl rfl)) (pgs_cons (pg_name (i := 6) sc_ages_after.nd rfl (Or.inl rfl)) pgs_nil)))))) (pss_cons (ps_par (i := 7) (j := 8) (by rfl) sc_ages_after.nd rfl rfl (by decide) rfl rfl (pa_cons (pe_c c_beginners hr (by decide) (by rfl) (pa_cons (pv 0) (pa_cons (pv 1) (pa_cons (pv 2) pa_nil)))) (pa_cons (pe_lst pa_nil) pa_nil)) (by rfl)) (pss_cons (ps_set (i := 9) sc_ages_after.nd rfl (Or.inl rfl) (pe_cmpR op_le (pe_c c_seen_of hr (by decide) (by rfl) (pa_cons (pv 0) (pa_cons (pv 3) (pa_cons (pv 4) pa_nil)))) (pe_ix (r := rIxU K P w) (ix_u (hu16 hr)) (pv 0) pe_int (fun _ _ => rfl)) (nomark _))) (pss_cons (ps_for PassesOwn.never rfl (pi_enumT (by rfl) T.b_enumerate (pa_cons (pv 5) pa_nil)) (pg_tup rfl (pgs_cons (pg_name (i := 10) sc_ages_after.nd rfl (Or.inl rfl)) (pgs_cons (pg_name (i := 11) sc_ages_after.nd rfl (Or.inl rfl)) pgs_nil))) (pss_one (ps_if (pt_cmpR (r := rInU K P w false) (op_inU (hu65 hr)) (pv 10) (pv 7) (by rfl)) (pss_one (ps_expr (pe_bm PySem.F.plainAttrs_list PySem.F.slot_list_append PySem.F.type_list_append mt_append (pv 8) (pa_cons pe_int pa_nil)))) (pss_one (ps_if (pt_cmpR op_gt (pv 11) pe_int (nomark _)) (pss_one (ps_expr (pe_bm PySem.F.plainAttrs_list PySem.F.slot_list_append PySem.F.type_list_append mt_append (pv 8) (pa_cons (pe_ifExp (PW.pt (pw_and (pt_val (pv 9)) (pw_and1 (pt_cmpR (r := rEqU K) (op_eqU (hu64 hr)) (pv 11) (pe_ix (r := rIxU K P w) (ix_u (hu16 hr)) (pv 0) pe_int (fun _ _ => rfl)) (nomark _))))) (pe_un un_neg pe_int) (pe_callB (call_min2 rfl) (by rfl) T.b_min bo_min (pa_cons (pe_op op_add (pv 11) pe_int) (pa_cons (pe_ix (r := rIxU K P w) (ix_u (hu16 hr)) (pv 0) pe_int (fun _ _ => rfl)) pa_nil)))) pa_nil)))) (pss_one (ps_expr (pe_bm PySem.F.plainAttrs_list PySem.F.slot_list_append PySem.F.type_list_append mt_append (pv 8) (pa_cons (pe_callB (call_max2 rfl) (by rfl) T.b_max bo_max (pa_cons (pe_op op_sub (pv 11) pe_int) (pa_cons (pe_op op_sub pe_int (pe_ix (r := rIxU K P w) (ix_u (hu16 hr)) (pv 0) pe_int (fun _ _ => rfl))) pa_nil))) pa_nil))))))))) (pss_one (ps_ret (pe_callTy (r := rTupOf K) call_tupOf (by rfl) T.b_tuple bo_tuple (pa_cons (pv 8) pa_nil)))))))), ?_⟩
  try dsimp only [cxOf, L2.Cx.nox, L2.Cx.wish, L2.Cx.blk]
  refine enter1 h fun x hx => ?_
  change SX _ _ [_, _, _, none, none, none, none, none, none, none, none, none] [] _
  obtain ⟨w0, t, c0⟩ := x
  have hx' := hx
  obtain ⟨ok, hc⟩ := hx
  dsimp only at ok hc hx'
  have hp : w0.Ok ∧ (w0.lag > 0 → c0.past ≠ []) := ⟨ok, fun h e => by have := hc.plen; rw [e] at this; simp at this; omega⟩
  change SX _ _ [some (.dat w0.d), some (.dat (ruleD t)), some (.dat c0.d), none, none, none, none, none, none, none, none, none] [] _
  fail "xs"
  refine sx_for (ix_enum ?_)
  fail "xs"
  refine ⟨fun i γ os => γ = [some (.dat w0.d), some (.dat (ruleD t)), some (.dat c0.d), some (.dat (.int c0.level)), some (.dat (.tuple (c0.past.map .int))), some (.dat (.tuple (c0.ages.map .int))), some (.dat (.int c0.mark)), some (.dat (.list ((begL w0 t c0).map .int))), some (.own 0), some (.dat (.bool (decide (seen w0 c0.1 c0.2 ≤ w0.off)))), none, none] ∧ os = [.lst (((agesL w0 t c0).take i).map .int)], ⟨rfl, rfl⟩, ?_⟩
  rintro i γ1 os2 hi ⟨rfl, rfl⟩
  have hal := hc.alen
  have hlen : (((agesL w0 t c0).take i).map PyData.int).length < sizeLine := by
    rw [List.length_map, List.length_take, agesL_len]
    exact small (k := 6) (by omega) rfl
  refine ⟨fun hE => ?_, fun c hcc => ?_⟩
  · fail "xs"
    refine bx_tupL rfl ⟨trivial, ?_⟩
    rw [hE, enumC_len, List.length_map, List.take_of_length_le (by rw [agesL_len]; exact Nat.le_refl _)]
  · obtain ⟨d, e1, rfl⟩ := enum_at hcc
    obtain ⟨a, e2, rfl⟩ := map_at e1
    have e3 := take_map_succ (f := PyData.int) (ages_at (w := w0) (t := t) e2)
    fail "xs"
    refine rx_inI (.inl rfl) ?_
    have fin : ∀ z : Int, (if ((i : Nat) : Int) ∈ begL w0 t c0 then 1 else age1 w0 (decide (c0.seen w0 ≤ w0.off)) a) = z → (List.map PyData.int (List.take (i + 1) (agesL w0 t c0))) = List.map PyData.int (List.take i (agesL w0 t c0)) ++ [PyData.int z] := fun z hz => by rw [e3, hz]
    fail "xx"
    · rename_i hb
      refine ⟨_, _, ⟨rfl, rfl⟩, ?_⟩
      rw [fin 1 (if_pos (of_decide_eq_true hb))]
      fail "wk"
    · rename_i hb hg hs hr
      have h1 := of_decide_eq_false hb
      have h2 := of_decide_eq_true hg
      refine ⟨_, _, ⟨rfl, rfl⟩, ?_⟩
      rw [fin (-1) (by rw [if_neg h1]; unfold age1; rw [if_pos h2, show decide (c0.seen w0 ≤ w0.off) = true from hs, show decide (a = w0.run) = true from hr]; rfl)]
      fail "wk"
    · rename_i hb hg hs hr
      have h1 := of_decide_eq_false hb
      have h2 := of_decide_eq_true hg
      have h3 := of_decide_eq_false hr
      refine ⟨_, _, ⟨rfl, rfl⟩, ?_⟩
      rw [fin (if w0.run < a + 1 then w0.run else a + 1) (by rw [if_neg h1]; unfold age1; rw [if_pos h2, show decide (c0.seen w0 ≤ w0.off) = true from hs, show decide (a = w0.run) = false from hr]; simp only [Bool.and_false, Bool.false_eq_true, if_false]; omega)]
      fail "wk"
    · rename_i hb hg hs _
      have h1 := of_decide_eq_false hb
      have h2 := of_decide_eq_true hg
      refine ⟨_, _, ⟨rfl, rfl⟩, ?_⟩
      rw [fin (if w0.run < a + 1 then w0.run else a + 1) (by rw [if_neg h1]; unfold age1; rw [if_pos h2, show decide (c0.seen w0 ≤ w0.off) = false from hs]; simp only [Bool.false_and, Bool.false_eq_true, if_false]; omega)]
      fail "wk"
    · rename_i hb hg
      have h1 := of_decide_eq_false hb
      have h2 := of_decide_eq_false hg
      refine ⟨_, _, ⟨rfl, rfl⟩, ?_⟩
      rw [fin (if 0 - w0.rest > a - 1 then 0 - w0.rest else a - 1) (by rw [if_neg h1]; unfold age1; rw [if_neg h2]; omega)]
      fail "wk"
end
end Pk
/-! W5 (printed by gen/mk.py) -/
namespace Pk
open PySem PySem.Spec PyProof.Rows L2 C8

local macro_rules | `(tactic| fail "x1") => `(tactic| (first
  | (guard_target =~ EX _ _ _ _ _; first
    | ((with_reducible apply ex_var); exact rfl)
    | with_reducible refine ex_int ?_
    | with_reducible refine ex_op ?_
    | with_reducible refine ex_cb ?_
    | with_reducible refine ex_str ?_
    | with_reducible refine ex_non ?_
    | with_reducible refine ex_bl ?_
    | with_reducible refine ex_ty ?_
    | with_reducible refine ex_call1 ?_
    | with_reducible refine ex_if ?_
    | with_reducible refine ex_and ?_
    | with_reducible refine ex_or ?_
    | with_reducible refine ex_not ?_
    | with_reducible refine ex_chain ?_
    | with_reducible refine ex_tup ?_
    | with_reducible refine ex_lst ?_
    | with_reducible refine ex_append ?_
    | with_reducible refine ex_frzL ?_
    | with_reducible refine ex_frzSl ?_
    | with_reducible refine ex_frzRev ?_
    | with_reducible refine ex_frzRg ?_
    | with_reducible refine ex_un ?_
    | with_reducible refine ex_slT ?_
    | fail "stop")
  | (guard_target =~ AX _ _ _ _ _; first
    | with_reducible refine ax_cons ?_
    | with_reducible refine ax_nil ?_
    | fail "stop")
  | (guard_target =~ SX _ _ _ _ _; first
    | with_reducible refine sx_seq ?_
    | with_reducible refine sx_set ?_
    | with_reducible refine sx_if ?_
    | with_reducible refine sx_ret ?_
    | with_reducible refine sx_next ?_
    | with_reducible refine sx_asg ?_
    | with_reducible refine sx_drop ?_
    | with_reducible refine sx_par ?_
    | with_reducible refine sx_par3 ?_
    | fail "stop")
  | (guard_target =~ TX _ _ _ _ _; first
    | with_reducible refine tx_b ?_
    | with_reducible refine tx_test ?_
    | with_reducible refine tx_and ?_
    | with_reducible refine tx_or ?_
    | with_reducible refine tx_not ?_
    | with_reducible refine tx_yes ?_
    | fail "stop")
  | (guard_target =~ RX _ _ _ _ _ _; first
    | with_reducible refine rx_add ?_
    | with_reducible refine rx_sub ?_
    | ((with_reducible apply rx_mod); (first | assumption | omega))
    | ((with_reducible apply rx_mul); (first | assumption | exact .inl ⟨by omega, by omega⟩))
    | with_reducible refine rx_lt ?_
    | with_reducible refine rx_le ?_
    | with_reducible refine rx_gt ?_
    | with_reducible refine rx_ge ?_
    | with_reducible refine rx_isN ?_
    | with_reducible refine rx_notN ?_
    | with_reducible refine rx_eqI ?_
    | with_reducible refine rx_neI ?_
    | with_reducible refine rx_eqRule ?_
    | with_reducible refine rx_eqS ?_
    | with_reducible refine rx_neS ?_
    | ((with_reducible apply rx_ix0); exact rfl; exact rfl)
    | ((with_reducible apply rx_ix1); exact rfl; exact rfl)
    | ((with_reducible apply rx_ix2); exact rfl; exact rfl)
    | ((with_reducible apply rx_ix3); exact rfl; exact rfl)
    | ((with_reducible apply rx_ix4); exact rfl; exact rfl)
    | ((with_reducible apply rx_ix5); exact rfl; exact rfl)
    | ((with_reducible apply rx_ix6); exact rfl; exact rfl)
    | ((with_reducible apply rx_ix7); exact rfl; exact rfl)
    | ((with_reducible apply rx_ix8); exact rfl; exact rfl)
    | ((with_reducible apply rx_ixL0); exact rfl; exact rfl)
    | ((with_reducible apply rx_ixL1); exact rfl; exact rfl)
    | fail "stop")
  | (guard_target =~ BX _ _ _ _ _; first
    | with_reducible refine bx_isInt ?_
    | with_reducible refine bx_isBool ?_
    | with_reducible refine bx_isStr ?_
    | with_reducible refine bx_isTup ?_
    | with_reducible refine bx_intI ?_
    | with_reducible refine bx_intB ?_
    | with_reducible refine bx_min2 ?_
    | with_reducible refine bx_max2 ?_
    | ((with_reducible apply bx_lenT); exact rfl)
    | ((with_reducible apply bx_lenL); exact rfl)
    | ((with_reducible apply bx_lenN); exact rfl)
    | fail "stop")
  | ((with_reducible apply gx_tup); exact rfl; exact rfl)
  | (guard_target =~ GsX _ _ _ _ _ _; first | refine gsx_cons ?_ | refine gsx_nil ?_ | fail "stop")
  | with_reducible refine gx_name ?_
  | with_reducible refine ox_some ?_
  | with_reducible refine ox_none ?_
  | with_reducible refine ux_neg ?_
  | refine ⟨_, rfl, Nat.le_of_ble_eq_true rfl, rfl, ?_⟩
  | refine ⟨_, rfl, Nat.le_of_ble_eq_true rfl, ?_⟩
  | refine ⟨_, _, rfl, rfl, by assumption, ?_⟩
  | refine ⟨_, _, rfl, rfl, ?_⟩
  | refine ⟨_, _, rfl, ?_⟩
  | refine ⟨_, rfl, ?_⟩
  | refine ⟨rfl, (_, some _, some _), rfl, trivial, ?_⟩
  | refine ⟨rfl, (_, some _, none), rfl, trivial, ?_⟩
  | refine ⟨rfl, (_, _), rfl, by assumption, ?_⟩
  | refine ⟨rfl, (_, _, _), rfl, by assumption, ?_⟩
  | refine ⟨rfl, (_, _, _, _), rfl, by assumption, ?_⟩
  | ((with_reducible intro c hc); subst hc)
  | refine ⟨fun hb => Bool.noConfusion hb, fun _ => ?_⟩
  | refine ⟨fun _ => ?_, fun hb => Bool.noConfusion hb⟩
  | dsimp only
  | fail "stop"))
local macro_rules | `(tactic| fail "xc") => `(tactic| (first | (refine ⟨fun hb => ?_, fun hb => ?_⟩ <;> first | exact Bool.noConfusion hb | skip) | fail "stop"))
local macro_rules | `(tactic| fail "xs") => `(tactic| repeat fail "x1")
local macro_rules | `(tactic| fail "xx") => `(tactic| repeat' (first | fail "x1" | fail "xc" | fail "stop"))
local macro_rules | `(tactic| fail "wk") => `(tactic| (first | (refine ⟨?_, rfl⟩; repeat (first | exact Wc.nil | refine Wc.keep (by first | exact trivial | exact Nat.le_of_ble_eq_true rfl) ?_ | refine Wc.drop ?_)) | fail "stop"))

section
variable {P : Program} {w : World} {K : PySem.W.Frag} {mg : Str → Option Value} {base : Heap}
abbrev sp_crew_in : Spec := Sp1 (α := Well × Bool × Crew × Int) (fun x => [.dat x.1.d, .dat (ruleD x.2.1), .dat x.2.2.1.d, .dat (.int x.2.2.2)]) (fun x => x.1.Ok ∧ x.2.2.1.Ok x.1 x.2.1) fun x c => c = .dat (stepD x.1 x.2.1 x.2.2.1 x.2.2.2)
theorem cal_crew_in {f : Addr} {fd : FuncData} (T : Tp mg) (F : Def K mg "crew_in" s_crew_in f fd) (B : Binds K fd ["well", "rule", "crew", "inflow"] []) (c_ages_after : Cal P w K mg base 3 "ages_after" (spX P w K sp_ages_after) []) (c_beginners : Cal P w K mg base 2 "beginners" (spX P w K sp_beginners) []) : Cal P w K mg base 4 "crew_in" (spX P w K sp_crew_in) [] := by
  refine cal0 F B .nil sc_crew_in (sp1_len fun x => rfl) (fun cdv A outer s H vs Q E hr h => ?_)
  refine ⟨_, (pss_cons (ps_asg (pv 2) (pg_tup rfl (pgs_cons (pg_name (i := 4) sc_crew_in.nd rfl (Or.inl rfl)) (pgs_cons (pg_name (i := 5) sc_crew_in.nd rfl (Or.inl rfl)) (pgs_cons (pg_name (i := 6) sc_crew_in.nd rfl (Or.inl rfl)) (pgs_cons (pg_name (i := 7) sc_crew_in.nd rfl (Or.inl rfl)) pgs_nil)))))) (pss_cons (ps_par (i := 8) (j := 9) (by rfl) sc_crew_in.nd rfl rfl (by decide) rfl rfl (pa_cons (pe_c c_ages_after hr (by decide) (by rfl) (pa_cons (pv 0) (pa_cons (pv 1) (pa_cons (pv 2) pa_nil)))) (pa_cons (pe_c c_beginners hr (by decide) (by rfl) (pa_cons (pv 0) (pa_cons (pv 1) (pa_cons (pv 2) pa_nil)))) pa_nil)) (by rfl)) (pss_cons (ps_set (i := 11) sc_crew_in.nd rfl (Or.inl rfl) (pe_op op_sub (pe_op op_add (pv 4) (pv 3)) (pe_op op_mul (pe_ix (r := rIxU K P w) (ix_u (hu16 hr)) (pv 0) pe_int (fun _ _ => rfl)) (pe_callB (r := rLenU K P w) call_lenU (by rfl) T.b_len bo_len (pa_cons (pe_frz (pe_lc (own := [("age", 10)]) (g := (gName 10)) rfl sc_crew_in.nd (pi_tup (pv 8)) (blkOk_by (N := N_crew_in) (sc := fnScope s_crew_in) (by decide +kernel)) (fun _ _ _ _ _ => (pg_name (i := 10) sc_crew_in.nd rfl (Or.inl rfl))) (fun _ _ _ _ _ => (pts_one (pt_cmpR op_gt (pv 10) pe_int (nomark _)))) (fun _ _ _ _ _ => pe_int))) pa_nil))))) (pss_cons (ps_if (pt_cmpR op_gt (pv 11) (pe_ix (r := rIxU K P w) (ix_u (hu16 hr)) (pv 0) pe_int (fun _ _ => rfl)) (nomark _)) (pss_one (ps_ret (pe_gc (by rfl) T.g_OVER))) pss_nil) (pss_cons (ps_if (pt_cmpR op_lt (pv 11) pe_int (nomark _)) (pss_one (ps_ret (pe_gc (by rfl) T.g_DRY))) pss_nil) (pss_cons (ps_if (PW.pt (pw_and (pt_cmpR (r := rEqU K) (op_eqU (hu64 hr)) (pv 1) (pe_gc (by rfl) T.g_TURNS) (nomark _)) (pw_and1 (pt_cmpR (r := rNeU K) (op_neU (hu64 hr)) (pv 9) (pe_frz (pe_lst pa_nil)) (nomark _))))) (pss_one (ps_set (i := 7) sc_crew_in.nd rfl (Or.inl rfl) (pe_op op_mod (pe_callTy call_int1 (by rfl) T.b_int bo_int (pa_cons (pe_op op_add (pe_ix (r := rIxU K P w) (ix_u (hu16 hr)) (pv 9) (pe_un un_neg pe_int) (fun _ _ => rfl)) pe_int) pa_nil)) (pe_callB (r := rLenU K P w) call_lenU (by rfl) T.b_len bo_len (pa_cons (pv 6) pa_nil))))) pss_nil) (pss_one (ps_ret (pe_tupP (pa_cons (pv 11) (pa_cons (pe_slice (r := rSlP K) sl_tupP (pe_op (r := rCatP K) op_catP (pv 5) (pe_tupP (pa_cons (pv 4) pa_nil))) (po_some pe_int) po_none) (pa_cons (pv 8) (pa_cons (pv 7) pa_nil))))))))))))), ?_⟩
  try dsimp only [cxOf, L2.Cx.nox, L2.Cx.wish, L2.Cx.blk]
  refine enter1 h fun x hx => ?_
  change SX _ _ [_, _, _, _, none, none, none, none, none, none, none, none] [] _
  obtain ⟨w0, t, c0, x0⟩ := x
  have hx' := hx
  obtain ⟨ok, hc⟩ := hx
  dsimp only at ok hc hx'
  have hd := ok.drain
  have hal := hc.alen
  have hla : ((agesL w0 t c0).map PyData.int).length = c0.ages.length := by rw [List.length_map, agesL_len]
  have hpl : (c0.past.map PyData.int).length = c0.past.length := List.length_map _
  have hplen := hc.plen
  have hlag := ok.lag
  have hcat : (c0.past.map PyData.int).length + [PyData.int c0.level].length ≤ sizeLine := by
    rw [hpl]
    exact Nat.le_trans (show c0.past.length + 1 ≤ 4 by omega) (Nat.le_of_ble_eq_true rfl)
  have hpos : (0 : Int) < ((c0.ages.map PyData.int).length : Int) := by rw [List.length_map]; omega
  change SX _ _ [some (.dat w0.d), some (.dat (ruleD t)), some (.dat c0.d), some (.dat (.int x0)), none, none, none, none, none, none, none, none] [] _
  fail "xs"
  refine ex_lcF (tg_name (by decide)) (ix_tup (ex_var rfl ⟨_, rfl, rfl, onB fun d => match d with | .int n => decide (n > 0) | _ => false, onD fun _ => .int 1, ?_, ?_, ?_⟩))
  · rw [List.length_map, hla]
    exact small (k := 6) (by omega) rfl
  · refine each_dat fun i d acc e => gx_name ?_
    obtain ⟨n, hn, rfl⟩ := map_at e
    change TX _ _ [_, _, _, _, _, _, _, _, _, _, _, _] _ _
    fail "xs"
    refine ⟨rfl, rfl, fun hb => ?_⟩
    fail "xs"
    exact ⟨rfl, rfl⟩
  · rw [filter_onD]
    have hcnt : (List.map (fun x => PyData.int 1) (List.filter (fun d => match d with | .int n => decide (n > 0) | _ => false) (List.map PyData.int (agesL w0 t c0)))).length = countL (agesL w0 t c0) := by
      rw [List.length_map, List.filter_map, List.length_map]
      rfl
    fail "xs"
    rw [hcnt]
    rw [show c0.level + x0 - w0.drain * ((countL (agesL w0 t c0) : Nat) : Int) = later w0 t c0 x0 from rfl]
    unfold stepD
    refine ⟨fun hb => ?_, fun hb => ?_⟩
    · rw [if_pos (of_decide_eq_true hb)]
      fail "xs"
      exact ⟨trivial, rfl⟩
    rw [if_neg (of_decide_eq_false hb)]
    fail "xs"
    refine ⟨fun hb => ?_, fun hb => ?_⟩
    · rw [if_pos (of_decide_eq_true hb)]
      fail "xs"
      exact ⟨trivial, rfl⟩
    rw [if_neg (of_decide_eq_false hb)]
    have fin : ∀ (m : Int), markL w0 t c0 = m → ImC (Cl.dat (.tuple [.int (later w0 t c0 x0), .tuple (cutD (c0.past.map PyData.int ++ [PyData.int c0.level]) (some 1) none), .tuple ((agesL w0 t c0).map .int), .int m])) ∧
        Cl.dat (.tuple [.int (later w0 t c0 x0), .tuple (cutD (c0.past.map PyData.int ++ [PyData.int c0.level]) (some 1) none), .tuple ((agesL w0 t c0).map .int), .int m]) = Cl.dat (Crew.d ⟨later w0 t c0 x0, (c0.past ++ [c0.level]).drop 1, agesL w0 t c0, markL w0 t c0⟩) := fun m hm => by
      refine ⟨trivial, ?_⟩
      rw [hm, cut_from (by decide)]
      unfold Crew.d
      rw [List.map_drop, List.map_append]
      rfl
    cases t with
    | true =>
      fail "xs"
      refine rx_neD rfl rfl (shaped_ints _) shaped_nil ?_
      rw [eqv_nil]
      fail "xs"
      refine ⟨fun hb => ?_, fun hb => ?_⟩
      · cases hg : (begL w0 true c0).getLast? with
        | none =>
          exfalso
          rw [List.getLast?_eq_none_iff.mp hg] at hb
          exact Bool.noConfusion hb
        | some z =>
          have hm : markL w0 true c0 = (z + 1) % (c0.ages.length : Int) := by unfold markL; rw [hg]
          have hm' : markL w0 true c0 = (z + 1) % ((c0.ages.map PyData.int).length : Int) := by rw [hm, List.length_map]
          fail "xs"
          refine rx_ixLast (x := .int z) rfl (by rw [List.getLast?_map, hg]; rfl) ?_
          fail "xs"
          refine rx_cat rfl rfl rfl rfl hcat ?_
          fail "xs"
          exact fin _ hm'
      · have he : begL w0 true c0 = [] := by
          cases h : begL w0 true c0 with
          | nil => rfl
          | cons a l => rw [h] at hb; exact Bool.noConfusion hb
        have hm : markL w0 true c0 = c0.mark := by unfold markL; rw [he]; rfl
        fail "xs"
        refine rx_cat rfl rfl rfl rfl hcat ?_
        fail "xs"
        exact fin _ hm
    | false =>
      have hm : markL w0 false c0 = c0.mark := rfl
      fail "xs"
      refine rx_cat rfl rfl rfl rfl hcat ?_
      fail "xs"
      exact fin _ hm
end
end Pk
/-! W6 (printed by gen/mk.py) -/
namespace Pk
open PySem PySem.Spec PyProof.Rows L2 C8

local macro_rules | `(tactic| fail "x1") => `(tactic| (first
  | (guard_target =~ EX _ _ _ _ _; first
    | ((with_reducible apply ex_var); exact rfl)
    | with_reducible refine ex_int ?_
    | with_reducible refine ex_op ?_
    | with_reducible refine ex_cb ?_
    | with_reducible refine ex_str ?_
    | with_reducible refine ex_non ?_
    | with_reducible refine ex_bl ?_
    | with_reducible refine ex_ty ?_
    | with_reducible refine ex_call1 ?_
    | with_reducible refine ex_if ?_
    | with_reducible refine ex_and ?_
    | with_reducible refine ex_or ?_
    | with_reducible refine ex_not ?_
    | with_reducible refine ex_chain ?_
    | with_reducible refine ex_tup ?_
    | with_reducible refine ex_lst ?_
    | with_reducible refine ex_append ?_
    | with_reducible refine ex_frzL ?_
    | with_reducible refine ex_frzSl ?_
    | with_reducible refine ex_frzRev ?_
    | with_reducible refine ex_frzRg ?_
    | with_reducible refine ex_un ?_
    | with_reducible refine ex_slT ?_
    | fail "stop")
  | (guard_target =~ AX _ _ _ _ _; first
    | with_reducible refine ax_cons ?_
    | with_reducible refine ax_nil ?_
    | fail "stop")
  | (guard_target =~ SX _ _ _ _ _; first
    | with_reducible refine sx_seq ?_
    | with_reducible refine sx_set ?_
    | with_reducible refine sx_if ?_
    | with_reducible refine sx_ret ?_
    | with_reducible refine sx_next ?_
    | with_reducible refine sx_asg ?_
    | with_reducible refine sx_drop ?_
    | with_reducible refine sx_par ?_
    | with_reducible refine sx_par3 ?_
    | fail "stop")
  | (guard_target =~ TX _ _ _ _ _; first
    | with_reducible refine tx_b ?_
    | with_reducible refine tx_test ?_
    | with_reducible refine tx_and ?_
    | with_reducible refine tx_or ?_
    | with_reducible refine tx_not ?_
    | with_reducible refine tx_yes ?_
    | fail "stop")
  | (guard_target =~ RX _ _ _ _ _ _; first
    | with_reducible refine rx_add ?_
    | with_reducible refine rx_sub ?_
    | ((with_reducible apply rx_mod); (first | assumption | omega))
    | ((with_reducible apply rx_mul); (first | assumption | exact .inl ⟨by omega, by omega⟩))
    | with_reducible refine rx_lt ?_
    | with_reducible refine rx_le ?_
    | with_reducible refine rx_gt ?_
    | with_reducible refine rx_ge ?_
    | with_reducible refine rx_isN ?_
    | with_reducible refine rx_notN ?_
    | with_reducible refine rx_eqI ?_
    | with_reducible refine rx_neI ?_
    | with_reducible refine rx_eqRule ?_
    | with_reducible refine rx_eqS ?_
    | with_reducible refine rx_neS ?_
    | ((with_reducible apply rx_ix0); exact rfl; exact rfl)
    | ((with_reducible apply rx_ix1); exact rfl; exact rfl)
    | ((with_reducible apply rx_ix2); exact rfl; exact rfl)
    | ((with_reducible apply rx_ix3); exact rfl; exact rfl)
    | ((with_reducible apply rx_ix4); exact rfl; exact rfl)
    | ((with_reducible apply rx_ix5); exact rfl; exact rfl)
    | ((with_reducible apply rx_ix6); exact rfl; exact rfl)
    | ((with_reducible apply rx_ix7); exact rfl; exact rfl)
    | ((with_reducible apply rx_ix8); exact rfl; exact rfl)
    | ((with_reducible apply rx_ixL0); exact rfl; exact rfl)
    | ((with_reducible apply rx_ixL1); exact rfl; exact rfl)
    | fail "stop")
  | (guard_target =~ BX _ _ _ _ _; first
    | with_reducible refine bx_isInt ?_
    | with_reducible refine bx_isBool ?_
    | with_reducible refine bx_isStr ?_
    | with_reducible refine bx_isTup ?_
    | with_reducible refine bx_intI ?_
    | with_reducible refine bx_intB ?_
    | with_reducible refine bx_min2 ?_
    | with_reducible refine bx_max2 ?_
    | ((with_reducible apply bx_lenT); exact rfl)
    | ((with_reducible apply bx_lenL); exact rfl)
    | ((with_reducible apply bx_lenN); exact rfl)
    | fail "stop")
  | ((with_reducible apply gx_tup); exact rfl; exact rfl)
  | (guard_target =~ GsX _ _ _ _ _ _; first | refine gsx_cons ?_ | refine gsx_nil ?_ | fail "stop")
  | with_reducible refine gx_name ?_
  | with_reducible refine ox_some ?_
  | with_reducible refine ox_none ?_
  | with_reducible refine ux_neg ?_
  | refine ⟨_, rfl, Nat.le_of_ble_eq_true rfl, rfl, ?_⟩
  | refine ⟨_, rfl, Nat.le_of_ble_eq_true rfl, ?_⟩
  | refine ⟨_, _, rfl, rfl, by assumption, ?_⟩
  | refine ⟨_, _, rfl, rfl, ?_⟩
  | refine ⟨_, _, rfl, ?_⟩
  | refine ⟨_, rfl, ?_⟩
  | refine ⟨rfl, (_, some _, some _), rfl, trivial, ?_⟩
  | refine ⟨rfl, (_, some _, none), rfl, trivial, ?_⟩
  | refine ⟨rfl, (_, _), rfl, by assumption, ?_⟩
  | refine ⟨rfl, (_, _, _), rfl, by assumption, ?_⟩
  | refine ⟨rfl, (_, _, _, _), rfl, by assumption, ?_⟩
  | ((with_reducible intro c hc); subst hc)
  | refine ⟨fun hb => Bool.noConfusion hb, fun _ => ?_⟩
  | refine ⟨fun _ => ?_, fun hb => Bool.noConfusion hb⟩
  | dsimp only
  | fail "stop"))
local macro_rules | `(tactic| fail "xc") => `(tactic| (first | (refine ⟨fun hb => ?_, fun hb => ?_⟩ <;> first | exact Bool.noConfusion hb | skip) | fail "stop"))
local macro_rules | `(tactic| fail "xs") => `(tactic| repeat fail "x1")
local macro_rules | `(tactic| fail "xx") => `(tactic| repeat' (first | fail "x1" | fail "xc" | fail "stop"))
local macro_rules | `(tactic| fail "wk") => `(tactic| (first | (refine ⟨?_, rfl⟩; repeat (first | exact Wc.nil | refine Wc.keep (by first | exact trivial | exact Nat.le_of_ble_eq_true rfl) ?_ | refine Wc.drop ?_)) | fail "stop"))

section
variable {P : Program} {w : World} {K : PySem.W.Frag} {mg : Str → Option Value} {base : Heap}
theorem enum_ints (l : List Int) : enumC (l.map .int) = l.zipIdx.map fun p => .lt [.int (p.2 : Nat), .int p.1] := by
  unfold enumC
  rw [List.zipIdx_map, List.map_map]
  rfl
def runP : Cl → Bool
  | .lt [_, .int a] => decide (a > 0)
  | _ => false
def runF : Cl → PyData
  | .lt [d, _] => d
  | _ => .none
theorem run_eq (w : Well) (t : Bool) (c : Crew) : ((enumC ((agesL w t c).map .int)).filter runP).map runF = (runL w t c).map .int := by
  rw [enum_ints, List.filter_map, List.map_map]
  unfold runL
  rw [List.map_map]
  rfl
abbrev sp_runners : Spec := Sp1 (α := Well × Bool × Crew) (fun x => [.dat x.1.d, .dat (ruleD x.2.1), .dat x.2.2.d]) (fun x => x.1.Ok ∧ x.2.2.Ok x.1 x.2.1) fun x c => c = .dat (.list ((runL x.1 x.2.1 x.2.2).map .int))
theorem cal_runners {f : Addr} {fd : FuncData} (T : Tp mg) (F : Def K mg "runners" s_runners f fd) (B : Binds K fd ["well", "rule", "crew"] []) (c_ages_after : Cal P w K mg base 3 "ages_after" (spX P w K sp_ages_after) []) : Cal P w K mg base 4 "runners" (spX P w K sp_runners) [] := by
  refine cal0 F B .nil sc_runners (sp1_len fun x => rfl) (fun cdv A outer s H vs Q E hr h => ?_)
  refine ⟨_, (pss_one (ps_ret (pe_frz (pe_lc (own := [("name", 3), ("age", 4)]) (g := (gTup K 2 (gCons (gName 3) (gCons (gName 4) gNil)))) rfl sc_runners.nd (pi_enumT (by rfl) T.b_enumerate (pa_cons (pe_c c_ages_after hr (by decide) (by rfl) (pa_cons (pv 0) (pa_cons (pv 1) (pa_cons (pv 2) pa_nil)))) pa_nil)) (blkOk_by (N := N_runners) (sc := fnScope s_runners) (by decide +kernel)) (fun _ _ _ _ _ => (pg_tup rfl (pgs_cons (pg_name (i := 3) sc_runners.nd rfl (Or.inl rfl)) (pgs_cons (pg_name (i := 4) sc_runners.nd rfl (Or.inl rfl)) pgs_nil)))) (fun _ _ _ _ _ => (pts_one (pt_cmpR op_gt (pv 4) pe_int (nomark _)))) (fun _ _ _ _ _ => (pv 3)))))), ?_⟩
  try dsimp only [cxOf, L2.Cx.nox, L2.Cx.wish, L2.Cx.blk]
  refine enter1 h fun x hx => ?_
  change SX _ _ [_, _, _, none, none] [] _
  obtain ⟨w0, t, c0⟩ := x
  have hx' := hx
  obtain ⟨ok, hc⟩ := hx
  dsimp only at ok hc hx'
  have hal := hc.alen
  change SX _ _ [some (.dat w0.d), some (.dat (ruleD t)), some (.dat c0.d), none, none] [] _
  refine sx_ret (ex_lcF (tg_tup (tgs_cons tm_name (tg_name (by decide)) (tgs_cons tm_name (tg_name (by decide)) tgs_nil))) (ix_enum ?_))
  fail "xs"
  refine ⟨rfl, runP, runF, ?_, fun i c acc e => ?_, ?_⟩
  · rw [enumC_len, List.length_map, agesL_len]
    exact small (k := 6) (by omega) rfl
  · obtain ⟨d, e1, rfl⟩ := enum_at e
    obtain ⟨a, e2, rfl⟩ := map_at e1
    refine gx_tup rfl rfl ?_
    fail "xs"
    refine ⟨rfl, rfl, fun hb => ?_⟩
    fail "xs"
    exact ⟨rfl, rfl⟩
  · rw [run_eq]
    exact ⟨trivial, rfl⟩
abbrev sp_gain : Spec := Sp1 (α := Well × Bool × Crew × Int × Int) (fun x => [.dat x.1.d, .dat (ruleD x.2.1), .dat x.2.2.1.d, .dat (.int x.2.2.2.1), .dat (.int x.2.2.2.2)]) (fun x => x.1.Ok ∧ x.2.2.1.Ok x.1 x.2.1) fun x c => c = .dat (.int (gainL x.1 x.2.1 x.2.2.1 x.2.2.2.1 x.2.2.2.2))
theorem cal_gain {f : Addr} {fd : FuncData} (T : Tp mg) (F : Def K mg "gain" s_gain f fd) (B : Binds K fd ["well", "rule", "crew", "one", "other"] []) (c_runners : Cal P w K mg base 4 "runners" (spX P w K sp_runners) []) : Cal P w K mg base 5 "gain" (spX P w K sp_gain) [] := by
  refine cal0 F B .nil sc_gain (sp1_len fun x => rfl) (fun cdv A outer s H vs Q E hr h => ?_)
  refine ⟨_, (pss_cons (ps_set (i := 5) sc_gain.nd rfl (Or.inl rfl) (pe_c c_runners hr (by decide) (by rfl) (pa_cons (pv 0) (pa_cons (pv 1) (pa_cons (pv 2) pa_nil))))) (pss_one (ps_ret (pe_op op_sub (pe_callTy call_int1 (by rfl) T.b_int bo_int (pa_cons (pe_cmpR (r := rInU K P w false) (op_inU (hu65 hr)) (pv 3) (pv 5) (by rfl)) pa_nil)) (pe_callTy call_int1 (by rfl) T.b_int bo_int (pa_cons (pe_cmpR (r := rInU K P w false) (op_inU (hu65 hr)) (pv 4) (pv 5) (by rfl)) pa_nil)))))), ?_⟩
  try dsimp only [cxOf, L2.Cx.nox, L2.Cx.wish, L2.Cx.blk]
  refine enter1 h fun x hx => ?_
  change SX _ _ [_, _, _, _, _, none] [] _
  obtain ⟨w0, t, c0, a, b⟩ := x
  have hx' := hx
  obtain ⟨ok, hc⟩ := hx
  dsimp only at ok hc hx'
  change SX _ _ [some (.dat w0.d), some (.dat (ruleD t)), some (.dat c0.d), some (.dat (.int a)), some (.dat (.int b)), none] [] _
  fail "xs"
  refine rx_inI (.inl rfl) ?_
  fail "xs"
  refine rx_inI (.inl rfl) ?_
  fail "xs"
  refine ⟨trivial, ?_⟩
  unfold gainL
  simp only [decide_eq_true_eq]
abbrev sp_need_span : Spec := Sp1 (α := Int × Int) (fun x => [.dat (.int x.1), .dat (.int x.2)]) (fun x => 0 ≤ x.1 ∧ x.1 ≤ x.2 ∧ x.2 ≤ 300) fun _ c => c = .dat .none
theorem cal_need_span {f : Addr} {fd : FuncData} (T : Tp mg) (F : Def K mg "need_span" s_need_span f fd) (B : Binds K fd ["low", "high"] []) (c_is_whole : Cal P w K mg base 1 "is_whole" (spX P w K sp_is_whole) []) : Cal P w K mg base 2 "need_span" (spX P w K sp_need_span) [] := by
  refine cal0 F B .nil sc_need_span (sp1_len fun x => rfl) (fun cdv A outer s H vs Q E hr h => ?_)
  refine ⟨_, (pss_one (ps_if (PW.pt (pw_or (pt_not (pt_val (pe_c c_is_whole hr (by decide) (by rfl) (pa_cons (pv 0) (pa_cons pe_int (pa_cons (pe_gc (by rfl) T.g_MOST_INFLOW) pa_nil)))))) (pw_or1 (pt_not (pt_val (pe_c c_is_whole hr (by decide) (by rfl) (pa_cons (pv 1) (pa_cons (pv 0) (pa_cons (pe_gc (by rfl) T.g_MOST_INFLOW) pa_nil))))))))) (pss_one ps_never) pss_nil)), ?_⟩
  try dsimp only [cxOf, L2.Cx.nox, L2.Cx.wish, L2.Cx.blk]
  refine enter1 h fun x hx => ?_
  change SX _ _ [_, _] [] _
  obtain ⟨lo, hi⟩ := x
  dsimp only at hx
  have t1 : wholeB (.int lo) (some 0) (some 300) = true := whole_int ⟨hx.1, by omega⟩
  have t2 : wholeB (.int hi) (some lo) (some 300) = true := whole_int ⟨hx.2.1, hx.2.2⟩
  change SX _ _ [some (.dat (.int lo)), some (.dat (.int hi))] [] _
  fail "xx"
  all_goals first | rfl | (exfalso; simp_all; done)
structure LeadOk (w : Well) (t : Bool) (c : Crew) (lo hi one other : Int) : Prop where
  ok : w.Ok
  cr : c.Ok w t
  sp : 0 ≤ lo ∧ lo ≤ hi ∧ hi ≤ 300
  o1 : 0 ≤ one ∧ one ≤ (c.ages.length : Int) - 1
  o2 : 0 ≤ other ∧ other ≤ (c.ages.length : Int) - 1
  ne : one ≠ other
abbrev LeadA : Type := Well × Bool × Crew × Int × Int × Int × Int
abbrev leadA (x : LeadA) : List Cl := [.dat x.1.d, .dat (ruleD x.2.1), .dat x.2.2.1.d, .dat (.int x.2.2.2.1), .dat (.int x.2.2.2.2.1), .dat (.int x.2.2.2.2.2.1), .dat (.int x.2.2.2.2.2.2)]
abbrev leadP (x : LeadA) : Prop := LeadOk x.1 x.2.1 x.2.2.1 x.2.2.2.1 x.2.2.2.2.1 x.2.2.2.2.2.1 x.2.2.2.2.2.2
abbrev sp_need_lead : Spec := Sp1 (α := LeadA) leadA leadP fun _ c => c = .dat .none
theorem cal_need_lead {f : Addr} {fd : FuncData} (T : Tp mg) (F : Def K mg "need_lead" s_need_lead f fd) (B : Binds K fd ["well", "rule", "crew", "low", "high", "one", "other"] []) (c_need_crew : Cal P w K mg base 4 "need_crew" (spX P w K sp_need_crew) []) (c_need_span : Cal P w K mg base 2 "need_span" (spX P w K sp_need_span) []) (c_is_whole : Cal P w K mg base 1 "is_whole" (spX P w K sp_is_whole) []) : Cal P w K mg base 5 "need_lead" (spX P w K sp_need_lead) [] := by
  refine cal0 F B .nil sc_need_lead (sp1_len fun x => rfl) (fun cdv A outer s H vs Q E hr h => ?_)
  refine ⟨_, (pss_cons (ps_expr (pe_c c_need_crew hr (by decide) (by rfl) (pa_cons (pv 0) (pa_cons (pv 1) (pa_cons (pv 2) pa_nil))))) (pss_cons (ps_expr (pe_c c_need_span hr (by decide) (by rfl) (pa_cons (pv 3) (pa_cons (pv 4) pa_nil)))) (pss_cons (ps_for PassesOwn.never rfl (pi_tup (pe_tupP (pa_cons (pv 5) (pa_cons (pv 6) pa_nil)))) (pg_name (i := 7) sc_need_lead.nd rfl (Or.inl rfl)) (pss_one (ps_if (pt_not (pt_val (pe_c c_is_whole hr (by decide) (by rfl) (pa_cons (pv 7) (pa_cons pe_int (pa_cons (pe_op op_sub (pe_callB (r := rLenU K P w) call_lenU (by rfl) T.b_len bo_len (pa_cons (pe_ix (r := rIxU K P w) (ix_u (hu16 hr)) (pv 2) pe_int (fun _ _ => rfl)) pa_nil)) pe_int) pa_nil)))))) (pss_one ps_never) pss_nil))) (pss_one (ps_if (pt_cmpR (r := rEqU K) (op_eqU (hu64 hr)) (pv 5) (pv 6) (nomark _)) (pss_one ps_never) pss_nil))))), ?_⟩
  try dsimp only [cxOf, L2.Cx.nox, L2.Cx.wish, L2.Cx.blk]
  refine enter1 h fun x hx => ?_
  change SX _ _ [_, _, _, _, _, _, _, none] [] _
  obtain ⟨w0, t, c0, lo, hi, a, b⟩ := x
  dsimp only [leadP] at hx
  have hwc : w0.Ok ∧ c0.Ok w0 t := ⟨hx.ok, hx.cr⟩
  have hsp := hx.sp
  have hne := hx.ne
  have t1 : wholeB (.int a) (some 0) (some (((c0.ages.map PyData.int).length : Int) - 1)) = true := whole_int (by rw [List.length_map]; exact hx.o1)
  have t2 : wholeB (.int b) (some 0) (some (((c0.ages.map PyData.int).length : Int) - 1)) = true := whole_int (by rw [List.length_map]; exact hx.o2)
  change SX _ _ [some (.dat w0.d), some (.dat (ruleD t)), some (.dat c0.d), some (.dat (.int lo)), some (.dat (.int hi)), some (.dat (.int a)), some (.dat (.int b)), none] [] _
  fail "xs"
  refine sx_for (ix_tup ?_)
  fail "xs"
  refine ⟨fun i γ os => γ = [some (.dat w0.d), some (.dat (ruleD t)), some (.dat c0.d), some (.dat (.int lo)), some (.dat (.int hi)), some (.dat (.int a)), some (.dat (.int b)), none] ∧ os = [], ⟨rfl, rfl⟩, ?_⟩
  rintro i γ1 os2 hi ⟨rfl, rfl⟩
  refine ⟨fun hE => ?_, fun c hcc => ?_⟩
  · fail "xs"
    refine ⟨fun hb => absurd (of_decide_eq_true hb) hne, fun hb => ?_⟩
    fail "xs"
  · obtain ⟨d, e1, rfl⟩ := dat_at hcc
    have hd : wholeB d (some 0) (some (((c0.ages.map PyData.int).length : Int) - 1)) = true := by
      cases i with
      | zero => cases e1; exact t1
      | succ i =>
        cases i with
        | zero => cases e1; exact t2
        | succ i => simp at e1
    fail "xs"
    rw [hd]
    fail "xs"
    exact ⟨_, _, ⟨rfl, rfl⟩, by fail "wk"⟩
def stepsF (w : Well) (t : Bool) (c : Crew) (lo : Int) : Nat → List (Int × Crew)
  | 0 => []
  | i + 1 => match nextC w t c (lo + (i : Nat)) with
    | some c' => if c' ∈ (stepsF w t c lo i).map (·.2) then stepsF w t c lo i else stepsF w t c lo i ++ [(lo + (i : Nat), c')]
    | none => stepsF w t c lo i
def stepsL (w : Well) (t : Bool) (c : Crew) (lo hi : Int) : List (Int × Crew) := stepsF w t c lo (hi + 1 - lo).toNat
def pairD (p : Int × Crew) : PyData := .tuple [.int p.1, p.2.d]
def knownL (l : List (Int × Crew)) : List (Crew × PyData) := l.map fun p => (p.2, .bool true)
theorem stepsF_len {w : Well} {t : Bool} {c : Crew} {lo : Int} : ∀ i : Nat, (stepsF w t c lo i).length ≤ i
  | 0 => Nat.le_refl _
  | i + 1 => by
    have := stepsF_len (w := w) (t := t) (c := c) (lo := lo) i
    unfold stepsF
    split
    · split
      · omega
      · rw [List.length_append, List.length_singleton]; omega
    · omega
theorem known_look {l : List (Int × Crew)} {c : Crew} : (look (knownL l) c).isSome = decide (c ∈ l.map (·.2)) := by
  induction l with
  | nil => rfl
  | cons p l ih =>
    show (look ((p.2, PyData.bool true) :: knownL l) c).isSome = _
    rw [look_cons]
    by_cases h : p.2 = c
    · rw [if_pos h]; simp [h]
    · rw [if_neg h, ih]
      have h2 : ¬ c = p.2 := fun z => h z.symm
      simp [h2]
abbrev StepA : Type := Well × Bool × Crew × Int × Int
abbrev stepA (x : StepA) : List Cl := [.dat x.1.d, .dat (ruleD x.2.1), .dat x.2.2.1.d, .dat (.int x.2.2.2.1), .dat (.int x.2.2.2.2)]
structure StepP (w : Well) (t : Bool) (c : Crew) (lo hi : Int) : Prop where
  ok : w.Ok
  cr : c.Ok w t
  sp : 0 ≤ lo ∧ lo ≤ hi ∧ hi ≤ 300
abbrev sp_steps_of : Spec := Sp1 (α := StepA) stepA (fun x => StepP x.1 x.2.1 x.2.2.1 x.2.2.2.1 x.2.2.2.2) fun x c => c = .dat (.list ((stepsL x.1 x.2.1 x.2.2.1 x.2.2.2.1 x.2.2.2.2).map pairD))
theorem cal_steps_of {f : Addr} {fd : FuncData} (T : Tp mg) (F : Def K mg "steps_of" s_steps_of f fd) (B : Binds K fd ["well", "rule", "crew", "low", "high"] []) (c_crew_in : Cal P w K mg base 4 "crew_in" (spX P w K sp_crew_in) []) : Cal P w K mg base 5 "steps_of" (spX P w K sp_steps_of) [] := by
  refine cal0 F B .nil sc_steps_of (sp1_len fun x => rfl) (fun cdv A outer s H vs Q E hr h => ?_)
  refine ⟨_, (pss_cons (ps_par (i := 5) (j := 6) (by rfl) sc_steps_of.nd rfl rfl (by decide) rfl rfl (pa_cons (pe_lst pa_nil) (pa_cons pe_newN pa_nil)) (by rfl)) (pss_cons (ps_for PassesOwn.never rfl (pi_range2 (by rfl) T.b_range (pa_cons (pv 3) (pa_cons (pe_op op_add (pv 4) pe_int) pa_nil))) (pg_name (i := 7) sc_steps_of.nd rfl (Or.inl rfl)) (pss_cons (ps_set (i := 8) sc_steps_of.nd rfl (Or.inl rfl) (pe_c c_crew_in hr (by decide) (by rfl) (pa_cons (pv 0) (pa_cons (pv 1) (pa_cons (pv 2) (pa_cons (pv 7) pa_nil)))))) (pss_one (ps_if (PW.pt (pw_and (pt_cmpR (r := rInU K P w true) (op_notInU (hu65 hr)) (pv 8) (pe_tupP (pa_cons (pe_gc (by rfl) T.g_OVER) (pa_cons (pe_gc (by rfl) T.g_DRY) pa_nil))) (by rfl)) (pw_and1 (pt_cmpR (r := rInU K P w true) (op_notInU (hu65 hr)) (pv 8) (pv 6) (by rfl))))) (pss_cons (ps_asg pe_bl (pg_sub (pv 6) (pv 8) (set_u (hu16 hr)))) (pss_one (ps_expr (pe_bm PySem.F.plainAttrs_list PySem.F.slot_list_append PySem.F.type_list_append mt_append (pv 5) (pa_cons (pe_tupP (pa_cons (pv 7) (pa_cons (pv 8) pa_nil))) pa_nil))))) pss_nil)))) (pss_one (ps_ret (pe_frz (pv 5)))))), ?_⟩
  try dsimp only [cxOf, L2.Cx.nox, L2.Cx.wish, L2.Cx.blk]
  refine enter1 h fun x hx => ?_
  change SX _ _ [_, _, _, _, _, none, none, none, none] [] _
  obtain ⟨w0, t, c0, lo, hi⟩ := x
  dsimp only at hx
  have hwc : w0.Ok ∧ c0.Ok w0 t := ⟨hx.ok, hx.cr⟩
  have hsp := hx.sp
  change SX _ _ [some (.dat w0.d), some (.dat (ruleD t)), some (.dat c0.d), some (.dat (.int lo)), some (.dat (.int hi)), none, none, none, none] [] _
  fail "xs"
  refine ex_newN ?_
  fail "xs"
  refine sx_for (ix_rng2 ?_)
  fail "xs"
  refine ⟨⟨by omega, by omega, by omega, by omega⟩, fun i γ os => γ = [some (.dat w0.d), some (.dat (ruleD t)), some (.dat c0.d), some (.dat (.int lo)), some (.dat (.int hi)), some (.own 0), some (.own 1), none, none] ∧ os = [.lst ((stepsF w0 t c0 lo i).map pairD), .dic (knownL (stepsF w0 t c0 lo i))], ⟨rfl, rfl⟩, ?_⟩
  rintro i γ1 os2 hi ⟨rfl, rfl⟩
  refine ⟨fun hE => ?_, fun c hcc => ?_⟩
  · refine sx_ret (ex_frz ?_)
    fail "xs"
    refine ⟨trivial, ?_⟩
    rw [hE, rngC_len]
    rfl
  · obtain ⟨hin, rfl⟩ := rng_at hcc
    have hlen : ((stepsF w0 t c0 lo i).map pairD).length < sizeLine := by
      rw [List.length_map]
      have := stepsF_len (w := w0) (t := t) (c := c0) (lo := lo) i
      exact small (k := 301) (by omega) rfl
    have hlen2 : (knownL (stepsF w0 t c0 lo i)).length < sizeLine := by
      unfold knownL
      rw [List.length_map]
      rw [List.length_map] at hlen
      exact hlen
    fail "xs"
    cases hn : nextC w0 t c0 (lo + ((i : Nat) : Int)) with
    | none =>
      have e1 : stepsF w0 t c0 lo (i + 1) = stepsF w0 t c0 lo i := by
        show (match nextC w0 t c0 (lo + ((i : Nat) : Int)) with | some c' => _ | none => _) = _
        rw [hn]
      rcases step_none hn with e | e <;> rw [e]
      · refine rx_notInT rfl rfl (by decide +kernel) shaped_words ?_
        rw [any_str]
        fail "xs"
        refine ⟨_, _, ⟨rfl, rfl⟩, ?_⟩
        rw [e1]
        fail "wk"
      · refine rx_notInT rfl rfl (by decide +kernel) shaped_words ?_
        rw [any_str]
        fail "xs"
        refine ⟨_, _, ⟨rfl, rfl⟩, ?_⟩
        rw [e1]
        fail "wk"
    | some c' =>
      rw [step_some hn]
      refine rx_notInT rfl rfl (shaped_crew c') shaped_words ?_
      rw [any_crew]
      fail "xs"
      refine rx_notInN rfl ?_
      rw [known_look]
      fail "xs"
      refine ⟨fun hb => ?_, fun hb => ?_⟩
      · have hb' : ¬ c' ∈ (stepsF w0 t c0 lo i).map (·.2) := of_decide_eq_false (by simpa only [Bool.not_eq_true'] using hb)
        have e1 : stepsF w0 t c0 lo (i + 1) = stepsF w0 t c0 lo i ++ [(lo + ((i : Nat) : Int), c')] := by
          show (match nextC w0 t c0 (lo + ((i : Nat) : Int)) with | some c' => _ | none => _) = _
          rw [hn]
          exact if_neg hb'
        have e2 : put (knownL (stepsF w0 t c0 lo i)) c' (.bool true) = knownL (stepsF w0 t c0 lo (i + 1)) := by
          have hz : (look (knownL (stepsF w0 t c0 lo i)) c').isSome = false := by rw [known_look]; exact decide_eq_false hb'
          unfold put
          rw [hz, e1]
          unfold knownL
          rw [List.map_append]
          rfl
        refine sx_seq (sx_asg (ex_bl (gx_subN (ex_var rfl (ex_var rfl ⟨_, _, c', _, rfl, rfl, rfl, rfl, hlen2, ?_⟩)))))
        rw [e2]
        fail "xs"
        refine ⟨_, _, ⟨rfl, rfl⟩, ?_⟩
        rw [e1, List.map_append]
        fail "wk"
      · have hb' : c' ∈ (stepsF w0 t c0 lo i).map (·.2) := of_decide_eq_true (by simpa only [Bool.not_eq_false'] using hb)
        have e1 : stepsF w0 t c0 lo (i + 1) = stepsF w0 t c0 lo i := by
          show (match nextC w0 t c0 (lo + ((i : Nat) : Int)) with | some c' => _ | none => _) = _
          rw [hn]
          exact if_pos hb'
        fail "xs"
        refine ⟨_, _, ⟨rfl, rfl⟩, ?_⟩
        rw [e1]
        fail "wk"
end
end Pk
/-! Pk, part U: the graph of the crews. -/
namespace Pk
open PySem PySem.Spec PyProof.Rows L2 C8

theorem nodup_sub {α : Type} [DecidableEq α] : ∀ {l S : List α}, l.Nodup → (∀ x ∈ l, x ∈ S) → l.length ≤ S.length
  | [], _, _, _ => Nat.zero_le _
  | a :: l, S, nd, h => by
    rw [List.nodup_cons] at nd
    have ha := h a List.mem_cons_self
    have := nodup_sub (S := S.erase a) nd.2 fun x hx => by
      refine (List.mem_erase_of_ne ?_).mpr (h x (List.mem_cons_of_mem _ hx))
      rintro rfl
      exact nd.1 hx
    rw [List.length_erase_of_mem ha] at this
    have hp : 0 < S.length := List.length_pos_of_mem ha
    rw [List.length_cons]
    omega
theorem steps_at {w : Well} {t : Bool} {c : Crew} {lo : Int} : ∀ {i : Nat} {p : Int × Crew}, p ∈ stepsF w t c lo i → lo ≤ p.1 ∧ p.1 < lo + (i : Nat) ∧ nextC w t c p.1 = some p.2
  | 0, p, h => nomatch h
  | i + 1, p, h => by
    unfold stepsF at h
    split at h
    · rename_i c' hn
      split at h
      · obtain ⟨h1, h2, h3⟩ := steps_at h
        exact ⟨h1, by omega, h3⟩
      · rcases List.mem_append.mp h with h | h
        · obtain ⟨h1, h2, h3⟩ := steps_at h
          exact ⟨h1, by omega, h3⟩
        · rw [List.mem_singleton.mp h]
          exact ⟨by show lo ≤ lo + ((i : Nat) : Int); omega, by show lo + ((i : Nat) : Int) < _; omega, hn⟩
    · obtain ⟨h1, h2, h3⟩ := steps_at h
      exact ⟨h1, by omega, h3⟩
theorem steps_all {w : Well} {t : Bool} {c c' : Crew} {lo : Int} : ∀ {i j : Nat}, j < i → nextC w t c (lo + (j : Nat)) = some c' → c' ∈ (stepsF w t c lo i).map (·.2)
  | 0, _, h, _ => absurd h (Nat.not_lt_zero _)
  | i + 1, j, h, e => by
    unfold stepsF
    by_cases hj : j = i
    · subst hj
      rw [e]
      dsimp only
      split
      · assumption
      · rw [List.map_append, List.mem_append]
        exact .inr (List.mem_singleton.mpr rfl)
    · have ih := steps_all (i := i) (show j < i by omega) e
      split
      · split
        · exact ih
        · rw [List.map_append, List.mem_append]
          exact .inl ih
      · exact ih
theorem stepL_mem {w : Well} {t : Bool} {c : Crew} {lo hi : Int} {p : Int × Crew} (h : p ∈ stepsL w t c lo hi) : lo ≤ p.1 ∧ p.1 ≤ hi ∧ nextC w t c p.1 = some p.2 := by
  obtain ⟨h1, h2, h3⟩ := steps_at h
  exact ⟨h1, by omega, h3⟩
theorem stepL_all {w : Well} {t : Bool} {c c' : Crew} {lo hi x : Int} (h1 : lo ≤ x) (h2 : x ≤ hi) (e : nextC w t c x = some c') : c' ∈ (stepsL w t c lo hi).map (·.2) := by
  have hx : lo + (((x - lo).toNat : Nat) : Int) = x := by omega
  exact steps_all (j := (x - lo).toNat) (by omega) (by rw [hx]; exact e)
theorem stepL_len {w : Well} {t : Bool} {c : Crew} {lo hi : Int} (h : 0 ≤ lo ∧ lo ≤ hi ∧ hi ≤ 300) : (stepsL w t c lo hi).length ≤ 301 := by
  have := stepsF_len (w := w) (t := t) (c := c) (lo := lo) (hi + 1 - lo).toNat
  unfold stepsL
  omega
/-- what is reached from r -/
inductive Rch (w : Well) (t : Bool) (lo hi : Int) (r : Crew) : Crew → Prop where
  | root : Rch w t lo hi r r
  | step {k : Crew} {p : Int × Crew} : Rch w t lo hi r k → p ∈ stepsL w t k lo hi → Rch w t lo hi r p.2
/-- a small set that holds all that is reached -/
structure Bnd (w : Well) (t : Bool) (lo hi : Int) (S : List Crew) : Prop where
  len : S.length ≤ 60
  ok : ∀ k ∈ S, k.Ok w t
  clo : ∀ k ∈ S, ∀ p ∈ stepsL w t k lo hi, p.2 ∈ S
theorem Rch.mem {w : Well} {t : Bool} {lo hi : Int} {S : List Crew} {r k : Crew} (b : Bnd w t lo hi S) (hr : r ∈ S) (h : Rch w t lo hi r k) : k ∈ S := by
  induction h with
  | root => exact hr
  | step _ hp ih => exact b.clo _ ih _ hp
def linkD (w : Well) (t : Bool) (lo hi : Int) (k : Crew) : PyData := .list ((stepsL w t k lo hi).map pairD)
/-- a table by its keys -/
def tabL (f : Crew → PyData) (ks : List Crew) : List (Crew × PyData) := ks.map fun k => (k, f k)
theorem tab_look {f : Crew → PyData} {k : Crew} : ∀ {ks : List Crew}, look (tabL f ks) k = if k ∈ ks then some (f k) else none
  | [] => rfl
  | a :: ks => by
    show look ((a, f a) :: tabL f ks) k = _
    rw [look_cons, tab_look]
    by_cases h : a = k
    · subst h; simp
    · have h2 : ¬ k = a := fun z => h z.symm
      simp [h, h2]
theorem tab_put {f : Crew → PyData} {k : Crew} {ks : List Crew} (h : k ∉ ks) : put (tabL f ks) k (f k) = tabL f (ks ++ [k]) := by
  unfold put
  rw [tab_look, if_neg h]
  show tabL f ks ++ [(k, f k)] = _
  unfold tabL
  rw [List.map_append]
  rfl
theorem tab_len {f : Crew → PyData} {ks : List Crew} : (tabL f ks).length = ks.length := by unfold tabL; rw [List.length_map]
structure Grp (w : Well) (t : Bool) (lo hi : Int) (r : Crew) (S ks : List Crew) : Prop where
  nd : ks.Nodup
  root : r ∈ ks
  sub : ∀ k ∈ ks, k ∈ S
  rch : ∀ k ∈ ks, Rch w t lo hi r k
structure Graph (w : Well) (t : Bool) (lo hi : Int) (r : Crew) (S ks : List Crew) : Prop extends Grp w t lo hi r S ks where
  clo : ∀ k ∈ ks, ∀ p ∈ stepsL w t k lo hi, p.2 ∈ ks
/-- the loop: ks found, wl waiting -/
structure GrI (w : Well) (t : Bool) (lo hi : Int) (r : Crew) (S ks wl : List Crew) : Prop extends Grp w t lo hi r S ks where
  wait : ∀ k ∈ wl, k ∈ ks
  clo : ∀ k ∈ ks, k ∉ wl → ∀ p ∈ stepsL w t k lo hi, p.2 ∈ ks
/-- the inner loop: u is walked, i of its steps are seen -/
structure GrJ (w : Well) (t : Bool) (lo hi : Int) (r : Crew) (S ks wl : List Crew) (u : Crew) (i : Nat) : Prop extends Grp w t lo hi r S ks where
  wait : ∀ k ∈ wl, k ∈ ks
  cur : u ∈ ks
  clo : ∀ k ∈ ks, k ∉ wl → k ≠ u → ∀ p ∈ stepsL w t k lo hi, p.2 ∈ ks
  part : ∀ p ∈ (stepsL w t u lo hi).take i, p.2 ∈ ks
section
variable {w : Well} {t : Bool} {lo hi : Int} {r u : Crew} {S ks wl : List Crew} {i : Nat}
theorem Grp.len (g : Grp w t lo hi r S ks) (b : Bnd w t lo hi S) : ks.length ≤ 60 := Nat.le_trans (nodup_sub g.nd g.sub) b.len
theorem Grp.snoc (g : Grp w t lo hi r S ks) (b : Bnd w t lo hi S) {p : Int × Crew} (hu : u ∈ ks) (hp : p ∈ stepsL w t u lo hi) (hn : p.2 ∉ ks) : Grp w t lo hi r S (ks ++ [p.2]) := by
  refine ⟨?_, List.mem_append_left _ g.root, fun k hk => ?_, fun k hk => ?_⟩
  · rw [List.nodup_append]
    refine ⟨g.nd, List.nodup_cons.mpr ⟨by simp, List.nodup_nil⟩, fun a ha b hb => ?_⟩
    rw [List.mem_singleton.mp hb]
    rintro rfl
    exact hn ha
  · rcases List.mem_append.mp hk with hk | hk
    · exact g.sub k hk
    · rw [List.mem_singleton.mp hk]
      exact b.clo u (g.sub u hu) p hp
  · rcases List.mem_append.mp hk with hk | hk
    · exact g.rch k hk
    · rw [List.mem_singleton.mp hk]
      exact .step (g.rch u hu) hp
theorem GrI.done (g : GrI w t lo hi r S ks []) : Graph w t lo hi r S ks := ⟨g.toGrp, fun k hk => g.clo k hk (by simp)⟩
theorem GrI.pop (g : GrI w t lo hi r S ks (wl ++ [u])) : GrJ w t lo hi r S ks wl u 0 :=
  ⟨g.toGrp, fun k hk => g.wait k (List.mem_append_left _ hk), g.wait u (by simp), fun k hk h1 h2 => g.clo k hk (by simp [h1, h2]), fun p hp => by simp at hp⟩
theorem GrJ.done (g : GrJ w t lo hi r S ks wl u i) (hi' : (stepsL w t u lo hi).length ≤ i) : GrI w t lo hi r S ks wl := by
  refine ⟨g.toGrp, g.wait, fun k hk h1 p hp => ?_⟩
  by_cases e : k = u
  · subst e
    exact g.part p (by rw [List.take_of_length_le hi']; exact hp)
  · exact g.clo k hk h1 e p hp
theorem GrJ.seen (g : GrJ w t lo hi r S ks wl u i) {p : Int × Crew} (hp : (stepsL w t u lo hi)[i]? = some p) (hn : p.2 ∈ ks) : GrJ w t lo hi r S ks wl u (i + 1) := by
  refine ⟨g.toGrp, g.wait, g.cur, g.clo, fun q hq => ?_⟩
  rw [List.take_add_one, hp] at hq
  rcases List.mem_append.mp hq with hq | hq
  · exact g.part q hq
  · have : q = p := by simpa using hq
    rw [this]; exact hn
theorem GrJ.new (g : GrJ w t lo hi r S ks wl u i) (b : Bnd w t lo hi S) {p : Int × Crew} (hp : (stepsL w t u lo hi)[i]? = some p) (hn : p.2 ∉ ks) : GrJ w t lo hi r S (ks ++ [p.2]) (wl ++ [p.2]) u (i + 1) := by
  refine ⟨g.toGrp.snoc b g.cur (List.mem_of_getElem? hp) hn, fun k hk => ?_, List.mem_append_left _ g.cur, fun k hk h1 h2 q hq => ?_, fun q hq => ?_⟩
  · rcases List.mem_append.mp hk with hk | hk
    · exact List.mem_append_left _ (g.wait k hk)
    · exact List.mem_append_right _ hk
  · have h3 : k ∉ [p.2] := fun z => h1 (List.mem_append_right _ z)
    have h4 : k ∈ ks := (List.mem_append.mp hk).elim id fun z => absurd z h3
    exact List.mem_append_left _ (g.clo k h4 (fun z => h1 (List.mem_append_left _ z)) h2 q hq)
  · rw [List.take_add_one, hp] at hq
    rcases List.mem_append.mp hq with hq | hq
    · exact List.mem_append_left _ (g.part q hq)
    · have : q = p := by simpa using hq
      rw [this]; exact List.mem_append_right _ (by simp)
end
end Pk
/-! W7 (printed by gen/mk.py) -/
namespace Pk
open PySem PySem.Spec PyProof.Rows L2 C8

local macro_rules | `(tactic| fail "x1") => `(tactic| (first
  | (guard_target =~ EX _ _ _ _ _; first
    | ((with_reducible apply ex_var); exact rfl)
    | with_reducible refine ex_int ?_
    | with_reducible refine ex_op ?_
    | with_reducible refine ex_cb ?_
    | with_reducible refine ex_str ?_
    | with_reducible refine ex_non ?_
    | with_reducible refine ex_bl ?_
    | with_reducible refine ex_ty ?_
    | with_reducible refine ex_call1 ?_
    | with_reducible refine ex_if ?_
    | with_reducible refine ex_and ?_
    | with_reducible refine ex_or ?_
    | with_reducible refine ex_not ?_
    | with_reducible refine ex_chain ?_
    | with_reducible refine ex_tup ?_
    | with_reducible refine ex_lst ?_
    | with_reducible refine ex_append ?_
    | with_reducible refine ex_frzL ?_
    | with_reducible refine ex_frzSl ?_
    | with_reducible refine ex_frzRev ?_
    | with_reducible refine ex_frzRg ?_
    | with_reducible refine ex_un ?_
    | with_reducible refine ex_slT ?_
    | fail "stop")
  | (guard_target =~ AX _ _ _ _ _; first
    | with_reducible refine ax_cons ?_
    | with_reducible refine ax_nil ?_
    | fail "stop")
  | (guard_target =~ SX _ _ _ _ _; first
    | with_reducible refine sx_seq ?_
    | with_reducible refine sx_set ?_
    | with_reducible refine sx_if ?_
    | with_reducible refine sx_ret ?_
    | with_reducible refine sx_next ?_
    | with_reducible refine sx_asg ?_
    | with_reducible refine sx_drop ?_
    | with_reducible refine sx_par ?_
    | with_reducible refine sx_par3 ?_
    | fail "stop")
  | (guard_target =~ TX _ _ _ _ _; first
    | with_reducible refine tx_b ?_
    | with_reducible refine tx_test ?_
    | with_reducible refine tx_and ?_
    | with_reducible refine tx_or ?_
    | with_reducible refine tx_not ?_
    | with_reducible refine tx_yes ?_
    | fail "stop")
  | (guard_target =~ RX _ _ _ _ _ _; first
    | with_reducible refine rx_add ?_
    | with_reducible refine rx_sub ?_
    | ((with_reducible apply rx_mod); (first | assumption | omega))
    | ((with_reducible apply rx_mul); (first | assumption | exact .inl ⟨by omega, by omega⟩))
    | with_reducible refine rx_lt ?_
    | with_reducible refine rx_le ?_
    | with_reducible refine rx_gt ?_
    | with_reducible refine rx_ge ?_
    | with_reducible refine rx_isN ?_
    | with_reducible refine rx_notN ?_
    | with_reducible refine rx_eqI ?_
    | with_reducible refine rx_neI ?_
    | with_reducible refine rx_eqRule ?_
    | with_reducible refine rx_eqS ?_
    | with_reducible refine rx_neS ?_
    | ((with_reducible apply rx_ix0); exact rfl; exact rfl)
    | ((with_reducible apply rx_ix1); exact rfl; exact rfl)
    | ((with_reducible apply rx_ix2); exact rfl; exact rfl)
    | ((with_reducible apply rx_ix3); exact rfl; exact rfl)
    | ((with_reducible apply rx_ix4); exact rfl; exact rfl)
    | ((with_reducible apply rx_ix5); exact rfl; exact rfl)
    | ((with_reducible apply rx_ix6); exact rfl; exact rfl)
    | ((with_reducible apply rx_ix7); exact rfl; exact rfl)
    | ((with_reducible apply rx_ix8); exact rfl; exact rfl)
    | ((with_reducible apply rx_ixL0); exact rfl; exact rfl)
    | ((with_reducible apply rx_ixL1); exact rfl; exact rfl)
    | fail "stop")
  | (guard_target =~ BX _ _ _ _ _; first
    | with_reducible refine bx_isInt ?_
    | with_reducible refine bx_isBool ?_
    | with_reducible refine bx_isStr ?_
    | with_reducible refine bx_isTup ?_
    | with_reducible refine bx_intI ?_
    | with_reducible refine bx_intB ?_
    | with_reducible refine bx_min2 ?_
    | with_reducible refine bx_max2 ?_
    | ((with_reducible apply bx_lenT); exact rfl)
    | ((with_reducible apply bx_lenL); exact rfl)
    | ((with_reducible apply bx_lenN); exact rfl)
    | fail "stop")
  | ((with_reducible apply gx_tup); exact rfl; exact rfl)
  | (guard_target =~ GsX _ _ _ _ _ _; first | refine gsx_cons ?_ | refine gsx_nil ?_ | fail "stop")
  | with_reducible refine gx_name ?_
  | with_reducible refine ox_some ?_
  | with_reducible refine ox_none ?_
  | with_reducible refine ux_neg ?_
  | refine ⟨_, rfl, Nat.le_of_ble_eq_true rfl, rfl, ?_⟩
  | refine ⟨_, rfl, Nat.le_of_ble_eq_true rfl, ?_⟩
  | refine ⟨_, _, rfl, rfl, by assumption, ?_⟩
  | refine ⟨_, _, rfl, rfl, ?_⟩
  | refine ⟨_, _, rfl, ?_⟩
  | refine ⟨_, rfl, ?_⟩
  | refine ⟨rfl, (_, some _, some _), rfl, trivial, ?_⟩
  | refine ⟨rfl, (_, some _, none), rfl, trivial, ?_⟩
  | refine ⟨rfl, (_, _), rfl, by assumption, ?_⟩
  | refine ⟨rfl, (_, _, _), rfl, by assumption, ?_⟩
  | refine ⟨rfl, (_, _, _, _), rfl, by assumption, ?_⟩
  | ((with_reducible intro c hc); subst hc)
  | refine ⟨fun hb => Bool.noConfusion hb, fun _ => ?_⟩
  | refine ⟨fun _ => ?_, fun hb => Bool.noConfusion hb⟩
  | dsimp only
  | fail "stop"))
local macro_rules | `(tactic| fail "xc") => `(tactic| (first | (refine ⟨fun hb => ?_, fun hb => ?_⟩ <;> first | exact Bool.noConfusion hb | skip) | fail "stop"))
local macro_rules | `(tactic| fail "xs") => `(tactic| repeat fail "x1")
local macro_rules | `(tactic| fail "xx") => `(tactic| repeat' (first | fail "x1" | fail "xc" | fail "stop"))
local macro_rules | `(tactic| fail "wk") => `(tactic| (first | (refine ⟨?_, rfl⟩; repeat (first | exact Wc.nil | refine Wc.keep (by first | exact trivial | exact Nat.le_of_ble_eq_true rfl) ?_ | refine Wc.drop ?_)) | fail "stop"))

section
variable {P : Program} {w : World} {K : PySem.W.Frag} {mg : Str → Option Value} {base : Heap}
structure GraphP (w : Well) (t : Bool) (c : Crew) (lo hi : Int) (S : List Crew) : Prop where
  st : StepP w t c lo hi
  mem : c ∈ S
  bnd : Bnd w t lo hi S
abbrev sp_graph_of : Spec := Sp1 (α := StepA × List Crew) (fun x => stepA x.1) (fun x => GraphP x.1.1 x.1.2.1 x.1.2.2.1 x.1.2.2.2.1 x.1.2.2.2.2 x.2) fun x c => ∃ ks, Graph x.1.1 x.1.2.1 x.1.2.2.2.1 x.1.2.2.2.2 x.1.2.2.1 x.2 ks ∧ c = .fd (tabL (linkD x.1.1 x.1.2.1 x.1.2.2.2.1 x.1.2.2.2.2) ks)
theorem cal_graph_of {f : Addr} {fd : FuncData} (T : Tp mg) (F : Def K mg "graph_of" s_graph_of f fd) (B : Binds K fd ["well", "rule", "crew", "low", "high"] []) (c_steps_of : Cal P w K mg base 5 "steps_of" (spX P w K sp_steps_of) []) : Cal P w K mg base 6 "graph_of" (spX P w K sp_graph_of) [] := by
  refine cal0 F B .nil sc_graph_of (sp1_len fun x => rfl) (fun cdv A outer s H vs Q E hr h => ?_)
  refine ⟨_, (pss_cons (ps_par (i := 5) (j := 6) (by rfl) sc_graph_of.nd rfl rfl (by decide) rfl rfl (pa_cons (pe_disp1N (hu16 hr) (pv 2) (pe_c c_steps_of hr (by decide) (by rfl) (pa_cons (pv 0) (pa_cons (pv 1) (pa_cons (pv 2) (pa_cons (pv 3) (pa_cons (pv 4) pa_nil))))))) (pa_cons (pe_lst (pa_cons (pv 2) pa_nil)) pa_nil)) (by rfl)) (pss_cons (ps_while PassesOwn.never (pt_cmpR (r := rNeU K) (op_neU (hu64 hr)) (pv 6) (pe_frz (pe_lst pa_nil)) (nomark _)) (pss_one (ps_for PassesOwn.never rfl (pi_list (pe_ix (r := rIxU K P w) (ix_u (hu16 hr)) (pv 5) (pe_bm0 PySem.F.plainAttrs_list PySem.F.slot_list_pop PySem.F.type_list_pop mt_pop (pv 6)) (fun _ _ => rfl))) (pg_tup rfl (pgs_cons (pg_name (i := 7) sc_graph_of.nd rfl (Or.inl rfl)) (pgs_cons (pg_name (i := 8) sc_graph_of.nd rfl (Or.inl rfl)) pgs_nil))) (pss_one (ps_if (pt_cmpR (r := rInU K P w true) (op_notInU (hu65 hr)) (pv 8) (pv 5) (by rfl)) (pss_cons (ps_asg (pe_c c_steps_of hr (by decide) (by rfl) (pa_cons (pv 0) (pa_cons (pv 1) (pa_cons (pv 8) (pa_cons (pv 3) (pa_cons (pv 4) pa_nil)))))) (pg_sub (pv 5) (pv 8) (set_u (hu16 hr)))) (pss_cons (ps_expr (pe_bm PySem.F.plainAttrs_list PySem.F.slot_list_append PySem.F.type_list_append mt_append (pv 6) (pa_cons (pv 8) pa_nil))) (pss_one (ps_if (pt_cmpR op_gt (pe_callB (r := rLenU K P w) call_lenU (by rfl) T.b_len bo_len (pa_cons (pv 5) pa_nil)) (pe_gc (by rfl) T.g_MOST_CREWS) (nomark _)) (pss_one ps_never) pss_nil)))) pss_nil))))) (pss_one (ps_ret (pe_frzD (pv 5)))))), ?_⟩
  try dsimp only [cxOf, L2.Cx.nox, L2.Cx.wish, L2.Cx.blk]
  refine enter1 h fun x hx => ?_
  change SX _ _ [_, _, _, _, _, none, none, none, none] [] _
  obtain ⟨⟨w0, t, c0, lo, hi⟩, S⟩ := x
  dsimp only at hx
  have hst := hx.st
  have b := hx.bnd
  have hsp := hst.sp
  have stp : ∀ k, k ∈ S → StepP w0 t k lo hi := fun k hk => ⟨hst.ok, b.ok k hk, hsp⟩
  change SX _ _ [some (.dat w0.d), some (.dat (ruleD t)), some (.dat c0.d), some (.dat (.int lo)), some (.dat (.int hi)), none, none, none, none] [] _
  refine sx_seq (sx_par (ax_cons (ex_disp1N ?_)))
  refine ex_var rfl ?_
  fail "xs"
  refine ⟨rfl, (w0, t, c0, lo, hi), rfl, hst, ?_⟩
  fail "xs"
  refine ⟨rfl, ?_⟩
  fail "xs"
  refine sx_while ⟨fun m γ os => ∃ ks wl, GrI w0 t lo hi c0 S ks wl ∧ m = 2 * (60 - ks.length) + wl.length ∧ m ≤ 119 ∧ γ = [some (.dat w0.d), some (.dat (ruleD t)), some (.dat c0.d), some (.dat (.int lo)), some (.dat (.int hi)), some (.own 0), some (.own 1), none, none] ∧ os = [.dic (tabL (linkD w0 t lo hi) ks), .lst (wl.map Crew.d)], ⟨_, [c0], [c0], ?_, rfl, by simp, rfl, rfl⟩, ?_⟩
  · exact ⟨⟨by simp, by simp, fun k hk => by rw [List.mem_singleton.mp hk]; exact hx.mem, fun k hk => by rw [List.mem_singleton.mp hk]; exact .root⟩, fun k hk => hk, fun k hk h1 => absurd hk h1⟩
  rintro m γ1 os1 ⟨ks, wl, gi, rfl, hm0, rfl, rfl⟩
  fail "xs"
  refine rx_neD rfl rfl (shaped_crews wl) shaped_nil ?_
  rw [eqv_nil]
  fail "xs"
  rcases List.eq_nil_or_concat wl with rfl | ⟨wl', u, rfl⟩
  · fail "xs"
    refine ex_frzD ?_
    fail "xs"
    exact ⟨trivial, ks, gi.done, rfl⟩
  rw [List.concat_eq_append] at gi hm0 ⊢
  have gj := gi.pop
  have hdl : ((wl' ++ [u]).map Crew.d).dropLast = wl'.map Crew.d := by simp
  refine ⟨fun _ => ?_, fun hb => by simp at hb⟩
  refine sx_for (ix_list (ex_op (ex_var rfl (ex_pop (ex_var rfl ⟨_, _, u.d, rfl, rfl, by simp, ?_⟩)))))
  rw [hdl]
  refine rx_ixN rfl (x := linkD w0 t lo hi u) (by rw [tab_look, if_pos gj.cur]) ?_
  refine ⟨_, rfl, fun i γ os => ∃ ks1 wl1, GrJ w0 t lo hi c0 S ks1 wl1 u i ∧ 2 * (60 - ks1.length) + wl1.length < 2 * (60 - ks.length) + (wl' ++ [u]).length ∧ γ = [some (.dat w0.d), some (.dat (ruleD t)), some (.dat c0.d), some (.dat (.int lo)), some (.dat (.int hi)), some (.own 0), some (.own 1), none, none] ∧ os = [.dic (tabL (linkD w0 t lo hi) ks1), .lst (wl1.map Crew.d)], ⟨ks, wl', gj, by rw [List.length_append, List.length_singleton]; omega, rfl, rfl⟩, ?_⟩
  rintro i γ1 os2 hi2 ⟨ks1, wl1, gk, hm, rfl, rfl⟩
  refine ⟨fun hE => ?_, fun c hcc => ?_⟩
  · rw [List.length_map, List.length_map] at hE
    exact ⟨_, _, ⟨_, hm, ks1, wl1, gk.done (Nat.le_of_eq hE.symm), rfl, by omega, rfl, rfl⟩, by fail "wk"⟩
  · obtain ⟨d, e1, rfl⟩ := dat_at hcc
    obtain ⟨p, e2, rfl⟩ := map_at e1
    unfold pairD
    fail "xs"
    refine rx_notInN rfl ?_
    rw [tab_look]
    by_cases hin : p.2 ∈ ks1
    · rw [if_pos hin]
      fail "xs"
      exact ⟨_, _, ⟨ks1, wl1, gk.seen e2 hin, hm, rfl, rfl⟩, by fail "wk"⟩
    · rw [if_neg hin]
      have gn := gk.new b e2 hin
      have hl := gn.len b
      have hl2 := gk.len b
      rw [List.length_append, List.length_singleton] at hl
      have hz : (tabL (linkD w0 t lo hi) ks1).length < sizeLine := by rw [tab_len]; exact small (k := 60) (by omega) rfl
      have hzw : (wl1.map Crew.d).length < sizeLine := by
        rw [List.length_map]
        exact small (k := 119) (by omega) rfl
      fail "xs"
      refine ⟨rfl, (w0, t, p.2, lo, hi), rfl, stp _ (b.clo u (gk.sub u gk.cur) p (List.mem_of_getElem? e2)), ?_⟩
      fail "xs"
      refine gx_subN (ex_var rfl (ex_var rfl ⟨_, _, p.2, _, rfl, rfl, rfl, rfl, hz, ?_⟩))
      rw [show PyData.list ((stepsL w0 t p.2 lo hi).map pairD) = linkD w0 t lo hi p.2 from rfl, tab_put hin]
      fail "xs"
      refine ⟨fun hb => ?_, fun _ => ?_⟩
      · exfalso
        have := of_decide_eq_true hb
        rw [tab_len, List.length_append, List.length_singleton] at this
        omega
      fail "xs"
      refine ⟨_, _, ⟨ks1 ++ [p.2], wl1 ++ [p.2], gn, ?_, rfl, rfl⟩, ?_⟩
      · rw [List.length_append, List.length_append, List.length_singleton]
        omega
      · rw [List.map_append]
        fail "wk"
end
end Pk
/-! Pk, part V: tables of who came from where. -/
namespace Pk
open PySem PySem.Spec PyProof.Rows L2 C8

theorem look_map {α β : Type} {f : α → β} {k : Crew} : ∀ {m : List (Crew × α)}, look (m.map fun e => (e.1, f e.2)) k = (look m k).map f
  | [] => rfl
  | e :: m => by
    rw [List.map_cons, look_cons, look_cons, look_map]
    by_cases h : e.1 = k
    · rw [if_pos h, if_pos h]; rfl
    · rw [if_neg h, if_neg h]
theorem put_map {α β : Type} {f : α → β} {k : Crew} {v : α} {m : List (Crew × α)} : put (m.map fun e => (e.1, f e.2)) k (f v) = (put m k v).map fun e => (e.1, f e.2) := by
  unfold put
  rw [look_map, Option.isSome_map]
  split
  · rw [List.map_map, List.map_map]
    refine List.map_congr_left fun e _ => ?_
    show (if e.1 = k then _ else _) = _
    by_cases h : e.1 = k <;> simp [h]
  · rw [List.map_append]; rfl
theorem look_some {α : Type} {k : Crew} {m : List (Crew × α)} : (look m k).isSome = true ↔ k ∈ m.map (·.1) := by
  constructor
  · intro h
    obtain ⟨v, hv⟩ := Option.isSome_iff_exists.mp h
    exact List.mem_map.mpr ⟨_, look_mem hv, rfl⟩
  · intro h
    obtain ⟨e, he, rfl⟩ := List.mem_map.mp h
    obtain ⟨u, hu⟩ := look_some_of (m := m) (k := e.1) (v := e.2) he
    rw [hu]; rfl
abbrev Anc : Type := List (Crew × Option (Crew × Int))
def ancD : Option (Crew × Int) → PyData
  | none => .none
  | some p => .tuple [p.1.d, .int p.2]
def ancT (A : Anc) : List (Crew × PyData) := A.map fun e => (e.1, ancD e.2)
theorem anc_look {A : Anc} {k : Crew} : look (ancT A) k = (look A k).map ancD := look_map
theorem anc_put {A : Anc} {k : Crew} {o : Option (Crew × Int)} : put (ancT A) k (ancD o) = ancT (put A k o) := put_map
theorem anc_len {A : Anc} : (ancT A).length = A.length := List.length_map _
/-- whoever is named stands in the table -/
def AncOk (A : Anc) : Prop := ∀ k p, look A k = some (some p) → (look A p.1).isSome = true
theorem anc_put_ok {A : Anc} {k u : Crew} {x : Int} (h : AncOk A) (hu : (look A u).isSome = true) : AncOk (put A k (some (u, x))) := by
  intro j p e
  have grow : ∀ z, (look A z).isSome = true → (look (put A k (some (u, x))) z).isSome = true := fun z hz => by
    rw [look_put]
    split
    · rfl
    · exact hz
  rw [look_put] at e
  split at e
  · cases e
    exact grow u hu
  · exact grow _ (h j p e)
/-- a walk back that goes round -/
def RingP (A : Anc) (c : Crew) (n : Nat) : Prop := ∃ v : Nat → Crew, v 0 = c ∧ (∀ j, ∃ x, look A (v j) = some (some (v (j + 1), x))) ∧ ∃ p, 0 < p ∧ p ≤ 60 ∧ v (n + p) = v n
end Pk
/-! W8 (printed by gen/mk.py) -/
namespace Pk
open PySem PySem.Spec PyProof.Rows L2 C8

local macro_rules | `(tactic| fail "x1") => `(tactic| (first
  | (guard_target =~ EX _ _ _ _ _; first
    | ((with_reducible apply ex_var); exact rfl)
    | with_reducible refine ex_int ?_
    | with_reducible refine ex_op ?_
    | with_reducible refine ex_cb ?_
    | with_reducible refine ex_str ?_
    | with_reducible refine ex_non ?_
    | with_reducible refine ex_bl ?_
    | with_reducible refine ex_ty ?_
    | with_reducible refine ex_call1 ?_
    | with_reducible refine ex_if ?_
    | with_reducible refine ex_and ?_
    | with_reducible refine ex_or ?_
    | with_reducible refine ex_not ?_
    | with_reducible refine ex_chain ?_
    | with_reducible refine ex_tup ?_
    | with_reducible refine ex_lst ?_
    | with_reducible refine ex_append ?_
    | with_reducible refine ex_frzL ?_
    | with_reducible refine ex_frzSl ?_
    | with_reducible refine ex_frzRev ?_
    | with_reducible refine ex_frzRg ?_
    | with_reducible refine ex_un ?_
    | with_reducible refine ex_slT ?_
    | fail "stop")
  | (guard_target =~ AX _ _ _ _ _; first
    | with_reducible refine ax_cons ?_
    | with_reducible refine ax_nil ?_
    | fail "stop")
  | (guard_target =~ SX _ _ _ _ _; first
    | with_reducible refine sx_seq ?_
    | with_reducible refine sx_set ?_
    | with_reducible refine sx_if ?_
    | with_reducible refine sx_ret ?_
    | with_reducible refine sx_next ?_
    | with_reducible refine sx_asg ?_
    | with_reducible refine sx_drop ?_
    | with_reducible refine sx_par ?_
    | with_reducible refine sx_par3 ?_
    | fail "stop")
  | (guard_target =~ TX _ _ _ _ _; first
    | with_reducible refine tx_b ?_
    | with_reducible refine tx_test ?_
    | with_reducible refine tx_and ?_
    | with_reducible refine tx_or ?_
    | with_reducible refine tx_not ?_
    | with_reducible refine tx_yes ?_
    | fail "stop")
  | (guard_target =~ RX _ _ _ _ _ _; first
    | with_reducible refine rx_add ?_
    | with_reducible refine rx_sub ?_
    | ((with_reducible apply rx_mod); (first | assumption | omega))
    | ((with_reducible apply rx_mul); (first | assumption | exact .inl ⟨by omega, by omega⟩))
    | with_reducible refine rx_lt ?_
    | with_reducible refine rx_le ?_
    | with_reducible refine rx_gt ?_
    | with_reducible refine rx_ge ?_
    | with_reducible refine rx_isN ?_
    | with_reducible refine rx_notN ?_
    | with_reducible refine rx_eqI ?_
    | with_reducible refine rx_neI ?_
    | with_reducible refine rx_eqRule ?_
    | with_reducible refine rx_eqS ?_
    | with_reducible refine rx_neS ?_
    | ((with_reducible apply rx_ix0); exact rfl; exact rfl)
    | ((with_reducible apply rx_ix1); exact rfl; exact rfl)
    | ((with_reducible apply rx_ix2); exact rfl; exact rfl)
    | ((with_reducible apply rx_ix3); exact rfl; exact rfl)
    | ((with_reducible apply rx_ix4); exact rfl; exact rfl)
    | ((with_reducible apply rx_ix5); exact rfl; exact rfl)
    | ((with_reducible apply rx_ix6); exact rfl; exact rfl)
    | ((with_reducible apply rx_ix7); exact rfl; exact rfl)
    | ((with_reducible apply rx_ix8); exact rfl; exact rfl)
    | ((with_reducible apply rx_ixL0); exact rfl; exact rfl)
    | ((with_reducible apply rx_ixL1); exact rfl; exact rfl)
    | fail "stop")
  | (guard_target =~ BX _ _ _ _ _; first
    | with_reducible refine bx_isInt ?_
    | with_reducible refine bx_isBool ?_
    | with_reducible refine bx_isStr ?_
    | with_reducible refine bx_isTup ?_
    | with_reducible refine bx_intI ?_
    | with_reducible refine bx_intB ?_
    | with_reducible refine bx_min2 ?_
    | with_reducible refine bx_max2 ?_
    | ((with_reducible apply bx_lenT); exact rfl)
    | ((with_reducible apply bx_lenL); exact rfl)
    | ((with_reducible apply bx_lenN); exact rfl)
    | fail "stop")
  | ((with_reducible apply gx_tup); exact rfl; exact rfl)
  | (guard_target =~ GsX _ _ _ _ _ _; first | refine gsx_cons ?_ | refine gsx_nil ?_ | fail "stop")
  | with_reducible refine gx_name ?_
  | with_reducible refine ox_some ?_
  | with_reducible refine ox_none ?_
  | with_reducible refine ux_neg ?_
  | refine ⟨_, rfl, Nat.le_of_ble_eq_true rfl, rfl, ?_⟩
  | refine ⟨_, rfl, Nat.le_of_ble_eq_true rfl, ?_⟩
  | refine ⟨_, _, rfl, rfl, by assumption, ?_⟩
  | refine ⟨_, _, rfl, rfl, ?_⟩
  | refine ⟨_, _, _, rfl, ?_⟩
  | refine ⟨_, _, rfl, ?_⟩
  | refine ⟨_, rfl, ?_⟩
  | refine ⟨rfl, (_, some _, some _), rfl, trivial, ?_⟩
  | refine ⟨rfl, (_, some _, none), rfl, trivial, ?_⟩
  | refine ⟨rfl, (_, _), rfl, by assumption, ?_⟩
  | refine ⟨rfl, (_, _, _), rfl, by assumption, ?_⟩
  | refine ⟨rfl, (_, _, _, _), rfl, by assumption, ?_⟩
  | ((with_reducible intro c hc); subst hc)
  | refine ⟨fun hb => Bool.noConfusion hb, fun _ => ?_⟩
  | refine ⟨fun _ => ?_, fun hb => Bool.noConfusion hb⟩
  | dsimp only
  | fail "stop"))
local macro_rules | `(tactic| fail "xc") => `(tactic| (first | (refine ⟨fun hb => ?_, fun hb => ?_⟩ <;> first | exact Bool.noConfusion hb | skip) | fail "stop"))
local macro_rules | `(tactic| fail "xs") => `(tactic| repeat fail "x1")
local macro_rules | `(tactic| fail "xx") => `(tactic| repeat' (first | fail "x1" | fail "xc" | fail "stop"))
local macro_rules | `(tactic| fail "wk") => `(tactic| (first | (refine ⟨?_, rfl⟩; repeat (first | exact Wc.nil | refine Wc.keep (by first | exact trivial | exact Nat.le_of_ble_eq_true rfl) ?_ | refine Wc.drop ?_)) | fail "stop"))

section
variable {P : Program} {w : World} {K : PySem.W.Frag} {mg : Str → Option Value} {base : Heap}
abbrev sp_row_to : Spec := Sp1 (α := Anc × Crew × Nat) (fun x => [.fd (ancT x.1), .dat x.2.1.d, .dat (.int x.2.2)]) (fun x => AncOk x.1 ∧ (look x.1 x.2.1).isSome = true ∧ x.2.2 ≤ 100000) fun x c => ∃ row : List Int, row.length ≤ x.2.2 ∧ c = .dat (.list (row.map .int))
theorem cal_row_to {f : Addr} {fd : FuncData} (T : Tp mg) (F : Def K mg "row_to" s_row_to f fd) (B : Binds K fd ["ahead", "crew", "most"] [])  : Cal P w K mg base 1 "row_to" (spX P w K sp_row_to) [] := by
  refine cal0 F B .nil sc_row_to (sp1_len fun x => rfl) (fun cdv A outer s H vs Q E hr h => ?_)
  refine ⟨_, (pss_cons (ps_set (i := 3) sc_row_to.nd rfl (Or.inl rfl) (pe_lst pa_nil)) (pss_cons (ps_while PassesOwn.never (PW.pt (pw_and (pt_cmpR op_notN (pe_ix (r := rIxU K P w) (ix_u (hu16 hr)) (pv 0) (pv 1) (fun _ _ => rfl)) pe_non (nomark _)) (pw_and1 (pt_cmpR op_lt (pe_callB (r := rLenU K P w) call_lenU (by rfl) T.b_len bo_len (pa_cons (pv 3) pa_nil)) (pv 2) (nomark _))))) (pss_cons (ps_asg (pe_ix (r := rIxU K P w) (ix_u (hu16 hr)) (pv 0) (pv 1) (fun _ _ => rfl)) (pg_tup rfl (pgs_cons (pg_name (i := 1) sc_row_to.nd rfl (Or.inl rfl)) (pgs_cons (pg_name (i := 4) sc_row_to.nd rfl (Or.inl rfl)) pgs_nil)))) (pss_one (ps_expr (pe_bm PySem.F.plainAttrs_list PySem.F.slot_list_append PySem.F.type_list_append mt_append (pv 3) (pa_cons (pv 4) pa_nil)))))) (pss_one (ps_ret (pe_frz (pe_revU (pv 3))))))), ?_⟩
  try dsimp only [cxOf, L2.Cx.nox, L2.Cx.wish, L2.Cx.blk]
  refine enter1 h fun x hx => ?_
  change SX _ _ [_, _, _, none, none] [] _
  obtain ⟨A1, c0, most⟩ := x
  obtain ⟨ha, hc, hm⟩ := hx
  dsimp only at ha hc hm
  change SX _ _ [some (.fd (ancT A1)), some (.dat c0.d), some (.dat (.int most)), none, none] [] _
  fail "xs"
  refine sx_while ⟨fun m γ os => ∃ (k : Crew) (l : List Int), (look A1 k).isSome = true ∧ m = most - l.length ∧ l.length ≤ most ∧ γ = [some (.fd (ancT A1)), some (.dat k.d), some (.dat (.int most)), some (.own 0), none] ∧ os = [.lst (l.map .int)], ⟨_, c0, [], hc, rfl, Nat.zero_le _, rfl, rfl⟩, ?_⟩
  rintro m γ1 os1 ⟨k, l, hk, rfl, hl, rfl, rfl⟩
  obtain ⟨o, ho⟩ := Option.isSome_iff_exists.mp hk
  have hlk : look (ancT A1) k = some (ancD o) := by rw [anc_look, ho]; rfl
  have hfin : ImC (Cl.dat (PyData.list (List.map PyData.int l).reverse)) ∧ ∃ row : List Int, row.length ≤ most ∧ Cl.dat (PyData.list (List.map PyData.int l).reverse) = Cl.dat (.list (row.map .int)) :=
    ⟨trivial, l.reverse, by rw [List.length_reverse]; exact hl, by rw [List.map_reverse]⟩
  fail "xs"
  refine rx_ixN rfl hlk ?_
  cases o with
  | none =>
    fail "xs"
    exact ⟨rfl, hfin⟩
  | some p =>
    fail "xs"
    refine ⟨fun hb => ?_, fun hb => ?_⟩
    · have hlt : (l.length : Int) < most := by simpa using of_decide_eq_true hb
      have hz : (l.map PyData.int).length < sizeLine := by rw [List.length_map]; exact small (k := 100000) (by omega) rfl
      fail "xs"
      refine rx_ixN rfl hlk ?_
      unfold ancD
      fail "xs"
      refine ⟨_, _, ⟨most - (l ++ [p.2]).length, ?_, p.1, l ++ [p.2], ha k p ho, rfl, ?_, rfl, rfl⟩, ?_⟩
      · rw [List.length_append, List.length_singleton]; omega
      · rw [List.length_append, List.length_singleton]; omega
      · rw [List.map_append]
        fail "wk"
    · fail "xs"
      exact ⟨rfl, hfin⟩
abbrev sp_ring_at : Spec := Sp1 (α := Anc × Crew × Nat) (fun x => [.fd (ancT x.1), .dat x.2.1.d, .dat (.int x.2.2)]) (fun x => RingP x.1 x.2.1 x.2.2 ∧ x.2.2 ≤ 60) fun x c => ∃ (z : Crew) (l : List Int), (look x.1 z).isSome = true ∧ l.length ≤ 60 ∧ c = .dat (.tuple [z.d, .list (l.map .int)])
theorem cal_ring_at {f : Addr} {fd : FuncData} (T : Tp mg) (F : Def K mg "ring_at" s_ring_at f fd) (B : Binds K fd ["ahead", "crew", "size"] [])  : Cal P w K mg base 1 "ring_at" (spX P w K sp_ring_at) [] := by
  refine cal0 F B .nil sc_ring_at (sp1_len fun x => rfl) (fun cdv A outer s H vs Q E hr h => ?_)
  refine ⟨_, (pss_cons (ps_for PassesOwn.never rfl (pi_range1 (by rfl) T.b_range (pa_cons (pv 2) pa_nil)) (pg_name (i := 3) sc_ring_at.nd rfl (Or.inl rfl)) (pss_one (ps_set (i := 1) sc_ring_at.nd rfl (Or.inl rfl) (pe_ix (r := rIxU K P w) (ix_u (hu16 hr)) (pe_ix (r := rIxU K P w) (ix_u (hu16 hr)) (pv 0) (pv 1) (fun _ _ => rfl)) pe_int (fun _ _ => rfl))))) (pss_cons (ps_par3 (i := 4) (j := 5) (l := 6) (by rfl) sc_ring_at.nd rfl rfl rfl (by decide) (by decide) (by decide) rfl rfl rfl (pa_cons (pv 1) (pa_cons (pe_lst pa_nil) (pa_cons pe_bl pa_nil))) (by rfl)) (pss_cons (ps_while PassesOwn.never (pt_not (pt_val (pv 6))) (pss_cons (ps_asg (pe_ix (r := rIxU K P w) (ix_u (hu16 hr)) (pv 0) (pv 4) (fun _ _ => rfl)) (pg_tup rfl (pgs_cons (pg_name (i := 4) sc_ring_at.nd rfl (Or.inl rfl)) (pgs_cons (pg_name (i := 7) sc_ring_at.nd rfl (Or.inl rfl)) pgs_nil)))) (pss_cons (ps_expr (pe_bm PySem.F.plainAttrs_list PySem.F.slot_list_append PySem.F.type_list_append mt_append (pv 5) (pa_cons (pv 7) pa_nil))) (pss_one (ps_set (i := 6) sc_ring_at.nd rfl (Or.inl rfl) (pe_cmpR (r := rEqU K) (op_eqU (hu64 hr)) (pv 4) (pv 1) (nomark _))))))) (pss_one (ps_ret (pe_tupP (pa_cons (pv 1) (pa_cons (pe_frz (pe_revU (pv 5))) pa_nil)))))))), ?_⟩
  try dsimp only [cxOf, L2.Cx.nox, L2.Cx.wish, L2.Cx.blk]
  refine enter1 h fun x hx => ?_
  change SX _ _ [_, _, _, none, none, none, none, none] [] _
  obtain ⟨A1, c0, n⟩ := x
  obtain ⟨⟨v, hv0, hv, q, hq0, hq1, hq⟩, hn⟩ := hx
  dsimp only at hv hq hn hv0
  subst hv0
  have hlk : ∀ j, ∃ x : Int, look (ancT A1) (v j) = some (.tuple [(v (j + 1)).d, .int x]) := fun j => by
    obtain ⟨x, hx⟩ := hv j
    exact ⟨x, by rw [anc_look, hx]; rfl⟩
  change SX _ _ [some (.fd (ancT A1)), some (.dat (v 0).d), some (.dat (.int n)), none, none, none, none, none] [] _
  refine sx_seq (sx_for (ix_rng1 ?_))
  fail "xs"
  refine ⟨by omega, by omega, fun i γ os => γ = [some (.fd (ancT A1)), some (.dat (v i).d), some (.dat (.int n)), none, none, none, none, none] ∧ os = [], ⟨rfl, rfl⟩, ?_⟩
  rintro i γ1 os1 hi ⟨rfl, rfl⟩
  refine ⟨fun hE => ?_, fun c hcc => ?_⟩
  · have hE' : i = n := by rw [hE, rngC_len]; omega
    subst hE'
    fail "xs"
    refine sx_while ⟨fun m γ os => ∃ (j : Nat) (l : List Int) (b : Bool), j ≤ q ∧ l.length = j ∧ (b = false → j < q) ∧ m = q - j ∧ γ = [some (.fd (ancT A1)), some (.dat (v i).d), some (.dat (.int i)), none, some (.dat (v (i + j)).d), some (.own 0), some (.dat (.bool b)), none] ∧ os = [.lst (l.map .int)], ⟨_, 0, [], false, Nat.zero_le _, rfl, fun _ => hq0, rfl, rfl, rfl⟩, ?_⟩
    rintro m γ1 os1 ⟨j, l, b, hj, hl, hb0, rfl, rfl, rfl⟩
    fail "xs"
    refine ⟨fun hb => ?_, fun hb => ?_⟩
    · have hjq := hb0 (by simpa using hb)
      obtain ⟨x, hx⟩ := hlk (i + j)
      have hz : (l.map PyData.int).length < sizeLine := by rw [List.length_map]; exact small (k := 60) (by omega) rfl
      fail "xs"
      refine rx_ixN rfl hx ?_
      fail "xs"
      refine rx_eqD rfl rfl (shaped_crew _) (shaped_crew _) ?_
      rw [eqv_crew]
      fail "xs"
      refine ⟨_, _, ⟨q - (j + 1), by omega, j + 1, l ++ [x], decide (v (i + (j + 1)) = v i), by omega, by rw [List.length_append, hl]; rfl, fun h => ?_, rfl, rfl, rfl⟩, ?_⟩
      · have hne := of_decide_eq_false h
        have : j + 1 ≠ q := fun z => hne (by rw [z]; exact hq)
        omega
      · rw [List.map_append]
        fail "wk"
    · fail "xs"
      refine ⟨rfl, ?_⟩
      fail "xs"
      refine ⟨trivial, v i, l.reverse, ?_, by rw [List.length_reverse]; omega, by rw [List.map_reverse]⟩
      obtain ⟨x, hx⟩ := hv i
      rw [hx]; rfl
  · obtain ⟨hin, rfl⟩ := rng_at hcc
    obtain ⟨x, hx⟩ := hlk i
    fail "xs"
    refine rx_ixN rfl hx ?_
    fail "xs"
    exact ⟨_, _, ⟨rfl, rfl⟩, by fail "wk"⟩
end
end Pk
/-! Pk, part X: the search for a way. -/
namespace Pk
open PySem PySem.Spec PyProof.Rows L2 C8

structure Wy (S : List Crew) (r : Crew) (A : Anc) (ks : List Crew) : Prop where
  keys : A.map (·.1) = ks
  nd : ks.Nodup
  root : r ∈ ks
  sub : ∀ k ∈ ks, k ∈ S
  ok : AncOk A
def Clo (w : Well) (t : Bool) (lo hi : Int) (ks : List Crew) (k : Crew) : Prop := ∀ p ∈ stepsL w t k lo hi, p.2 ∈ ks
structure WyI (w : Well) (t : Bool) (lo hi : Int) (S : List Crew) (r : Crew) (A : Anc) (ks L : List Crew) : Prop extends Wy S r A ks where
  lay : ∀ k ∈ L, k ∈ ks
  clo : ∀ k ∈ ks, k ∉ L → Clo w t lo hi ks k
structure WyO (w : Well) (t : Bool) (lo hi : Int) (S : List Crew) (r : Crew) (L : List Crew) (n i : Nat) (A : Anc) (ks F : List Crew) : Prop extends Wy S r A ks where
  lay : ∀ k ∈ L, k ∈ ks
  fur : ∀ k ∈ F, k ∈ ks
  len : ks.length = n + F.length
  clo : ∀ k ∈ ks, k ∉ F → k ∉ L.drop i → Clo w t lo hi ks k
structure WyN (w : Well) (t : Bool) (lo hi : Int) (S : List Crew) (r : Crew) (L : List Crew) (n i : Nat) (u : Crew) (j : Nat) (A : Anc) (ks F : List Crew) : Prop extends Wy S r A ks where
  lay : ∀ k ∈ L, k ∈ ks
  cur : u ∈ ks
  fur : ∀ k ∈ F, k ∈ ks
  len : ks.length = n + F.length
  clo : ∀ k ∈ ks, k ∉ F → k ∉ L.drop (i + 1) → k ≠ u → Clo w t lo hi ks k
  part : ∀ p ∈ (stepsL w t u lo hi).take j, p.2 ∈ ks
section
variable {w : Well} {t : Bool} {lo hi : Int} {S : List Crew} {r u : Crew} {A : Anc} {ks L F : List Crew} {n i j : Nat}
theorem Wy.look (g : Wy S r A ks) {k : Crew} : (look A k).isSome = decide (k ∈ ks) := by
  have h := look_some (m := A) (k := k)
  rw [g.keys] at h
  by_cases e : k ∈ ks
  · rw [h.mpr e, decide_eq_true e]
  · rw [decide_eq_false e]
    cases q : (Pk.look A k).isSome with
    | false => rfl
    | true => exact absurd (h.mp q) e
theorem Wy.len (g : Wy S r A ks) (b : Bnd w t lo hi S) : ks.length ≤ 60 := Nat.le_trans (nodup_sub g.nd g.sub) b.len
theorem Wy.put (g : Wy S r A ks) (b : Bnd w t lo hi S) {p : Int × Crew} (hu : u ∈ ks) (hp : p ∈ stepsL w t u lo hi) (hn : p.2 ∉ ks) : Wy S r (put A p.2 (some (u, p.1))) (ks ++ [p.2]) := by
  have hl : (Pk.look A p.2).isSome = false := by rw [g.look]; exact decide_eq_false hn
  refine ⟨by rw [keys_put, hl, if_neg Bool.false_ne_true, g.keys], ?_, List.mem_append_left _ g.root, fun k hk => ?_, anc_put_ok g.ok (by rw [g.look]; exact decide_eq_true hu)⟩
  · rw [List.nodup_append]
    refine ⟨g.nd, List.nodup_cons.mpr ⟨by simp, List.nodup_nil⟩, fun a ha b hb => ?_⟩
    rw [List.mem_singleton.mp hb]
    rintro rfl
    exact hn ha
  · rcases List.mem_append.mp hk with hk | hk
    · exact g.sub k hk
    · rw [List.mem_singleton.mp hk]
      exact b.clo u (g.sub u hu) p hp
theorem WyI.start (g : WyI w t lo hi S r A ks L) : WyO w t lo hi S r L ks.length 0 A ks [] := ⟨g.toWy, g.lay, (fun _ h => nomatch h), rfl, (fun k hk _ h => g.clo k hk (by simpa using h))⟩
theorem WyO.step (g : WyO w t lo hi S r L n i A ks F) (h : L[i]? = some u) : WyN w t lo hi S r L n i u 0 A ks F := by
  refine ⟨g.toWy, g.lay, g.lay u (List.mem_of_getElem? h), g.fur, g.len, fun k hk h1 h2 h3 => g.clo k hk h1 fun z => ?_, fun p hp => by simp at hp⟩
  obtain ⟨hi', e⟩ := List.getElem?_eq_some_iff.mp h
  rw [List.drop_eq_getElem_cons hi', e] at z
  rcases List.mem_cons.mp z with z | z
  · exact h3 z
  · exact h2 z
theorem WyN.done (g : WyN w t lo hi S r L n i u j A ks F) (hj : (stepsL w t u lo hi).length ≤ j) : WyO w t lo hi S r L n (i + 1) A ks F := by
  refine ⟨g.toWy, g.lay, g.fur, g.len, fun k hk h1 h2 p hp => ?_⟩
  by_cases e : k = u
  · subst e
    exact g.part p (by rw [List.take_of_length_le hj]; exact hp)
  · exact g.clo k hk h1 h2 e p hp
theorem WyO.done (g : WyO w t lo hi S r L n i A ks F) (h : L.length ≤ i) : WyI w t lo hi S r A ks F := ⟨g.toWy, g.fur, fun k hk h1 => g.clo k hk h1 (by rw [List.drop_eq_nil_of_le h]; simp)⟩
theorem WyN.seen (g : WyN w t lo hi S r L n i u j A ks F) {p : Int × Crew} (hp : (stepsL w t u lo hi)[j]? = some p) (hn : p.2 ∈ ks) : WyN w t lo hi S r L n i u (j + 1) A ks F := by
  refine ⟨g.toWy, g.lay, g.cur, g.fur, g.len, g.clo, fun q hq => ?_⟩
  rw [List.take_add_one, hp] at hq
  rcases List.mem_append.mp hq with hq | hq
  · exact g.part q hq
  · have : q = p := by simpa using hq
    rw [this]; exact hn
theorem WyN.new (g : WyN w t lo hi S r L n i u j A ks F) (b : Bnd w t lo hi S) {p : Int × Crew} (hp : (stepsL w t u lo hi)[j]? = some p) (hn : p.2 ∉ ks) :
    WyN w t lo hi S r L n i u (j + 1) (put A p.2 (some (u, p.1))) (ks ++ [p.2]) (F ++ [p.2]) := by
  refine ⟨g.toWy.put b g.cur (List.mem_of_getElem? hp) hn, fun k hk => List.mem_append_left _ (g.lay k hk), List.mem_append_left _ g.cur, fun k hk => ?_, by rw [List.length_append, List.length_append, g.len]; rfl, fun k hk h1 h2 h3 q hq => ?_, fun q hq => ?_⟩
  · rcases List.mem_append.mp hk with hk | hk
    · exact List.mem_append_left _ (g.fur k hk)
    · exact List.mem_append_right _ hk
  · have h5 : k ∉ [p.2] := fun z => h1 (List.mem_append_right _ z)
    have h4 : k ∈ ks := (List.mem_append.mp hk).elim id fun z => absurd z h5
    exact List.mem_append_left _ (g.clo k h4 (fun z => h1 (List.mem_append_left _ z)) h2 h3 q hq)
  · rw [List.take_add_one, hp] at hq
    rcases List.mem_append.mp hq with hq | hq
    · exact List.mem_append_left _ (g.part q hq)
    · have : q = p := by simpa using hq
      rw [this]; exact List.mem_append_right _ (by simp)
theorem WyI.all (g : WyI w t lo hi S r A ks []) {k : Crew} (h : Rch w t lo hi r k) : k ∈ ks := by
  induction h with
  | root => exact g.root
  | step _ hp ih => exact g.clo _ ih (by simp) _ hp
end
end Pk
/-! W9 (printed by gen/mk.py) -/
namespace Pk
open PySem PySem.Spec PyProof.Rows L2 C8

local macro_rules | `(tactic| fail "x1") => `(tactic| (first
  | (guard_target =~ EX _ _ _ _ _; first
    | ((with_reducible apply ex_var); exact rfl)
    | with_reducible refine ex_int ?_
    | with_reducible refine ex_op ?_
    | with_reducible refine ex_cb ?_
    | with_reducible refine ex_str ?_
    | with_reducible refine ex_non ?_
    | with_reducible refine ex_bl ?_
    | with_reducible refine ex_ty ?_
    | with_reducible refine ex_call1 ?_
    | with_reducible refine ex_if ?_
    | with_reducible refine ex_and ?_
    | with_reducible refine ex_or ?_
    | with_reducible refine ex_not ?_
    | with_reducible refine ex_chain ?_
    | with_reducible refine ex_tup ?_
    | with_reducible refine ex_lst ?_
    | with_reducible refine ex_append ?_
    | with_reducible refine ex_frzL ?_
    | with_reducible refine ex_frzSl ?_
    | with_reducible refine ex_frzRev ?_
    | with_reducible refine ex_frzRg ?_
    | with_reducible refine ex_un ?_
    | with_reducible refine ex_slT ?_
    | fail "stop")
  | (guard_target =~ AX _ _ _ _ _; first
    | with_reducible refine ax_cons ?_
    | with_reducible refine ax_nil ?_
    | fail "stop")
  | (guard_target =~ SX _ _ _ _ _; first
    | with_reducible refine sx_seq ?_
    | with_reducible refine sx_set ?_
    | with_reducible refine sx_if ?_
    | with_reducible refine sx_ret ?_
    | with_reducible refine sx_next ?_
    | with_reducible refine sx_asg ?_
    | with_reducible refine sx_drop ?_
    | with_reducible refine sx_par ?_
    | with_reducible refine sx_par3 ?_
    | fail "stop")
  | (guard_target =~ TX _ _ _ _ _; first
    | with_reducible refine tx_b ?_
    | with_reducible refine tx_test ?_
    | with_reducible refine tx_and ?_
    | with_reducible refine tx_or ?_
    | with_reducible refine tx_not ?_
    | with_reducible refine tx_yes ?_
    | fail "stop")
  | (guard_target =~ RX _ _ _ _ _ _; first
    | with_reducible refine rx_add ?_
    | with_reducible refine rx_sub ?_
    | ((with_reducible apply rx_mod); (first | assumption | omega))
    | ((with_reducible apply rx_mul); (first | assumption | exact .inl ⟨by omega, by omega⟩))
    | with_reducible refine rx_lt ?_
    | with_reducible refine rx_le ?_
    | with_reducible refine rx_gt ?_
    | with_reducible refine rx_ge ?_
    | with_reducible refine rx_isN ?_
    | with_reducible refine rx_notN ?_
    | with_reducible refine rx_eqI ?_
    | with_reducible refine rx_neI ?_
    | with_reducible refine rx_eqRule ?_
    | with_reducible refine rx_eqS ?_
    | with_reducible refine rx_neS ?_
    | ((with_reducible apply rx_ix0); exact rfl; exact rfl)
    | ((with_reducible apply rx_ix1); exact rfl; exact rfl)
    | ((with_reducible apply rx_ix2); exact rfl; exact rfl)
    | ((with_reducible apply rx_ix3); exact rfl; exact rfl)
    | ((with_reducible apply rx_ix4); exact rfl; exact rfl)
    | ((with_reducible apply rx_ix5); exact rfl; exact rfl)
    | ((with_reducible apply rx_ix6); exact rfl; exact rfl)
    | ((with_reducible apply rx_ix7); exact rfl; exact rfl)
    | ((with_reducible apply rx_ix8); exact rfl; exact rfl)
    | ((with_reducible apply rx_ixL0); exact rfl; exact rfl)
    | ((with_reducible apply rx_ixL1); exact rfl; exact rfl)
    | fail "stop")
  | (guard_target =~ BX _ _ _ _ _; first
    | with_reducible refine bx_isInt ?_
    | with_reducible refine bx_isBool ?_
    | with_reducible refine bx_isStr ?_
    | with_reducible refine bx_isTup ?_
    | with_reducible refine bx_intI ?_
    | with_reducible refine bx_intB ?_
    | with_reducible refine bx_min2 ?_
    | with_reducible refine bx_max2 ?_
    | ((with_reducible apply bx_lenT); exact rfl)
    | ((with_reducible apply bx_lenL); exact rfl)
    | ((with_reducible apply bx_lenN); exact rfl)
    | fail "stop")
  | ((with_reducible apply gx_tup); exact rfl; exact rfl)
  | (guard_target =~ GsX _ _ _ _ _ _; first | refine gsx_cons ?_ | refine gsx_nil ?_ | fail "stop")
  | with_reducible refine gx_name ?_
  | with_reducible refine ox_some ?_
  | with_reducible refine ox_none ?_
  | with_reducible refine ux_neg ?_
  | refine ⟨_, rfl, Nat.le_of_ble_eq_true rfl, rfl, ?_⟩
  | refine ⟨_, rfl, Nat.le_of_ble_eq_true rfl, ?_⟩
  | refine ⟨_, _, rfl, rfl, by assumption, ?_⟩
  | refine ⟨_, _, rfl, rfl, ?_⟩
  | refine ⟨_, _, _, rfl, ?_⟩
  | refine ⟨_, _, rfl, ?_⟩
  | refine ⟨_, rfl, ?_⟩
  | refine ⟨rfl, (_, some _, some _), rfl, trivial, ?_⟩
  | refine ⟨rfl, (_, some _, none), rfl, trivial, ?_⟩
  | refine ⟨rfl, (_, _), rfl, by assumption, ?_⟩
  | refine ⟨rfl, (_, _, _), rfl, by assumption, ?_⟩
  | refine ⟨rfl, (_, _, _, _), rfl, by assumption, ?_⟩
  | ((with_reducible intro c hc); subst hc)
  | refine ⟨fun hb => Bool.noConfusion hb, fun _ => ?_⟩
  | refine ⟨fun _ => ?_, fun hb => Bool.noConfusion hb⟩
  | dsimp only
  | fail "stop"))
local macro_rules | `(tactic| fail "xc") => `(tactic| (first | (refine ⟨fun hb => ?_, fun hb => ?_⟩ <;> first | exact Bool.noConfusion hb | skip) | fail "stop"))
local macro_rules | `(tactic| fail "xs") => `(tactic| repeat fail "x1")
local macro_rules | `(tactic| fail "xx") => `(tactic| repeat' (first | fail "x1" | fail "xc" | fail "stop"))
local macro_rules | `(tactic| fail "wk") => `(tactic| (first | (refine ⟨?_, rfl⟩; repeat (first | exact Wc.nil | refine Wc.keep (by first | exact trivial | exact Nat.le_of_ble_eq_true rfl) ?_ | refine Wc.drop ?_)) | fail "stop"))

section
variable {P : Program} {w : World} {K : PySem.W.Frag} {mg : Str → Option Value} {base : Heap}
abbrev sp_way_to : Spec := Sp1 (α := (StepA × Crew) × List Crew) (fun x => stepA x.1.1 ++ [.dat x.1.2.d]) (fun x => GraphP x.1.1.1 x.1.1.2.1 x.1.1.2.2.1 x.1.1.2.2.2.1 x.1.1.2.2.2.2 x.2 ∧ Rch x.1.1.1 x.1.1.2.1 x.1.1.2.2.2.1 x.1.1.2.2.2.2 x.1.1.2.2.1 x.1.2) fun x c => ∃ row : List Int, row.length ≤ 100000 ∧ c = .dat (.tuple (row.map .int))
theorem cal_way_to {f : Addr} {fd : FuncData} (T : Tp mg) (F : Def K mg "way_to" s_way_to f fd) (B : Binds K fd ["well", "rule", "crew", "low", "high", "goal"] []) (c_steps_of : Cal P w K mg base 5 "steps_of" (spX P w K sp_steps_of) []) (c_row_to : Cal P w K mg base 1 "row_to" (spX P w K sp_row_to) []) : Cal P w K mg base 6 "way_to" (spX P w K sp_way_to) [] := by
  refine cal0 F B .nil sc_way_to (sp1_len fun x => rfl) (fun cdv A outer s H vs Q E hr h => ?_)
  refine ⟨_, (pss_cons (ps_par (i := 6) (j := 7) (by rfl) sc_way_to.nd rfl rfl (by decide) rfl rfl (pa_cons (pe_disp1N (hu16 hr) (pv 2) pe_non) (pa_cons (pe_frz (pe_lst (pa_cons (pv 2) pa_nil))) pa_nil)) (by rfl)) (pss_cons (ps_while PassesOwn.never (pt_cmpR (r := rInU K P w true) (op_notInU (hu65 hr)) (pv 5) (pv 6) (by rfl)) (pss_cons (ps_set (i := 8) sc_way_to.nd rfl (Or.inl rfl) (pe_lst pa_nil)) (pss_cons (ps_for PassesOwn.never rfl (pi_list (pv 7)) (pg_name (i := 9) sc_way_to.nd rfl (Or.inl rfl)) (pss_one (ps_for PassesOwn.never rfl (pi_list (pe_c c_steps_of hr (by decide) (by rfl) (pa_cons (pv 0) (pa_cons (pv 1) (pa_cons (pv 9) (pa_cons (pv 3) (pa_cons (pv 4) pa_nil))))))) (pg_tup rfl (pgs_cons (pg_name (i := 10) sc_way_to.nd rfl (Or.inl rfl)) (pgs_cons (pg_name (i := 11) sc_way_to.nd rfl (Or.inl rfl)) pgs_nil))) (pss_one (ps_if (pt_cmpR (r := rInU K P w true) (op_notInU (hu65 hr)) (pv 11) (pv 6) (by rfl)) (pss_cons (ps_asg (pe_tupP (pa_cons (pv 9) (pa_cons (pv 10) pa_nil))) (pg_sub (pv 6) (pv 11) (set_u (hu16 hr)))) (pss_one (ps_expr (pe_bm PySem.F.plainAttrs_list PySem.F.slot_list_append PySem.F.type_list_append mt_append (pv 8) (pa_cons (pv 11) pa_nil))))) pss_nil))))) (pss_one (ps_set (i := 7) sc_way_to.nd rfl (Or.inl rfl) (pe_frz (pv 8))))))) (pss_one (ps_ret (pe_callTy (r := rTupOf K) call_tupOf (by rfl) T.b_tuple bo_tuple (pa_cons (pe_c c_row_to hr (by decide) (by rfl) (pa_cons (pe_frzD (pv 6)) (pa_cons (pv 5) (pa_cons (pe_gc (by rfl) T.g_MOST_ROW) pa_nil)))) pa_nil)))))), ?_⟩
  try dsimp only [cxOf, L2.Cx.nox, L2.Cx.wish, L2.Cx.blk]
  refine enter1 h fun x hx => ?_
  change SX _ _ [_, _, _, _, _, _, none, none, none, none, none, none] [] _
  obtain ⟨⟨⟨w0, t, c0, lo, hi⟩, goal⟩, S⟩ := x
  obtain ⟨hx, hg⟩ := hx
  dsimp only at hx hg
  have hst := hx.st
  have b := hx.bnd
  have hsp := hst.sp
  have stp : ∀ k, k ∈ S → StepP w0 t k lo hi := fun k hk => ⟨hst.ok, b.ok k hk, hsp⟩
  change SX _ _ [some (.dat w0.d), some (.dat (ruleD t)), some (.dat c0.d), some (.dat (.int lo)), some (.dat (.int hi)), some (.dat goal.d), none, none, none, none, none, none] [] _
  refine sx_seq (sx_par (ax_cons (ex_disp1N ?_)))
  refine ex_var rfl ?_
  fail "xs"
  refine ⟨rfl, ?_⟩
  fail "xs"
  refine sx_while ⟨fun m γ os => ∃ A1 ks L, WyI w0 t lo hi S c0 A1 ks L ∧ m = 2 * (60 - ks.length) + (if L = [] then 0 else 1) ∧ γ = [some (.dat w0.d), some (.dat (ruleD t)), some (.dat c0.d), some (.dat (.int lo)), some (.dat (.int hi)), some (.dat goal.d), some (.own 0), some (.dat (.list (L.map Crew.d))), none, none, none, none] ∧ os = [.dic (ancT A1)], ⟨_, [(c0, none)], [c0], [c0], ?_, rfl, rfl, rfl⟩, ?_⟩
  · refine ⟨⟨rfl, by simp, by simp, fun k hk => by rw [List.mem_singleton.mp hk]; exact hx.mem, fun k p e => ?_⟩, fun k hk => hk, fun k hk h1 => absurd hk h1⟩
    rw [look_cons] at e
    split at e
    · cases e
    · cases e
  rintro m γ1 os1 ⟨A1, ks, L, gi, rfl, rfl, rfl⟩
  have hgl : ∀ {A2 : Anc} {ks2 : List Crew} (g : Wy S c0 A2 ks2) (k : Crew), (look (ancT A2) k).isSome = decide (k ∈ ks2) := fun g k => by rw [anc_look, Option.isSome_map]; exact g.look
  fail "xs"
  refine rx_notInN rfl ?_
  rw [hgl gi.toWy]
  fail "xs"
  refine ⟨fun hb => ?_, fun hb => ?_⟩
  · have hng : goal ∉ ks := of_decide_eq_false (by simpa only [Bool.not_eq_true'] using hb)
    have hL : L ≠ [] := fun z => by
      subst z
      exact hng (gi.all hg)
    rw [if_neg hL]
    fail "xs"
    refine sx_for (ix_list (ex_var rfl ⟨_, rfl, fun i γ os => ∃ A2 ks2 F, WyO w0 t lo hi S c0 L ks.length i A2 ks2 F ∧ γ = [some (.dat w0.d), some (.dat (ruleD t)), some (.dat c0.d), some (.dat (.int lo)), some (.dat (.int hi)), some (.dat goal.d), some (.own 0), some (.dat (.list (L.map Crew.d))), some (.own 1), none, none, none] ∧ os = [.dic (ancT A2), .lst (F.map Crew.d)], ⟨A1, ks, [], gi.start, rfl, rfl⟩, ?_⟩))
    rintro i γ1 os1 hi1 ⟨A2, ks2, F, go, rfl, rfl⟩
    rw [List.length_map, List.length_map] at hi1
    refine ⟨fun hE => ?_, fun c hcc => ?_⟩
    · rw [List.length_map, List.length_map] at hE
      refine sx_set (ex_frz ?_)
      fail "xs"
      have hlen := go.toWy.len b
      have hl2 := go.len
      refine ⟨_, _, ⟨_, ?_, A2, ks2, F, go.done (Nat.le_of_eq hE.symm), rfl, rfl, rfl⟩, by fail "wk"⟩
      cases F with
      | nil => rw [if_pos rfl, hl2]; simp
      | cons a l =>
        rw [if_neg (by simp)]
        rw [List.length_cons] at hl2
        omega
    · obtain ⟨d, e1, rfl⟩ := dat_at hcc
      obtain ⟨u, e2, rfl⟩ := map_at e1
      have gn0 := go.step e2
      have huS := go.sub u gn0.cur
      fail "xs"
      refine sx_for (ix_list ?_)
      fail "xs"
      refine ⟨rfl, (w0, t, u, lo, hi), rfl, stp u huS, ?_⟩
      fail "xs"
      refine ⟨fun j γ os => ∃ A3 ks3 F3, WyN w0 t lo hi S c0 L ks.length i u j A3 ks3 F3 ∧ γ = [some (.dat w0.d), some (.dat (ruleD t)), some (.dat c0.d), some (.dat (.int lo)), some (.dat (.int hi)), some (.dat goal.d), some (.own 0), some (.dat (.list (L.map Crew.d))), some (.own 1), some (.dat u.d), none, none] ∧ os = [.dic (ancT A3), .lst (F3.map Crew.d)], ⟨A2, ks2, F, gn0, rfl, rfl⟩, ?_⟩
      rintro j γ1 os1 hj1 ⟨A3, ks3, F3, gn, rfl, rfl⟩
      refine ⟨fun hE => ?_, fun c hcc => ?_⟩
      · rw [List.length_map, List.length_map] at hE
        exact ⟨_, _, ⟨A3, ks3, F3, gn.done (Nat.le_of_eq hE.symm), rfl, rfl⟩, by fail "wk"⟩
      · obtain ⟨d, e3, rfl⟩ := dat_at hcc
        obtain ⟨p, e4, rfl⟩ := map_at e3
        unfold pairD
        have hl3 := gn.toWy.len b
        fail "xs"
        refine rx_notInN rfl ?_
        rw [hgl gn.toWy]
        by_cases hin : p.2 ∈ ks3
        · rw [decide_eq_true hin]
          fail "xs"
          exact ⟨_, _, ⟨A3, ks3, F3, gn.seen e4 hin, rfl, rfl⟩, by fail "wk"⟩
        · rw [decide_eq_false hin]
          have gw := gn.new b e4 hin
          have hz : (ancT A3).length < sizeLine := by
            rw [anc_len]
            have : A3.length = ks3.length := by rw [← gn.keys, List.length_map]
            exact small (k := 60) (by omega) rfl
          have hzf : (F3.map Crew.d).length < sizeLine := by
            rw [List.length_map]
            have := gn.len
            exact small (k := 60) (by omega) rfl
          fail "xs"
          refine gx_subN (ex_var rfl (ex_var rfl ⟨_, _, p.2, _, rfl, rfl, rfl, rfl, hz, ?_⟩))
          rw [show PyData.tuple [u.d, .int p.1] = ancD (some (u, p.1)) from rfl, anc_put]
          fail "xs"
          refine ⟨_, _, ⟨_, _, F3 ++ [p.2], gw, rfl, rfl⟩, ?_⟩
          rw [List.map_append]
          fail "wk"
  · have hng : goal ∈ ks := of_decide_eq_true (by simpa only [Bool.not_eq_false'] using hb)
    fail "xs"
    refine ex_frzD ?_
    fail "xs"
    refine ⟨rfl, (A1, goal, 100000), rfl, ⟨gi.ok, by rw [gi.toWy.look]; exact decide_eq_true hng, Nat.le_refl _⟩, ?_⟩
    rintro c ⟨row, hr, rfl⟩
    fail "xs"
    exact bx_tupL rfl ⟨trivial, row, hr, rfl⟩
end
end Pk
/-! Pk, part Y: the search for the greatest lead. -/
namespace Pk
open PySem PySem.Spec PyProof.Rows L2 C8

/-! crews back from data -/
def toI : PyData → Int
  | .int i => i
  | _ => 0
def crewOf : PyData → Crew
  | .tuple [.int l, .tuple ps, .tuple gs, .int m] => ⟨l, ps.map toI, gs.map toI, m⟩
  | _ => ⟨0, [], [], 0⟩
theorem toI_map (l : List Int) : (l.map PyData.int).map toI = l := by
  rw [List.map_map]
  exact (List.map_congr_left (fun _ _ => rfl)).trans (List.map_id l)
theorem crewOf_d (c : Crew) : crewOf c.d = c := by
  show (⟨c.level, (c.past.map PyData.int).map toI, (c.ages.map PyData.int).map toI, c.mark⟩ : Crew) = c
  rw [toI_map, toI_map]
theorem merge_tab {f : Crew → PyData} : ∀ {ks done : List Crew}, (done ++ ks).Nodup → mergeC (tabL f done) (tabL f ks) = tabL f (done ++ ks)
  | [], done, _ => by rw [List.append_nil]; rfl
  | k :: ks, done, nd => by
    have hk : k ∉ done := fun h => by
      rw [List.nodup_append] at nd
      exact nd.2.2 k h k List.mem_cons_self rfl
    show mergeC (put (tabL f done) k (f k)) (tabL f ks) = _
    rw [tab_put hk, merge_tab (by rw [List.append_assoc]; exact nd), List.append_assoc]
    rfl
def bestT (B : List (Crew × Int)) : List (Crew × PyData) := B.map fun e => (e.1, PyData.int e.2)
theorem best_look {B : List (Crew × Int)} {k : Crew} : look (bestT B) k = (look B k).map .int := look_map
theorem best_put {B : List (Crew × Int)} {k : Crew} {v : Int} : put (bestT B) k (.int v) = bestT (put B k v) := put_map
theorem best_len {B : List (Crew × Int)} : (bestT B).length = B.length := List.length_map _
/-! the ghost: the round in which a crew was last set -/
def setN (last : Crew → Nat) (k : Crew) (n : Nat) : Crew → Nat := fun z => if z = k then n else last z
structure SrB (ks : List Crew) (r : Crew) (B : List (Crew × Int)) (A : Anc) : Prop where
  keys : A.map (·.1) = B.map (·.1)
  nd : (B.map (·.1)).Nodup
  sub : ∀ k ∈ B.map (·.1), k ∈ ks
  root : r ∈ B.map (·.1)
  ok : AncOk A
/-- between the rounds: n rounds are done, L was changed in the last -/
structure SrI (ks : List Crew) (r : Crew) (B : List (Crew × Int)) (A : Anc) (L : List Crew) (last : Crew → Nat) (n : Nat) : Prop extends SrB ks r B A where
  lay : ∀ k ∈ L, k ∈ B.map (·.1)
  lnd : L.Nodup
  ne : L ≠ []
  at_ : ∀ k ∈ L, last k = n
  most : ∀ k, last k ≤ n
  par : ∀ k u x, look A k = some (some (u, x)) → last k ≤ last u + 1
  zero : ∀ k, look A k = some none → last k = 0
  val : ∀ k v, look B k = some v → v.natAbs ≤ n * 18060
/-- within a round: C is changed; z: how far the values have gone -/
structure SrJ (ks : List Crew) (r : Crew) (B : List (Crew × Int)) (A : Anc) (L C : List Crew) (last : Crew → Nat) (n z : Nat) : Prop extends SrB ks r B A where
  lay : ∀ k ∈ L, k ∈ B.map (·.1)
  chg : ∀ k ∈ C, k ∈ B.map (·.1)
  cnd : C.Nodup
  at_ : ∀ k ∈ L, n ≤ last k
  cat_ : ∀ k ∈ C, last k = n + 1
  most : ∀ k, last k ≤ n + 1
  par : ∀ k u x, look A k = some (some (u, x)) → last k ≤ last u + 1
  zero : ∀ k, look A k = some none → last k = 0
  val : ∀ k v, look B k = some v → v.natAbs ≤ n * 18060 + z
section
variable {ks L C : List Crew} {r u : Crew} {B : List (Crew × Int)} {A : Anc} {last : Crew → Nat} {n z : Nat}
theorem SrB.lookB (g : SrB ks r B A) {k : Crew} : (look B k).isSome = (look A k).isSome := by
  have h1 := look_some (m := B) (k := k)
  have h2 := look_some (m := A) (k := k)
  rw [g.keys] at h2
  cases e1 : (look B k).isSome <;> cases e2 : (look A k).isSome
  · rfl
  · rw [h1.mpr (h2.mp e2)] at e1; cases e1
  · rw [h2.mpr (h1.mp e1)] at e2; cases e2
  · rfl
theorem SrB.len (g : SrB ks r B A) : B.length ≤ ks.length := by
  have := nodup_sub g.nd g.sub
  rwa [List.length_map] at this
theorem SrI.go (g : SrI ks r B A L last n) : SrJ ks r B A L [] last n 0 :=
  ⟨g.toSrB, g.lay, (fun _ h => nomatch h), List.nodup_nil, (fun k hk => Nat.le_of_eq (g.at_ k hk).symm), (fun _ h => nomatch h), (fun k => Nat.le_succ_of_le (g.most k)), g.par, g.zero, g.val⟩
theorem SrJ.more (g : SrJ ks r B A L C last n z) {z' : Nat} (h : z ≤ z') : SrJ ks r B A L C last n z' := ⟨g.toSrB, g.lay, g.chg, g.cnd, g.at_, g.cat_, g.most, g.par, g.zero, fun k v e => Nat.le_trans (g.val k v e) (Nat.add_le_add_left h _)⟩
theorem SrJ.done (g : SrJ ks r B A L C last n z) (hz : z ≤ 18060) (hC : C ≠ []) : SrI ks r B A C last (n + 1) :=
  ⟨g.toSrB, g.chg, g.cnd, hC, g.cat_, g.most, g.par, g.zero, fun k v e => by have := g.val k v e; omega⟩
/-- changed[k] = True -/
def addC (C : List Crew) (k : Crew) : List Crew := if k ∈ C then C else C ++ [k]
theorem mem_addC {k j : Crew} : j ∈ addC C k ↔ j ∈ C ∨ j = k := by
  unfold addC
  split
  · rename_i h
    exact ⟨.inl, fun q => q.elim id fun e => by rw [e]; exact h⟩
  · rw [List.mem_append, List.mem_singleton]
theorem nodup_addC {k : Crew} (h : C.Nodup) : (addC C k).Nodup := by
  unfold addC
  split
  · exact h
  · rename_i hk
    rw [List.nodup_append]
    refine ⟨h, List.nodup_cons.mpr ⟨by simp, List.nodup_nil⟩, fun a ha b hb => ?_⟩
    rw [List.mem_singleton.mp hb]
    rintro rfl
    exact hk ha
theorem SrI.laylen (g : SrI ks r B A L last n) : L.length ≤ ks.length := nodup_sub g.lnd fun k hk => g.sub k (g.lay k hk)
theorem SrJ.laylen (g : SrJ ks r B A L C last n z) : C.length ≤ ks.length := nodup_sub g.cnd fun k hk => g.sub k (g.chg k hk)
theorem chg_put {k : Crew} : put (tabL (fun _ => .bool true) C) k (.bool true) = tabL (fun _ => .bool true) (addC C k) := by
  unfold addC
  by_cases h : k ∈ C
  · rw [if_pos h]
    unfold put
    rw [tab_look, if_pos h]
    show List.map _ (tabL _ C) = _
    unfold tabL
    rw [List.map_map]
    refine List.map_congr_left fun e _ => ?_
    show (if e = k then _ else _) = _
    by_cases q : e = k <;> simp [q]
  · rw [if_neg h]
    exact tab_put (f := fun _ => .bool true) h
theorem keys_put_mem {α : Type} {m : List (Crew × α)} {k j : Crew} {v : α} : j ∈ (put m k v).map (·.1) ↔ j ∈ m.map (·.1) ∨ j = k := by
  rw [keys_put]
  split
  · rename_i h
    exact ⟨.inl, fun q => q.elim id fun e => by rw [e]; exact look_some.mp h⟩
  · rw [List.mem_append, List.mem_singleton]
theorem SrJ.set (g : SrJ ks r B A L C last n z) {k : Crew} {x v : Int} (hu : u ∈ L) (hk : k ∈ ks) (hv : v.natAbs ≤ n * 18060 + z + 1) :
    SrJ ks r (put B k v) (put A k (some (u, x))) L (addC C k) (setN last k (n + 1)) n (z + 1) := by
  have hub := g.lay u hu
  have hlast := g.at_ u hu
  have hs : (look A u).isSome = true := by rw [← g.lookB]; exact look_some.mpr hub
  have le : ∀ j, last j ≤ setN last k (n + 1) j := fun j => by
    unfold setN
    split
    · rename_i e; rw [e]; exact g.most k
    · exact Nat.le_refl _
  have hmost : ∀ j, setN last k (n + 1) j ≤ n + 1 := fun j => by
    unfold setN
    split
    · exact Nat.le_refl _
    · exact g.most j
  refine ⟨⟨?_, ?_, fun j hj => ?_, keys_put_mem.mpr (.inl g.root), anc_put_ok g.ok hs⟩, fun j hj => keys_put_mem.mpr (.inl (g.lay j hj)), fun j hj => ?_, nodup_addC g.cnd, fun j hj => Nat.le_trans (g.at_ j hj) (le j), fun j hj => ?_, hmost, fun j u' x' e => ?_, fun j e => ?_, fun j v' e => ?_⟩
  · rw [keys_put, keys_put, g.keys, g.lookB]
  · rw [keys_put]
    split
    · exact g.nd
    · rename_i h
      rw [List.nodup_append]
      refine ⟨g.nd, List.nodup_cons.mpr ⟨by simp, List.nodup_nil⟩, fun a ha b hb => ?_⟩
      rw [List.mem_singleton.mp hb]
      rintro rfl
      exact h (look_some.mpr ha)
  · rcases keys_put_mem.mp hj with h | h
    · exact g.sub j h
    · rw [h]; exact hk
  · rcases mem_addC.mp hj with h | h
    · exact keys_put_mem.mpr (.inl (g.chg j h))
    · exact keys_put_mem.mpr (.inr h)
  · rcases mem_addC.mp hj with h | h
    · unfold setN
      split
      · rfl
      · exact g.cat_ j h
    · unfold setN
      rw [if_pos h]
  · rw [look_put] at e
    split at e
    · cases e
      have h1 := hmost j
      have h2 := le u
      omega
    · rename_i hne
      have h1 := g.par j u' x' e
      have h2 := le u'
      have h3 : setN last k (n + 1) j = last j := by unfold setN; rw [if_neg hne]
      omega
  · rw [look_put] at e
    split at e
    · cases e
    · rename_i hne
      unfold setN
      rw [if_neg hne]
      exact g.zero j e
  · rw [look_put] at e
    split at e
    · cases e
      omega
    · have := g.val j v' e
      omega
end
/-! the way back -/
def par (A : Anc) (k : Crew) : Crew := match look A k with
  | some (some p) => p.1
  | _ => k
def back (A : Anc) (c : Crew) : Nat → Crew
  | 0 => c
  | n + 1 => par A (back A c n)
theorem holes {v : Nat → Crew} {l : List Crew} (h : ∀ j, j ≤ l.length → v j ∈ l) : ∃ i j, i < j ∧ j ≤ l.length ∧ v i = v j := by
  refine Classical.byContradiction fun no => ?_
  have nd : ((List.range (l.length + 1)).map v).Nodup := by
    unfold List.Nodup
    rw [List.pairwise_map]
    refine List.Pairwise.imp_of_mem (fun {a b} ha hb hlt e => ?_) (List.pairwise_lt_range (n := l.length + 1))
    have hb' := List.mem_range.mp hb
    exact no ⟨a, b, hlt, by omega, e⟩
  have := nodup_sub nd fun x hx => by
    obtain ⟨j, hj, rfl⟩ := List.mem_map.mp hx
    have hj' := List.mem_range.mp hj
    exact h j (by omega)
  rw [List.length_map, List.length_range] at this
  omega
theorem ring_of {ks L : List Crew} {r c : Crew} {B : List (Crew × Int)} {A : Anc} {last : Crew → Nat} {n : Nat} (g : SrI ks r B A L last n) (hn : ks.length + 1 ≤ n) (h60 : ks.length ≤ 60) (hc : c ∈ L) : RingP A c B.length := by
  have hlen := g.toSrB.len
  have key : ∀ j, j < n → back A c j ∈ B.map (·.1) ∧ n ≤ last (back A c j) + j := by
    intro j
    induction j with
    | zero => intro _; exact ⟨g.lay c hc, by rw [show back A c 0 = c from rfl, g.at_ c hc]; exact Nat.le_refl _⟩
    | succ j ih =>
      intro hj
      obtain ⟨h1, h2⟩ := ih (by omega)
      obtain ⟨o, ho⟩ := Option.isSome_iff_exists.mp (look_some.mpr (show back A c j ∈ A.map (·.1) by rw [g.keys]; exact h1))
      cases o with
      | none =>
        have := g.zero _ ho
        omega
      | some p =>
        have e : back A c (j + 1) = p.1 := by
          show par A (back A c j) = _
          unfold par
          rw [ho]
        have h3 := g.par _ p.1 p.2 ho
        have h4 := g.ok _ _ ho
        rw [← g.toSrB.lookB] at h4
        rw [e]
        exact ⟨look_some.mp h4, by omega⟩
  have up : ∀ j, j < n → ∃ x, look A (back A c j) = some (some (back A c (j + 1), x)) := by
    intro j hj
    obtain ⟨h1, h2⟩ := key j hj
    obtain ⟨o, ho⟩ := Option.isSome_iff_exists.mp (look_some.mpr (show back A c j ∈ A.map (·.1) by rw [g.keys]; exact h1))
    cases o with
    | none =>
      have := g.zero _ ho
      omega
    | some p =>
      have e : back A c (j + 1) = p.1 := by
        show par A (back A c j) = _
        unfold par
        rw [ho]
      exact ⟨p.2, by rw [ho, e]⟩
  obtain ⟨i, j, hij, hj, e⟩ := holes (v := back A c) (l := B.map (·.1)) fun a ha => (key a (by rw [List.length_map] at ha; omega)).1
  rw [List.length_map] at hj
  have per : ∀ a, back A c (i + a) = back A c (j + a) := by
    intro a
    induction a with
    | zero => exact e
    | succ a ih =>
      show par A (back A c (i + a)) = par A (back A c (j + a))
      rw [ih]
  have low : ∀ a, ∃ b, b < n ∧ back A c a = back A c b := by
    intro a
    induction a using Nat.strongRecOn with
    | _ a ih =>
      by_cases ha : a < n
      · exact ⟨a, ha, rfl⟩
      · have h1 := per (a - j)
        rw [show j + (a - j) = a by omega] at h1
        obtain ⟨b, hb, eb⟩ := ih (i + (a - j)) (by omega)
        exact ⟨b, hb, h1.symm.trans eb⟩
  refine ⟨back A c, rfl, fun a => ?_, j - i, by omega, by omega, ?_⟩
  · obtain ⟨b, hb, eb⟩ := low a
    obtain ⟨x, hx⟩ := up b hb
    refine ⟨x, ?_⟩
    rw [eb, hx]
    show some (some (par A (back A c b), x)) = some (some (par A (back A c a), x))
    rw [eb]
  · have h1 := per (B.length - i)
    rw [show i + (B.length - i) = B.length by omega, show j + (B.length - i) = B.length + (j - i) by omega] at h1
    exact h1.symm
section
variable {C : Kx} {os : List OV} {γ : List (Option Cl)} {R : Cl → List OV → Prop} {t : TA}
/-- (dict, dict, x) -/
theorem ex_tup3 (h : AX C t γ os fun cs os1 => ∃ m1 m2 x, cs = [.fd m1, .fd m2, .dat x] ∧ R (.t3 m1 m2 x) os1) : EX C (tTupP t) γ os R := fun as H σ Q rl s k =>
  h as H σ _ rl s fun cs os1 as1 H1 vs r1 l1 hv ⟨m1, m2, x, e, q⟩ => by
    subst e
    cases hv with
    | @cons _ v1 _ vs h1 h2 =>
      obtain ⟨v2, v3, rfl, h3, h4⟩ := paired2 h2
      refine ⟨Nat.le_of_ble_eq_true rfl, fun p o hp hd => ?_⟩
      have sm := same_new (o := .frz o (.tup [v1, v2, v3])) hp
      exact k (.t3 m1 m2 x) os1 as1 _ _ (r1.grow sm) (l1.trans (Le.same sm)) ⟨p, o, v1, v2, v3, rfl, upd_same, FdV.mono (exi_same sm) h1, FdV.mono (exi_same sm) h3, Dd.mono (exi_same sm) _ _ h4⟩ q
theorem ex_frzV {i : Nat} {R : Cl → List OV → Prop} (h : EX C (tVar i) γ os fun c os1 => ∃ k ds, c = .own k ∧ os1[k]? = some (.lst ds) ∧ R (.dat (.list ds)) (os1.set k (.fl ds))) : EX C (tFrz (tVar i)) γ os R := ex_frz h
theorem ex_frzDV {i : Nat} {R : Cl → List OV → Prop} (h : EX C (tVar i) γ os fun c os1 => ∃ k m, c = .own k ∧ os1[k]? = some (.dic m) ∧ R (.fd m) (os1.set k (.fm m))) : EX C (tFrzD C.P C.w (tVar i)) γ os R := ex_frzD h
theorem TX.imp {tt : TT} {R R' : Bool → List OV → Prop} (h : TX C tt γ os R') (k : ∀ b os, R' b os → R b os) : TX C tt γ os R := fun as H σ Q r s q => h as H σ Q r s fun b os' as' H' r' l' hb => q b os' as' H' r' l' (k _ _ hb)
end
end Pk
/-! W10 (printed by gen/mk.py) -/
namespace Pk
open PySem PySem.Spec PyProof.Rows L2 C8

local macro_rules | `(tactic| fail "x1") => `(tactic| (first
  | (guard_target =~ EX _ _ _ _ _; first
    | ((with_reducible apply ex_var); exact rfl)
    | with_reducible refine ex_int ?_
    | with_reducible refine ex_op ?_
    | with_reducible refine ex_cb ?_
    | with_reducible refine ex_str ?_
    | with_reducible refine ex_non ?_
    | with_reducible refine ex_bl ?_
    | with_reducible refine ex_ty ?_
    | with_reducible refine ex_call1 ?_
    | with_reducible refine ex_if ?_
    | with_reducible refine ex_and ?_
    | with_reducible refine ex_or ?_
    | with_reducible refine ex_not ?_
    | with_reducible refine ex_chain ?_
    | with_reducible refine ex_tup ?_
    | with_reducible refine ex_lst ?_
    | with_reducible refine ex_append ?_
    | with_reducible refine ex_disp1N ?_
    | with_reducible refine ex_newN ?_
    | with_reducible refine ex_frzV ?_
    | with_reducible refine ex_frzDV ?_
    | with_reducible refine ex_frzL ?_
    | with_reducible refine ex_frzSl ?_
    | with_reducible refine ex_frzRev ?_
    | with_reducible refine ex_frzRg ?_
    | with_reducible refine ex_un ?_
    | with_reducible refine ex_slT ?_
    | fail "stop")
  | (guard_target =~ AX _ _ _ _ _; first
    | with_reducible refine ax_cons ?_
    | with_reducible refine ax_nil ?_
    | fail "stop")
  | (guard_target =~ SX _ _ _ _ _; first
    | with_reducible refine sx_seq ?_
    | with_reducible refine sx_set ?_
    | with_reducible refine sx_if ?_
    | with_reducible refine sx_ret ?_
    | with_reducible refine sx_next ?_
    | with_reducible refine sx_asg ?_
    | with_reducible refine sx_drop ?_
    | with_reducible refine sx_par ?_
    | with_reducible refine sx_par3 ?_
    | fail "stop")
  | (guard_target =~ TX _ _ _ _ _; first
    | with_reducible refine tx_b ?_
    | with_reducible refine tx_test ?_
    | with_reducible refine tx_and ?_
    | with_reducible refine tx_or ?_
    | with_reducible refine tx_not ?_
    | with_reducible refine tx_yes ?_
    | fail "stop")
  | (guard_target =~ RX _ _ _ _ _ _; first
    | with_reducible refine rx_add ?_
    | with_reducible refine rx_sub ?_
    | ((with_reducible apply rx_mod); (first | assumption | omega))
    | ((with_reducible apply rx_mul); (first | assumption | exact .inl ⟨by omega, by omega⟩))
    | with_reducible refine rx_lt ?_
    | with_reducible refine rx_le ?_
    | with_reducible refine rx_gt ?_
    | with_reducible refine rx_ge ?_
    | with_reducible refine rx_isN ?_
    | with_reducible refine rx_notN ?_
    | with_reducible refine rx_eqI ?_
    | with_reducible refine rx_neI ?_
    | with_reducible refine rx_eqRule ?_
    | with_reducible refine rx_eqS ?_
    | with_reducible refine rx_neS ?_
    | ((with_reducible apply rx_ix0); exact rfl; exact rfl)
    | ((with_reducible apply rx_ix1); exact rfl; exact rfl)
    | ((with_reducible apply rx_ix2); exact rfl; exact rfl)
    | ((with_reducible apply rx_ix3); exact rfl; exact rfl)
    | ((with_reducible apply rx_ix4); exact rfl; exact rfl)
    | ((with_reducible apply rx_ix5); exact rfl; exact rfl)
    | ((with_reducible apply rx_ix6); exact rfl; exact rfl)
    | ((with_reducible apply rx_ix7); exact rfl; exact rfl)
    | ((with_reducible apply rx_ix8); exact rfl; exact rfl)
    | ((with_reducible apply rx_ixL0); exact rfl; exact rfl)
    | ((with_reducible apply rx_ixL1); exact rfl; exact rfl)
    | fail "stop")
  | (guard_target =~ BX _ _ _ _ _; first
    | with_reducible refine bx_isInt ?_
    | with_reducible refine bx_isBool ?_
    | with_reducible refine bx_isStr ?_
    | with_reducible refine bx_isTup ?_
    | with_reducible refine bx_intI ?_
    | with_reducible refine bx_intB ?_
    | with_reducible refine bx_min2 ?_
    | with_reducible refine bx_max2 ?_
    | ((with_reducible apply bx_lenT); exact rfl)
    | ((with_reducible apply bx_lenL); exact rfl)
    | ((with_reducible apply bx_lenN); exact rfl)
    | fail "stop")
  | ((with_reducible apply gx_tup); exact rfl; exact rfl)
  | (guard_target =~ GsX _ _ _ _ _ _; first | refine gsx_cons ?_ | refine gsx_nil ?_ | fail "stop")
  | with_reducible refine gx_name ?_
  | with_reducible refine ox_some ?_
  | with_reducible refine ox_none ?_
  | with_reducible refine ux_neg ?_
  | refine ⟨_, rfl, Nat.le_of_ble_eq_true rfl, rfl, ?_⟩
  | refine ⟨_, rfl, Nat.le_of_ble_eq_true rfl, ?_⟩
  | refine ⟨_, _, rfl, rfl, rfl, ?_⟩
  | refine ⟨_, _, rfl, rfl, by assumption, ?_⟩
  | refine ⟨_, _, rfl, rfl, ?_⟩
  | refine ⟨_, _, _, rfl, ?_⟩
  | refine ⟨_, _, rfl, ?_⟩
  | refine ⟨_, rfl, ?_⟩
  | refine ⟨rfl, (_, some _, some _), rfl, trivial, ?_⟩
  | refine ⟨rfl, (_, some _, none), rfl, trivial, ?_⟩
  | refine ⟨rfl, (_, _), rfl, by assumption, ?_⟩
  | refine ⟨rfl, (_, _, _), rfl, by assumption, ?_⟩
  | refine ⟨rfl, (_, _, _, _), rfl, by assumption, ?_⟩
  | ((with_reducible intro c hc); subst hc)
  | refine ⟨fun hb => Bool.noConfusion hb, fun _ => ?_⟩
  | refine ⟨fun _ => ?_, fun hb => Bool.noConfusion hb⟩
  | dsimp only
  | fail "stop"))
local macro_rules | `(tactic| fail "xc") => `(tactic| (first | (refine ⟨fun hb => ?_, fun hb => ?_⟩ <;> first | exact Bool.noConfusion hb | skip) | fail "stop"))
local macro_rules | `(tactic| fail "xs") => `(tactic| repeat fail "x1")
local macro_rules | `(tactic| fail "xx") => `(tactic| repeat' (first | fail "x1" | fail "xc" | fail "stop"))
local macro_rules | `(tactic| fail "wk") => `(tactic| (first | (refine ⟨?_, rfl⟩; repeat (first | exact Wc.nil | refine Wc.keep (by first | exact trivial | exact Nat.le_of_ble_eq_true rfl) ?_ | refine Wc.drop ?_)) | fail "stop"))

section
variable {P : Program} {w : World} {K : PySem.W.Frag} {mg : Str → Option Value} {base : Heap}
structure SearchP (w : Well) (t : Bool) (c : Crew) (lo hi one other : Int) (S : List Crew) : Prop where
  lead : LeadOk w t c lo hi one other
  mem : c ∈ S
  bnd : Bnd w t lo hi S
theorem SearchP.gr {w : Well} {t : Bool} {c : Crew} {lo hi one other : Int} {S : List Crew} (h : SearchP w t c lo hi one other S) : GraphP w t c lo hi S := ⟨⟨h.lead.ok, h.lead.cr, h.lead.sp⟩, h.mem, h.bnd⟩
structure Found (w : Well) (t : Bool) (c : Crew) (lo hi : Int) (S : List Crew) (B : List (Crew × Int)) (A : Anc) (x : PyData) : Prop where
  keys : A.map (·.1) = B.map (·.1)
  nd : (B.map (·.1)).Nodup
  sub : ∀ k ∈ B.map (·.1), k ∈ S
  rch : ∀ k ∈ B.map (·.1), Rch w t lo hi c k
  root : c ∈ B.map (·.1)
  ok : AncOk A
  len : B.length ≤ 60
  val : ∀ k v, look B k = some v → v.natAbs ≤ 2000000
  ring : x = .none ∨ ∃ v, x = Crew.d v ∧ RingP A v B.length
theorem SrB.found {w : Well} {t : Bool} {c : Crew} {lo hi : Int} {S ks : List Crew} {B : List (Crew × Int)} {A : Anc} {x : PyData} (b : Bnd w t lo hi S) (g : Graph w t lo hi c S ks) (s : SrB ks c B A) (hv : ∀ k v, look B k = some v → v.natAbs ≤ 2000000)
    (h : x = .none ∨ ∃ v, x = Crew.d v ∧ RingP A v B.length) : Found w t c lo hi S B A x :=
  ⟨s.keys, s.nd, fun k hk => g.sub k (s.sub k hk), fun k hk => g.rch k (s.sub k hk), s.root, s.ok, Nat.le_trans s.len (g.toGrp.len b), hv, h⟩
def gainD (w : Well) (t : Bool) (one other : Int) (k : Crew) : PyData := .int (gainL w t k one other)
theorem gain_abs (w : Well) (t : Bool) (k : Crew) (one other : Int) : (gainL w t k one other).natAbs ≤ 1 := by
  unfold gainL
  split <;> split <;> decide
abbrev sp_searched : Spec := Sp1 (α := LeadA × List Crew) (fun x => leadA x.1) (fun x => SearchP x.1.1 x.1.2.1 x.1.2.2.1 x.1.2.2.2.1 x.1.2.2.2.2.1 x.1.2.2.2.2.2.1 x.1.2.2.2.2.2.2 x.2) fun x c => ∃ B A y, Found x.1.1 x.1.2.1 x.1.2.2.1 x.1.2.2.2.1 x.1.2.2.2.2.1 x.2 B A y ∧ c = .t3 (bestT B) (ancT A) y
theorem cal_searched {f : Addr} {fd : FuncData} (T : Tp mg) (F : Def K mg "searched" s_searched f fd) (B : Binds K fd ["well", "rule", "crew", "low", "high", "one", "other"] []) (c_graph_of : Cal P w K mg base 6 "graph_of" (spX P w K sp_graph_of) []) (c_gain : Cal P w K mg base 5 "gain" (spX P w K sp_gain) []) : Cal P w K mg base 7 "searched" (spX P w K sp_searched) [] := by
  refine cal0 F B .nil sc_searched (sp1_len fun x => rfl) (fun cdv A outer s H vs Q E hr h => ?_)
  refine ⟨_, (pss_cons (ps_set (i := 7) sc_searched.nd rfl (Or.inl rfl) (pe_c c_graph_of hr (by decide) (by rfl) (pa_cons (pv 0) (pa_cons (pv 1) (pa_cons (pv 2) (pa_cons (pv 3) (pa_cons (pv 4) pa_nil))))))) (pss_cons (ps_setDc (i := 9) (own := [("here", 8)]) (g := (gName 8)) (hu16 hr) rfl sc_searched.nd rfl rfl (sw_trueD rfl rfl rfl (by decide +kernel)) (pi_keysN (pv 7)) (blkOk_by (N := N_searched) (sc := fnScope s_searched) (by decide +kernel)) (fun _ _ _ _ _ => (pg_name (i := 8) sc_searched.nd rfl (Or.inl rfl))) (fun _ _ _ _ _ => (pv 8)) (fun _ _ _ _ _ => (pe_c c_gain hr (by decide) (by rfl) (pa_cons (pv 0) (pa_cons (pv 1) (pa_cons (pv 8) (pa_cons (pv 5) (pa_cons (pv 6) pa_nil)))))))) (pss_cons (ps_par3 (i := 10) (j := 11) (l := 12) (by rfl) sc_searched.nd rfl rfl rfl (by decide) (by decide) (by decide) rfl rfl rfl (pa_cons (pe_disp1N (hu16 hr) (pv 2) pe_int) (pa_cons (pe_disp1N (hu16 hr) (pv 2) pe_non) (pa_cons (pe_frz (pe_lst (pa_cons (pv 2) pa_nil))) pa_nil))) (by rfl)) (pss_cons (ps_for PassesOwn.never rfl (pi_range1 (by rfl) T.b_range (pa_cons (pe_op op_add (pe_callB (r := rLenU K P w) call_lenU (by rfl) T.b_len bo_len (pa_cons (pv 7) pa_nil)) pe_int) pa_nil)) (pg_name (i := 13) sc_searched.nd rfl (Or.inl rfl)) (pss_cons (ps_set (i := 14) sc_searched.nd rfl (Or.inl rfl) pe_newN) (pss_cons (ps_for PassesOwn.never rfl (pi_list (pv 12)) (pg_name (i := 8) sc_searched.nd rfl (Or.inl rfl)) (pss_one (ps_for PassesOwn.never rfl (pi_list (pe_ix (r := rIxU K P w) (ix_u (hu16 hr)) (pv 7) (pv 8) (fun _ _ => rfl))) (pg_tup rfl (pgs_cons (pg_name (i := 15) sc_searched.nd rfl (Or.inl rfl)) (pgs_cons (pg_name (i := 16) sc_searched.nd rfl (Or.inl rfl)) pgs_nil))) (pss_one (ps_if (PW.pt (pw_or (pt_cmpR (r := rInU K P w true) (op_notInU (hu65 hr)) (pv 16) (pv 10) (by rfl)) (pw_or1 (pt_cmpR op_lt (pe_ix (r := rIxU K P w) (ix_u (hu16 hr)) (pv 10) (pv 16) (fun _ _ => rfl)) (pe_op op_add (pe_ix (r := rIxU K P w) (ix_u (hu16 hr)) (pv 10) (pv 8) (fun _ _ => rfl)) (pe_ix (r := rIxU K P w) (ix_u (hu16 hr)) (pv 9) (pv 8) (fun _ _ => rfl))) (nomark _))))) (pss_cons (ps_asg (pe_op op_add (pe_ix (r := rIxU K P w) (ix_u (hu16 hr)) (pv 10) (pv 8) (fun _ _ => rfl)) (pe_ix (r := rIxU K P w) (ix_u (hu16 hr)) (pv 9) (pv 8) (fun _ _ => rfl))) (pg_sub (pv 10) (pv 16) (set_u (hu16 hr)))) (pss_cons (ps_asg (pe_tupP (pa_cons (pv 8) (pa_cons (pv 15) pa_nil))) (pg_sub (pv 11) (pv 16) (set_u (hu16 hr)))) (pss_one (ps_asg pe_bl (pg_sub (pv 14) (pv 16) (set_u (hu16 hr))))))) pss_nil))))) (pss_cons (ps_set (i := 12) sc_searched.nd rfl (Or.inl rfl) (pe_frz (pe_callTy (r := rListN P w) (call_listN rfl) (by rfl) T.b_list bo_list (pa_cons (pv 14) pa_nil)))) (pss_one (ps_if (pt_cmpR (r := rEqU K) (op_eqU (hu64 hr)) (pv 12) (pe_frz (pe_lst pa_nil)) (nomark _)) (pss_one (ps_ret (pe_tupP (pa_cons (pe_frzD (pv 10)) (pa_cons (pe_frzD (pv 11)) (pa_cons pe_non pa_nil)))))) pss_nil)))))) (pss_one (ps_ret (pe_tupP (pa_cons (pe_frzD (pv 10)) (pa_cons (pe_frzD (pv 11)) (pa_cons (pe_ix (r := rIxU K P w) (ix_u (hu16 hr)) (pv 12) pe_int (fun _ _ => rfl)) pa_nil)))))))))), ?_⟩
  try dsimp only [cxOf, L2.Cx.nox, L2.Cx.wish, L2.Cx.blk]
  refine enter1 h fun x hx => ?_
  change SX _ _ [_, _, _, _, _, _, _, none, none, none, none, none, none, none, none, none, none] [] _
  obtain ⟨⟨w0, t, c0, lo, hi, one, other⟩, S⟩ := x
  dsimp only at hx
  have b := hx.bnd
  have hsp := hx.lead.sp
  have gp := hx.gr
  change SX _ _ [some (.dat w0.d), some (.dat (ruleD t)), some (.dat c0.d), some (.dat (.int lo)), some (.dat (.int hi)), some (.dat (.int one)), some (.dat (.int other)), none, none, none, none, none, none, none, none, none, none] [] _
  fail "xs"
  refine ⟨rfl, ((w0, t, c0, lo, hi), S), rfl, gp, ?_⟩
  rintro c ⟨ks, gr, rfl⟩
  dsimp only at gr
  have gl := gr.toGrp.len b
  have kok : ∀ k ∈ ks, k.Ok w0 t := fun k hk => b.ok k (gr.sub k hk)
  have hcs : (tabL (linkD w0 t lo hi) ks).map (fun e => Cl.dat e.1.d) = ks.map fun k => Cl.dat k.d := by
    unfold tabL
    rw [List.map_map]
    rfl
  fail "xs"
  refine ex_dcN (tg_name (by decide)) (ix_keys (ex_var rfl ⟨_, rfl, rfl, fun c => match c with | .dat d => (crewOf d, gainD w0 t one other (crewOf d)) | _ => (c0, .none), ?_, ?_, ?_⟩))
  · rw [List.length_map, tab_len]
    exact small (k := 60) gl rfl
  · rw [hcs]
    intro i c m e
    rw [List.getElem?_map] at e
    obtain ⟨k, hk, rfl⟩ := Option.map_eq_some_iff.mp e
    have hkm := List.mem_of_getElem? hk
    refine gx_name ?_
    change EX _ _ [_, _, _, _, _, _, _, _, _, _, _, _, _, _, _, _, _] _ _
    fail "xs"
    refine ⟨rfl, (w0, t, k, one, other), rfl, ⟨hx.lead.ok, kok k hkm⟩, ?_⟩
    fail "xs"
    rw [show gainD w0 t one other (crewOf k.d) = gainD w0 t one other k by rw [crewOf_d]]
    exact ⟨by show Cl.dat k.d = Cl.dat (crewOf k.d).d; rw [crewOf_d], rfl, rfl⟩
  have hm : mergeC [] (List.map (fun c => match c with | .dat d => (crewOf d, gainD w0 t one other (crewOf d)) | _ => (c0, .none)) ((tabL (linkD w0 t lo hi) ks).map fun e => Cl.dat e.1.d)) = tabL (gainD w0 t one other) ks := by
    rw [hcs, List.map_map]
    have e : List.map ((fun c => match c with | .dat d => (crewOf d, gainD w0 t one other (crewOf d)) | _ => (c0, .none)) ∘ fun k => Cl.dat (Crew.d k)) ks = tabL (gainD w0 t one other) ks := by
      unfold tabL
      refine List.map_congr_left fun k _ => ?_
      show (crewOf k.d, gainD w0 t one other (crewOf k.d)) = _
      rw [crewOf_d]
    rw [e]
    exact merge_tab (done := []) (by simpa using gr.nd)
  rw [hm]
  fail "xs"
  refine sx_for (ix_rng1 ?_)
  fail "xs"
  rw [tab_len]
  refine ⟨by omega, by omega, fun i γ os => ∃ B1 A1 L last, SrI ks c0 B1 A1 L last i ∧ γ = [some (.dat w0.d), some (.dat (ruleD t)), some (.dat c0.d), some (.dat (.int lo)), some (.dat (.int hi)), some (.dat (.int one)), some (.dat (.int other)), some (.fd (tabL (linkD w0 t lo hi) ks)), none, some (.own 0), some (.own 1), some (.own 2), some (.dat (.list (L.map Crew.d))), none, none, none, none] ∧ os = [.dic (tabL (gainD w0 t one other) ks), .dic (bestT B1), .dic (ancT A1)], ⟨[(c0, 0)], [(c0, none)], [c0], fun _ => 0, ?_, rfl, rfl⟩, ?_⟩
  · refine ⟨⟨rfl, by simp, fun k hk => ?_, by simp, fun k p e => ?_⟩, by simp, by simp, by simp, fun _ _ => rfl, fun _ => Nat.le_refl _, fun _ _ _ _ => Nat.zero_le _, fun _ _ => rfl, fun k v e => ?_⟩
    · have : k = c0 := by simpa using hk
      rw [this]; exact gr.root
    · rw [look_cons] at e
      split at e
      · cases e
      · cases e
    · rw [look_cons] at e
      split at e
      · cases e; exact Nat.zero_le _
      · cases e
  rintro i γ1 os1 hi1 ⟨B1, A1, L, last, si, rfl, rfl⟩
  refine ⟨fun hE => ?_, fun c hcc => ?_⟩
  · rw [rngC_len] at hE
    have hn : i = ks.length + 1 := by omega
    obtain ⟨v, L', rfl⟩ := List.exists_cons_of_ne_nil si.ne
    refine sx_ret (ex_tup3 ?_)
    fail "xs"
    refine ⟨trivial, B1, A1, v.d, ?_, rfl⟩
    exact si.toSrB.found b gr (fun k v e => by have := si.val k v e; omega) (.inr ⟨v, rfl, ring_of si (by omega) gl (by simp)⟩)
  · obtain ⟨hin, rfl⟩ := rng_at hcc
    have hL := si.laylen
    fail "xs"
    refine sx_for (ix_list (ex_var rfl ⟨_, rfl, fun j γ os => ∃ B2 A2 C2 last2, SrJ ks c0 B2 A2 L C2 last2 i (j * 301) ∧ γ = [some (.dat w0.d), some (.dat (ruleD t)), some (.dat c0.d), some (.dat (.int lo)), some (.dat (.int hi)), some (.dat (.int one)), some (.dat (.int other)), some (.fd (tabL (linkD w0 t lo hi) ks)), none, some (.own 0), some (.own 1), some (.own 2), some (.dat (.list (L.map Crew.d))), some (.dat (.int (0 + ((i : Nat) : Int)))), some (.own 3), none, none] ∧ os = [.dic (tabL (gainD w0 t one other) ks), .dic (bestT B2), .dic (ancT A2), .dic (tabL (fun _ => .bool true) C2)], ⟨B1, A1, [], last, by simpa using si.go, rfl, rfl⟩, ?_⟩))
    rintro j γ1 os1 hj1 ⟨B2, A2, C2, last2, sj, rfl, rfl⟩
    rw [List.length_map, List.length_map] at hj1
    refine ⟨fun hE => ?_, fun c hcc => ?_⟩
    · have hz : j * 301 ≤ 18060 := by omega
      refine sx_seq (sx_set (ex_frzB (ax_cons (ex_var rfl (ax_nil ⟨rfl, fun ds => ds = C2.map Crew.d, bx_listN rfl ⟨_, rfl, rfl, ?_⟩, ?_⟩)))))
      · unfold tabL
        rw [List.map_map]
        rfl
      rintro ds rfl
      refine sx_if (tx_test (ex_op (ex_var rfl ?_)))
      fail "xs"
      refine rx_eqD rfl rfl (shaped_crews C2) shaped_nil ?_
      rw [eqv_nil]
      refine ⟨_, rfl, fun hb => ?_, fun hb => ?_⟩
      · refine sx_ret (ex_tup3 ?_)
        fail "xs"
        refine ⟨trivial, B2, A2, .none, ?_, rfl⟩
        exact sj.toSrB.found b gr (fun k v e => by have := sj.val k v e; omega) (.inl rfl)
      · have hC : C2 ≠ [] := fun z => by
          subst z
          exact Bool.noConfusion hb
        fail "xs"
        exact ⟨_, _, ⟨B2, A2, C2, last2, sj.done hz hC, rfl, rfl⟩, by fail "wk"⟩
    · obtain ⟨d, e1, rfl⟩ := dat_at hcc
      obtain ⟨u, e2, rfl⟩ := map_at e1
      have huL := List.mem_of_getElem? e2
      have hus := sj.sub u (sj.lay u huL)
      refine gx_name ?_
      refine sx_for (ix_list (ex_op (ex_var rfl (ex_var rfl (rx_ixN rfl (x := linkD w0 t lo hi u) (by rw [tab_look, if_pos hus]) ⟨_, rfl, fun l γ os => ∃ B3 A3 C3 last3, SrJ ks c0 B3 A3 L C3 last3 i (j * 301 + l) ∧ γ = [some (.dat w0.d), some (.dat (ruleD t)), some (.dat c0.d), some (.dat (.int lo)), some (.dat (.int hi)), some (.dat (.int one)), some (.dat (.int other)), some (.fd (tabL (linkD w0 t lo hi) ks)), some (.dat u.d), some (.own 0), some (.own 1), some (.own 2), some (.dat (.list (L.map Crew.d))), some (.dat (.int (0 + ((i : Nat) : Int)))), some (.own 3), none, none] ∧ os = [.dic (tabL (gainD w0 t one other) ks), .dic (bestT B3), .dic (ancT A3), .dic (tabL (fun _ => .bool true) C3)], ⟨B2, A2, C2, last2, sj, rfl, rfl⟩, ?_⟩)))))
      rintro l γ1 os1 hl1 ⟨B3, A3, C3, last3, sk, rfl, rfl⟩
      rw [List.length_map, List.length_map] at hl1
      have hsl := stepL_len (w := w0) (t := t) (c := u) hsp
      refine ⟨fun hE => ?_, fun c hcc => ?_⟩
      · exact ⟨_, _, ⟨B3, A3, C3, last3, sk.more (by omega), rfl, rfl⟩, by fail "wk"⟩
      · obtain ⟨d, e3, rfl⟩ := dat_at hcc
        obtain ⟨p, e4, rfl⟩ := map_at e3
        have hpk := gr.clo u hus p (List.mem_of_getElem? e4)
        obtain ⟨vu, hvu⟩ := Option.isSome_iff_exists.mp (look_some.mpr (sk.lay u huL))
        have hbu : look (bestT B3) u = some (.int vu) := by rw [best_look, hvu]; rfl
        have hgu : look (tabL (gainD w0 t one other) ks) u = some (.int (gainL w0 t u one other)) := by rw [tab_look, if_pos hus]; rfl
        have hz1 : (bestT B3).length < sizeLine := by rw [best_len]; exact small (k := 60) (Nat.le_trans sk.toSrB.len gl) rfl
        have hz2 : (ancT A3).length < sizeLine := by
          rw [anc_len, show A3.length = B3.length by rw [← List.length_map (as := A3) (·.1), sk.keys, List.length_map]]
          exact small (k := 60) (Nat.le_trans sk.toSrB.len gl) rfl
        have hz3 : (tabL (fun _ => PyData.bool true) C3).length < sizeLine := by rw [tab_len]; exact small (k := 60) (Nat.le_trans sk.laylen gl) rfl
        unfold pairD
        refine gx_tup rfl rfl (gsx_cons (gx_name (gsx_cons (gx_name (gsx_nil (sx_if (TX.imp (R' := fun _ os1 => os1 = [.dic (tabL (gainD w0 t one other) ks), .dic (bestT B3), .dic (ancT A3), .dic (tabL (fun _ => .bool true) C3)]) ?_ ?_)))))))
        · fail "xs"
          refine rx_notInN rfl ?_
          rw [best_look, Option.isSome_map]
          cases hB : look B3 p.2 with
          | none => fail "xs"
          | some v0 =>
            fail "xs"
            refine rx_ixN rfl (x := .int v0) (by rw [best_look, hB]; rfl) ?_
            fail "xs"
            refine rx_ixN rfl hbu ?_
            fail "xs"
            refine rx_ixN rfl hgu ?_
            fail "xs"
        rintro b1 _ rfl
        refine ⟨fun _ => ?_, fun _ => ?_⟩
        · refine sx_seq (sx_asg (ex_op (ex_op (ex_var rfl (ex_var rfl (rx_ixN rfl hbu ?_))))))
          refine ex_op (ex_var rfl (ex_var rfl (rx_ixN rfl hgu ?_)))
          refine rx_add (gx_subN (ex_var rfl (ex_var rfl ⟨_, _, p.2, _, rfl, rfl, rfl, rfl, hz1, ?_⟩)))
          rw [best_put]
          fail "xs"
          refine gx_subN (ex_var rfl (ex_var rfl ⟨_, _, p.2, _, rfl, rfl, rfl, rfl, hz2, ?_⟩))
          rw [show PyData.tuple [u.d, .int p.1] = ancD (some (u, p.1)) from rfl, anc_put]
          fail "xs"
          refine gx_subN (ex_var rfl (ex_var rfl ⟨_, _, p.2, _, rfl, rfl, rfl, rfl, hz3, ?_⟩))
          rw [chg_put]
          fail "xs"
          refine ⟨_, _, ⟨_, _, _, _, sk.set huL hpk (v := vu + gainL w0 t u one other) ?_, rfl, rfl⟩, by fail "wk"⟩
          have h1 := sk.val u vu hvu
          have h2 := gain_abs w0 t u one other
          omega
        · fail "xs"
          exact ⟨_, _, ⟨B3, A3, C3, last3, sk.more (by omega), rfl, rfl⟩, by fail "wk"⟩
end
end Pk
/-! Pk, part Z: papers. -/
namespace Pk
open PySem PySem.Spec PyProof.Rows L2 C8

def heightD (p : Crew × Int) : PyData := .tuple [p.1.d, .int p.2]
def heightOf : PyData → Crew × Int
  | .tuple [c, .int n] => (crewOf c, n)
  | _ => (⟨0, [], [], 0⟩, 0)
theorem heightOf_d (p : Crew × Int) : heightOf (heightD p) = p := by
  show (crewOf p.1.d, p.2) = p
  rw [crewOf_d]
def leadD (m : Int) (row : List Int) (hs : List (Crew × Int)) : PyData := .tuple [.str "lead", .int m, .tuple (row.map .int), .tuple (hs.map heightD)]
def endD (r1 r2 : List Int) : PyData := .tuple [.str "endless", .tuple (r1.map .int), .tuple (r2.map .int)]
/-- the form of what lead_paper tells -/
inductive Told (w : Well) (t : Bool) : PyData → Prop where
  | lead (m : Int) (row : List Int) (hs : List (Crew × Int)) (hm : m.natAbs ≤ 2000000) (hr : row.length ≤ 100000) (hh : hs.length ≤ 60) (ho : ∀ p ∈ hs, p.1.Ok w t ∧ p.2.natAbs ≤ 2000000) : Told w t (leadD m row hs)
  | endless (r1 r2 : List Int) (h1 : r1.length ≤ 100000) (h2 : r2.length ≤ 100000) : Told w t (endD r1 r2)
theorem perm_heights {es : List PyData} {B : List (Crew × Int)} (h : es.Perm (B.map heightD)) : ∃ hs : List (Crew × Int), hs.Perm B ∧ es = hs.map heightD := by
  refine ⟨es.map heightOf, ?_, ?_⟩
  · have := h.map heightOf
    rw [List.map_map] at this
    refine this.trans ?_
    rw [show B.map (heightOf ∘ heightD) = B from (List.map_congr_left fun p _ => heightOf_d p).trans (List.map_id B)]
  · rw [List.map_map]
    refine ((List.map_congr_left fun d hd => ?_).trans (List.map_id es)).symm
    obtain ⟨p, _, rfl⟩ := List.mem_map.mp (h.mem_iff.mp hd)
    show heightD (heightOf (heightD p)) = heightD p
    rw [heightOf_d]
theorem alike_ints : ∀ a b : List Int, PySem.W.alikeAll (a.map .int) (b.map .int) = true
  | [], _ => by simp [PySem.W.alikeAll]
  | _ :: _, [] => by simp [PySem.W.alikeAll]
  | x :: a, y :: b => by simp [PySem.W.alikeAll, PySem.W.alike, alike_ints a b]
theorem alike_crew (a b : Crew) : PySem.W.alike a.d b.d = true := by simp [Crew.d, PySem.W.alike, PySem.W.alikeAll, alike_ints]
theorem alike_heights (l : List (Crew × Int)) : PySem.W.AllAlike (l.map heightD) := fun d hd d' hd' => by
  obtain ⟨p, _, rfl⟩ := List.mem_map.mp hd
  obtain ⟨q, _, rfl⟩ := List.mem_map.mp hd'
  simp [heightD, PySem.W.alike, PySem.W.alikeAll, alike_crew]
theorem sortable_heights (l : List (Crew × Int)) : PySem.W.Sortable (l.map heightD) := .inl fun d hd => by
  obtain ⟨p, _, rfl⟩ := List.mem_map.mp hd
  exact ⟨_, _, rfl⟩
theorem dep_height (p : Crew × Int) : (heightD p).depth = 3 := by simp [heightD, PyData.depth, PyData.depthAll, dep_crew]
theorem best_keys {B : List (Crew × Int)} : (bestT B).map (fun e => Cl.dat e.1.d) = (B.map (·.1)).map fun k => Cl.dat k.d := by
  unfold bestT
  rw [List.map_map, List.map_map]
  rfl
theorem best_vals {B : List (Crew × Int)} : (bestT B).map (·.2) = (B.map (·.2)).map .int := by
  unfold bestT
  rw [List.map_map, List.map_map]
  rfl
theorem best_items {B : List (Crew × Int)} : (bestT B).map (fun e => PyData.tuple [e.1.d, e.2]) = B.map heightD := by
  unfold bestT
  rw [List.map_map]
  rfl
/-- the first crew with the greatest value -/
theorem goal_at {B : List (Crew × Int)} {z : Int} (nd : (B.map (·.1)).Nodup) (hz : z ∈ B.map (·.2)) : ∃ k, k ∈ B.map (·.1) ∧ ((((B.map (·.1)).map fun k => Cl.dat k.d).filter (onB fun d => decide (look B (crewOf d) = some z))).map (onD id))[0]? = some k.d := by
  obtain ⟨e, he, rfl⟩ := List.mem_map.mp hz
  have hl := look_of_mem nd (k := e.1) (v := e.2) he
  have hmem : Cl.dat e.1.d ∈ ((B.map (·.1)).map fun k => Cl.dat k.d).filter (onB fun d => decide (look B (crewOf d) = some e.2)) := by
    rw [List.mem_filter]
    refine ⟨List.mem_map.mpr ⟨e.1, List.mem_map.mpr ⟨e, he, rfl⟩, rfl⟩, ?_⟩
    show decide (look B (crewOf e.1.d) = some e.2) = true
    rw [crewOf_d]
    exact decide_eq_true hl
  cases hf : ((B.map (·.1)).map fun k => Cl.dat k.d).filter (onB fun d => decide (look B (crewOf d) = some e.2)) with
  | nil => rw [hf] at hmem; cases hmem
  | cons c l =>
    have hc : c ∈ ((B.map (·.1)).map fun k => Cl.dat k.d).filter (onB fun d => decide (look B (crewOf d) = some e.2)) := by rw [hf]; exact List.mem_cons_self
    obtain ⟨k, hk, rfl⟩ := List.mem_map.mp (List.mem_filter.mp hc).1
    exact ⟨k, hk, rfl⟩
end Pk
/-! W11 (printed by gen/mk.py) -/
namespace Pk
open PySem PySem.Spec PyProof.Rows L2 C8

local macro_rules | `(tactic| fail "x1") => `(tactic| (first
  | (guard_target =~ EX _ _ _ _ _; first
    | ((with_reducible apply ex_var); exact rfl)
    | with_reducible refine ex_int ?_
    | with_reducible refine ex_op ?_
    | with_reducible refine ex_cb ?_
    | with_reducible refine ex_str ?_
    | with_reducible refine ex_non ?_
    | with_reducible refine ex_bl ?_
    | with_reducible refine ex_ty ?_
    | with_reducible refine ex_call1 ?_
    | with_reducible refine ex_if ?_
    | with_reducible refine ex_and ?_
    | with_reducible refine ex_or ?_
    | with_reducible refine ex_not ?_
    | with_reducible refine ex_chain ?_
    | with_reducible refine ex_tup ?_
    | with_reducible refine ex_lst ?_
    | with_reducible refine ex_append ?_
    | with_reducible refine ex_disp1N ?_
    | with_reducible refine ex_newN ?_
    | with_reducible refine ex_frzV ?_
    | with_reducible refine ex_frzDV ?_
    | with_reducible refine ex_frzL ?_
    | with_reducible refine ex_frzSl ?_
    | with_reducible refine ex_frzRev ?_
    | with_reducible refine ex_frzRg ?_
    | with_reducible refine ex_un ?_
    | with_reducible refine ex_slT ?_
    | fail "stop")
  | (guard_target =~ AX _ _ _ _ _; first
    | with_reducible refine ax_cons ?_
    | with_reducible refine ax_nil ?_
    | fail "stop")
  | (guard_target =~ SX _ _ _ _ _; first
    | with_reducible refine sx_seq ?_
    | with_reducible refine sx_set ?_
    | with_reducible refine sx_if ?_
    | with_reducible refine sx_ret ?_
    | with_reducible refine sx_next ?_
    | with_reducible refine sx_asg ?_
    | with_reducible refine sx_drop ?_
    | with_reducible refine sx_par ?_
    | with_reducible refine sx_par3 ?_
    | fail "stop")
  | (guard_target =~ TX _ _ _ _ _; first
    | with_reducible refine tx_b ?_
    | with_reducible refine tx_test ?_
    | with_reducible refine tx_and ?_
    | with_reducible refine tx_or ?_
    | with_reducible refine tx_not ?_
    | with_reducible refine tx_yes ?_
    | fail "stop")
  | (guard_target =~ RX _ _ _ _ _ _; first
    | with_reducible refine rx_add ?_
    | with_reducible refine rx_sub ?_
    | ((with_reducible apply rx_mod); (first | assumption | omega))
    | ((with_reducible apply rx_mul); (first | assumption | exact .inl ⟨by omega, by omega⟩))
    | with_reducible refine rx_lt ?_
    | with_reducible refine rx_le ?_
    | with_reducible refine rx_gt ?_
    | with_reducible refine rx_ge ?_
    | with_reducible refine rx_isN ?_
    | with_reducible refine rx_notN ?_
    | with_reducible refine rx_eqI ?_
    | with_reducible refine rx_neI ?_
    | with_reducible refine rx_eqRule ?_
    | with_reducible refine rx_eqS ?_
    | with_reducible refine rx_neS ?_
    | ((with_reducible apply rx_ix0); exact rfl; exact rfl)
    | ((with_reducible apply rx_ix1); exact rfl; exact rfl)
    | ((with_reducible apply rx_ix2); exact rfl; exact rfl)
    | ((with_reducible apply rx_ix3); exact rfl; exact rfl)
    | ((with_reducible apply rx_ix4); exact rfl; exact rfl)
    | ((with_reducible apply rx_ix5); exact rfl; exact rfl)
    | ((with_reducible apply rx_ix6); exact rfl; exact rfl)
    | ((with_reducible apply rx_ix7); exact rfl; exact rfl)
    | ((with_reducible apply rx_ix8); exact rfl; exact rfl)
    | ((with_reducible apply rx_ixL0); exact rfl; exact rfl)
    | ((with_reducible apply rx_ixL1); exact rfl; exact rfl)
    | fail "stop")
  | (guard_target =~ BX _ _ _ _ _; first
    | with_reducible refine bx_isInt ?_
    | with_reducible refine bx_isBool ?_
    | with_reducible refine bx_isStr ?_
    | with_reducible refine bx_isTup ?_
    | with_reducible refine bx_intI ?_
    | with_reducible refine bx_intB ?_
    | with_reducible refine bx_min2 ?_
    | with_reducible refine bx_max2 ?_
    | ((with_reducible apply bx_lenT); exact rfl)
    | ((with_reducible apply bx_lenL); exact rfl)
    | ((with_reducible apply bx_lenN); exact rfl)
    | fail "stop")
  | ((with_reducible apply gx_tup); exact rfl; exact rfl)
  | (guard_target =~ GsX _ _ _ _ _ _; first | refine gsx_cons ?_ | refine gsx_nil ?_ | fail "stop")
  | with_reducible refine gx_name ?_
  | with_reducible refine ox_some ?_
  | with_reducible refine ox_none ?_
  | with_reducible refine ux_neg ?_
  | refine ⟨_, rfl, Nat.le_of_ble_eq_true rfl, rfl, ?_⟩
  | refine ⟨_, rfl, Nat.le_of_ble_eq_true rfl, ?_⟩
  | refine ⟨_, _, rfl, rfl, rfl, ?_⟩
  | refine ⟨_, _, rfl, rfl, by assumption, ?_⟩
  | refine ⟨_, _, rfl, rfl, ?_⟩
  | refine ⟨_, _, _, rfl, ?_⟩
  | refine ⟨_, _, rfl, ?_⟩
  | refine ⟨_, rfl, ?_⟩
  | refine ⟨rfl, (_, some _, some _), rfl, trivial, ?_⟩
  | refine ⟨rfl, (_, some _, none), rfl, trivial, ?_⟩
  | refine ⟨rfl, (_, _), rfl, by assumption, ?_⟩
  | refine ⟨rfl, (_, _, _), rfl, by assumption, ?_⟩
  | refine ⟨rfl, (_, _, _, _), rfl, by assumption, ?_⟩
  | ((with_reducible intro c hc); subst hc)
  | refine ⟨fun hb => Bool.noConfusion hb, fun _ => ?_⟩
  | refine ⟨fun _ => ?_, fun hb => Bool.noConfusion hb⟩
  | dsimp only
  | fail "stop"))
local macro_rules | `(tactic| fail "xc") => `(tactic| (first | (refine ⟨fun hb => ?_, fun hb => ?_⟩ <;> first | exact Bool.noConfusion hb | skip) | fail "stop"))
local macro_rules | `(tactic| fail "xs") => `(tactic| repeat fail "x1")
local macro_rules | `(tactic| fail "xx") => `(tactic| repeat' (first | fail "x1" | fail "xc" | fail "stop"))
local macro_rules | `(tactic| fail "wk") => `(tactic| (first | (refine ⟨?_, rfl⟩; repeat (first | exact Wc.nil | refine Wc.keep (by first | exact trivial | exact Nat.le_of_ble_eq_true rfl) ?_ | refine Wc.drop ?_)) | fail "stop"))

section
variable {P : Program} {w : World} {K : PySem.W.Frag} {mg : Str → Option Value} {base : Heap}
abbrev sp_lead_paper : Spec := Sp1 (α := LeadA × List Crew) (fun x => leadA x.1) (fun x => SearchP x.1.1 x.1.2.1 x.1.2.2.1 x.1.2.2.2.1 x.1.2.2.2.2.1 x.1.2.2.2.2.2.1 x.1.2.2.2.2.2.2 x.2) fun x c => ∃ d, Told x.1.1 x.1.2.1 d ∧ c = .dat d
theorem cal_lead_paper {f : Addr} {fd : FuncData} (T : Tp mg) (F : Def K mg "lead_paper" s_lead_paper f fd) (B : Binds K fd ["well", "rule", "crew", "low", "high", "one", "other"] []) (c_need_lead : Cal P w K mg base 5 "need_lead" (spX P w K sp_need_lead) []) (c_searched : Cal P w K mg base 7 "searched" (spX P w K sp_searched) []) (c_ring_at : Cal P w K mg base 1 "ring_at" (spX P w K sp_ring_at) []) (c_way_to : Cal P w K mg base 6 "way_to" (spX P w K sp_way_to) []) (c_row_to : Cal P w K mg base 1 "row_to" (spX P w K sp_row_to) []) : Cal P w K mg base 8 "lead_paper" (spX P w K sp_lead_paper) [] := by
  refine cal0 F B .nil sc_lead_paper (sp1_len fun x => rfl) (fun cdv A outer s H vs Q E hr h => ?_)
  refine ⟨_, (pss_cons (ps_expr (pe_c c_need_lead hr (by decide) (by rfl) (pa_cons (pv 0) (pa_cons (pv 1) (pa_cons (pv 2) (pa_cons (pv 3) (pa_cons (pv 4) (pa_cons (pv 5) (pa_cons (pv 6) pa_nil))))))))) (pss_cons (ps_asg (pe_c c_searched hr (by decide) (by rfl) (pa_cons (pv 0) (pa_cons (pv 1) (pa_cons (pv 2) (pa_cons (pv 3) (pa_cons (pv 4) (pa_cons (pv 5) (pa_cons (pv 6) pa_nil)))))))) (pg_tup rfl (pgs_cons (pg_name (i := 7) sc_lead_paper.nd rfl (Or.inr rfl)) (pgs_cons (pg_name (i := 8) sc_lead_paper.nd rfl (Or.inl rfl)) (pgs_cons (pg_name (i := 9) sc_lead_paper.nd rfl (Or.inl rfl)) pgs_nil))))) (pss_cons (ps_if (pt_cmpR op_notN (pv 9) pe_non (nomark _)) (pss_cons (ps_asg (pe_c c_ring_at hr (by decide) (by rfl) (pa_cons (pv 8) (pa_cons (pv 9) (pa_cons (pe_callB (r := rLenU K P w) call_lenU (by rfl) T.b_len bo_len (pa_cons (pv 7) pa_nil)) pa_nil)))) (pg_tup rfl (pgs_cons (pg_name (i := 10) sc_lead_paper.nd rfl (Or.inl rfl)) (pgs_cons (pg_name (i := 11) sc_lead_paper.nd rfl (Or.inl rfl)) pgs_nil)))) (pss_one (ps_ret (pe_tupP (pa_cons (pe_gc (by rfl) T.g_ENDLESS) (pa_cons (pe_c c_way_to hr (by decide) (by rfl) (pa_cons (pv 0) (pa_cons (pv 1) (pa_cons (pv 2) (pa_cons (pv 3) (pa_cons (pv 4) (pa_cons (pv 10) pa_nil))))))) (pa_cons (pe_callTy (r := rTupOf K) call_tupOf (by rfl) T.b_tuple bo_tuple (pa_cons (pv 11) pa_nil)) pa_nil))))))) pss_nil) (pss_cons (ps_set (i := 12) sc_lead_paper.nd rfl (Or.inr rfl) (pe_callB (r := rMax K) (cr_max rfl) (by rfl) T.b_max bo_max (pa_cons (pe_frz (pe_listVals rfl (pv 7) (by rfl) T.b_list bo_list)) pa_nil))) (pss_cons (ps_set (i := 13) sc_lead_paper.nd rfl (Or.inl rfl) (pe_ix (r := rIxU K P w) (ix_u (hu16 hr)) (pe_frz (pe_lc (own := [("here", 10)]) (g := (gName 10)) rfl sc_lead_paper.nd (pi_keysN (pv 7)) (blkOk_by (N := N_lead_paper) (sc := fnScope s_lead_paper) (by decide +kernel)) (fun _ _ _ _ _ => (pg_name (i := 10) sc_lead_paper.nd rfl (Or.inl rfl))) (fun _ _ _ _ _ => (pts_one (pt_cmpR (r := rEqU K) (op_eqU (hu64 hr)) (pe_ix (r := rIxU K P w) (ix_u (hu16 hr)) (pv 7) (pv 10) (fun _ _ => rfl)) (pv 12) (nomark _)))) (fun _ _ _ _ _ => (pv 10)))) pe_int (fun _ _ => rfl))) (pss_one (ps_ret (pe_tupP (pa_cons (pe_gc (by rfl) T.g_LEAD) (pa_cons (pv 12) (pa_cons (pe_callTy (r := rTupOf K) call_tupOf (by rfl) T.b_tuple bo_tuple (pa_cons (pe_c c_row_to hr (by decide) (by rfl) (pa_cons (pv 8) (pa_cons (pv 13) (pa_cons (pe_gc (by rfl) T.g_MOST_ROW) pa_nil)))) pa_nil)) (pa_cons (pe_callTy (r := rTupOf K) call_tupOf (by rfl) T.b_tuple bo_tuple (pa_cons (pe_frz (pe_callB (r := rSortD K) (cr_sortD (hu64 hr)) (by rfl) T.b_sorted bo_sorted (pa_cons (pe_frz (pe_listItemsN rfl (pv 7) (by rfl) T.b_list bo_list)) pa_nil))) pa_nil)) pa_nil)))))))))))), ?_⟩
  try dsimp only [cxOf, L2.Cx.nox, L2.Cx.wish, L2.Cx.blk]
  refine enter1 h fun x hx => ?_
  change SX _ _ [_, _, _, _, _, _, _, none, none, none, none, none, none, none] [] _
  obtain ⟨⟨w0, t, c0, lo, hi, one, other⟩, S⟩ := x
  dsimp only at hx
  have b := hx.bnd
  have gp := hx.gr
  have hlead := hx.lead
  change SX _ _ [some (.dat w0.d), some (.dat (ruleD t)), some (.dat c0.d), some (.dat (.int lo)), some (.dat (.int hi)), some (.dat (.int one)), some (.dat (.int other)), none, none, none, none, none, none, none] [] _
  fail "xs"
  refine ⟨rfl, (w0, t, c0, lo, hi, one, other), rfl, hlead, ?_⟩
  fail "xs"
  refine ⟨rfl, ((w0, t, c0, lo, hi, one, other), S), rfl, hx, ?_⟩
  rintro c ⟨B1, A1, y, fd1, rfl⟩
  dsimp only at fd1
  have hcs := best_keys (B := B1)
  fail "xs"
  rcases fd1.ring with rfl | ⟨v, rfl, hring⟩
  · fail "xs"
    refine ex_frzT (ex_listVals (ex_var rfl ⟨_, rfl, _, _, rfl, Nat.le_refl _, rfl, rfl, ?_⟩))
    fail "xs"
    have hroot := fd1.root
    refine bx_max (ns := B1.map (·.2)) (by show some _ = some _; rw [best_vals]) ?_ ?_
    · rw [List.length_map]
      obtain ⟨e, he, _⟩ := List.mem_map.mp hroot
      exact List.length_pos_of_mem he
    intro z hz hmax
    obtain ⟨k, hk, hgo⟩ := goal_at fd1.nd hz
    refine sx_seq (sx_set (ex_op (ex_lcF (tg_name (by decide)) (ix_keys (ex_var rfl ⟨_, rfl, rfl, onB fun d => decide (look B1 (crewOf d) = some z), onD id, ?_, ?_, ?_⟩)))))
    · rw [List.length_map, best_len]
      exact small (k := 60) fd1.len rfl
    · rw [hcs]
      intro i c acc e
      rw [List.getElem?_map] at e
      obtain ⟨j, hj, rfl⟩ := Option.map_eq_some_iff.mp e
      obtain ⟨vj, hvj⟩ := Option.isSome_iff_exists.mp (look_some.mpr (List.mem_of_getElem? hj))
      refine gx_name ?_
      change TX _ _ [_, _, _, _, _, _, _, _, _, _, _, _, _, _] _ _
      fail "xs"
      refine rx_ixN rfl (x := .int vj) (by rw [best_look, hvj]; rfl) ?_
      fail "xs"
      refine ⟨?_, rfl, fun hb => ?_⟩
      · show decide (vj = z) = decide (look B1 (crewOf j.d) = some z)
        rw [crewOf_d, hvj]
        simp
      · fail "xs"
        exact ⟨rfl, rfl⟩
    rw [hcs]
    fail "xs"
    refine rx_ixL0 rfl hgo ?_
    fail "xs"
    refine ⟨rfl, (A1, k, 100000), rfl, ⟨fd1.ok, look_some.mpr (by rw [fd1.keys]; exact hk), Nat.le_refl _⟩, ?_⟩
    rintro c ⟨row, hr, rfl⟩
    fail "xs"
    refine bx_tupL rfl ?_
    fail "xs"
    have hval : ∀ p ∈ B1, p.1.Ok w0 t ∧ p.2.natAbs ≤ 2000000 := fun p hp =>
      ⟨b.ok p.1 (fd1.sub p.1 (List.mem_map.mpr ⟨p, hp, rfl⟩)), fd1.val p.1 p.2 (look_of_mem fd1.nd hp)⟩
    refine ex_frzB (ax_cons (ex_frzT (ex_items (ex_var rfl ⟨_, rfl, _, _, rfl, Nat.le_refl _, rfl, rfl, ax_nil ⟨rfl, fun ds => ds.Perm (B1.map heightD), bx_sort (ds := B1.map heightD) (by show some _ = some _; rw [best_items]) (alike_heights _) (sortable_heights _) (fun d hd => ?_) (fun es hp => ⟨es, rfl, rfl, hp⟩), fun ds hp => ?_⟩⟩))))
    · obtain ⟨p, _, rfl⟩ := List.mem_map.mp hd
      rw [dep_height]
      decide
    obtain ⟨hs, hperm, rfl⟩ := perm_heights hp
    fail "xs"
    refine bx_tupL rfl ?_
    fail "xs"
    refine ⟨trivial, _, .lead z row hs ?_ hr (by rw [hperm.length_eq]; exact fd1.len) (fun p hp => hval p (hperm.mem_iff.mp hp)), rfl⟩
    obtain ⟨e, he, rfl⟩ := List.mem_map.mp hz
    exact (hval e he).2
  · fail "xs"
    refine ⟨rfl, (A1, v, (bestT B1).length), rfl, ⟨by rw [best_len]; exact hring, by rw [best_len]; exact fd1.len⟩, ?_⟩
    rintro c ⟨z, l, hz, hl, rfl⟩
    dsimp only at hz
    fail "xs"
    refine ⟨rfl, (((w0, t, c0, lo, hi), z), S), rfl, ⟨gp, fd1.rch z (by rw [← fd1.keys]; exact look_some.mp hz)⟩, ?_⟩
    rintro c ⟨row, hr, rfl⟩
    fail "xs"
    refine bx_tupL rfl ?_
    fail "xs"
    exact ⟨trivial, _, .endless row l hr (by omega), rfl⟩
end
end Pk
/-! Qa, part A: what both judges compute. -/
namespace Pk
open PySem PySem.Spec PyProof.Rows L2 C8

/-- a row played: the crew behind it, the lead -/
def ledF (w : Well) (t : Bool) (lo hi one other : Int) : Crew → Int → List PyData → Option (Crew × Int)
  | c, s, [] => some (c, s)
  | c, s, d :: r => match d with
    | .int x => if lo ≤ x ∧ x ≤ hi then (match nextC w t c x with
      | some c' => ledF w t lo hi one other c' (s + gainL w t c one other) r
      | none => none) else none
    | _ => none
def ledD : Option (Crew × Int) → PyData
  | none => .none
  | some p => .tuple [p.1.d, .int p.2]
theorem led_ok {w : Well} {t : Bool} {lo hi one other : Int} (hw : w.Ok) : ∀ {l : List PyData} {c : Crew} {s : Int} {p : Crew × Int}, c.Ok w t → ledF w t lo hi one other c s l = some p → p.1.Ok w t ∧ p.2.natAbs ≤ s.natAbs + l.length
  | [], c, s, p, h, e => by
    cases e
    exact ⟨h, Nat.le_refl _⟩
  | d :: r, c, s, p, h, e => by
    unfold ledF at e
    split at e
    · split at e
      · split at e
        · rename_i c' hn
          obtain ⟨h1, h2⟩ := led_ok hw (next_ok hw h hn) e
          have := gain_abs w t c one other
          refine ⟨h1, ?_⟩
          rw [List.length_cons]
          omega
        · cases e
      · cases e
    · cases e
/-- one pair of a paper's heights -/
def hgtB (w : Well) (t : Bool) : PyData → Bool
  | .tuple [c, .int _] => crewB w t c
  | _ => false
def fstD : PyData → PyData
  | .tuple (c :: _) => c
  | _ => .none
/-- they rise -/
def riseB (ds : List PyData) : Bool := (ds.zip (ds.drop 1)).all fun p => PySem.W.dataLt (fstD p.1) (fstD p.2)
def heightsB (w : Well) (t : Bool) : PyData → Bool
  | .tuple ds => ds.all (hgtB w t) && riseB ds
  | _ => false
theorem hgt_of {w : Well} {t : Bool} {d : PyData} (h : hgtB w t d = true) : ∃ p : Crew × Int, d = heightD p ∧ p.1.Ok w t := by
  unfold hgtB at h
  split at h
  · rename_i c n
    obtain ⟨c', rfl, ho⟩ := crew_of h
    exact ⟨(c', n), rfl, ho⟩
  · cases h
theorem hgts_of {w : Well} {t : Bool} : ∀ {ds : List PyData}, ds.all (hgtB w t) = true → ∃ hs : List (Crew × Int), ds = hs.map heightD ∧ ∀ p ∈ hs, p.1.Ok w t
  | [], _ => ⟨[], rfl, fun _ h => nomatch h⟩
  | d :: ds, h => by
    rw [List.all_cons, Bool.and_eq_true] at h
    obtain ⟨p, rfl, hp⟩ := hgt_of h.1
    obtain ⟨hs, rfl, hh⟩ := hgts_of h.2
    refine ⟨p :: hs, rfl, fun q hq => ?_⟩
    rcases List.mem_cons.mp hq with rfl | hq
    · exact hp
    · exact hh q hq
/-- the heights by their crews: later ones win -/
def keepH (hs : List (Crew × Int)) : List (Crew × Int) := hs.foldl (fun m p => put m p.1 p.2) []
theorem merge_best : ∀ (hs m : List (Crew × Int)), mergeC (bestT m) (bestT hs) = bestT (hs.foldl (fun m p => put m p.1 p.2) m)
  | [], _ => rfl
  | p :: hs, m => by
    show mergeC (put (bestT m) p.1 (.int p.2)) (bestT hs) = _
    rw [best_put]
    exact merge_best hs _
theorem keep_merge (hs : List (Crew × Int)) : mergeC [] (bestT hs) = bestT (keepH hs) := merge_best hs []
theorem keep_keys : ∀ (hs m : List (Crew × Int)) (k : Crew), k ∈ (hs.foldl (fun m p => put m p.1 p.2) m).map (·.1) ↔ k ∈ m.map (·.1) ∨ k ∈ hs.map (·.1)
  | [], m, k => by simp
  | p :: hs, m, k => by
    show k ∈ (hs.foldl (fun m p => put m p.1 p.2) (put m p.1 p.2)).map (·.1) ↔ _
    rw [keep_keys hs, keys_put_mem, List.map_cons, List.mem_cons]
    exact or_assoc
def maxL : List Int → Int
  | [] => 0
  | a :: l => l.foldl max a
theorem fold_max : ∀ (l : List Int) (a : Int), (l.foldl max a ∈ a :: l) ∧ ∀ y ∈ a :: l, y ≤ l.foldl max a
  | [], a => ⟨by simp, fun y hy => by
    rw [List.mem_singleton.mp hy]
    exact Int.le_refl _⟩
  | b :: l, a => by
    obtain ⟨h1, h2⟩ := fold_max l (max a b)
    refine ⟨?_, fun y hy => ?_⟩
    · show l.foldl max (max a b) ∈ _
      rcases List.mem_cons.mp h1 with h | h
      · rw [h]
        have : max a b = a ∨ max a b = b := by omega
        rcases this with q | q <;> rw [q] <;> simp
      · exact List.mem_cons_of_mem _ (List.mem_cons_of_mem _ h)
    · show y ≤ l.foldl max (max a b)
      have hm := h2 (max a b) List.mem_cons_self
      rcases List.mem_cons.mp hy with h | h
      · have : a ≤ max a b := by omega
        rw [h]; exact Int.le_trans this hm
      · rcases List.mem_cons.mp h with h | h
        · have : b ≤ max a b := by omega
          rw [h]; exact Int.le_trans this hm
        · exact h2 y (List.mem_cons_of_mem _ h)
theorem maxL_eq {l : List Int} {z : Int} (h1 : z ∈ l) (h2 : ∀ y ∈ l, y ≤ z) : z = maxL l := by
  cases l with
  | nil => cases h1
  | cons a l =>
    obtain ⟨q1, q2⟩ := fold_max l a
    have h3 := h2 _ q1
    have h4 := q2 z h1
    show z = l.foldl max a
    omega
/-- the bound: no step goes above the heights -/
def boundB (w : Well) (t : Bool) (lo hi one other : Int) (c : Crew) (hs : List (Crew × Int)) : Bool :=
  (match look (keepH hs) c with
    | some v => decide (0 ≤ v)
    | none => false) &&
  hs.all fun p => (stepsL w t p.1 lo hi).all fun q => match look (keepH hs) q.2 with
    | some v => decide (p.2 + gainL w t p.1 one other ≤ v)
    | none => false
/-- is_lead -/
def leadB (w : Well) (t : Bool) (lo hi one other : Int) (c : Crew) (p1 p2 p3 : PyData) : Bool := match p2, p3 with
  | .tuple row, .tuple ds => heightsB w t (.tuple ds) && match ledF w t lo hi one other c 0 row with
    | some e => (match p1 with
      | .int m => decide (0 ≤ m) && decide (e.2 = m) && boundB w t lo hi one other c (ds.map heightOf) && decide (m = maxL ((ds.map heightOf).map (·.2)))
      | _ => false)
    | none => false
  | _, _ => false
/-- is_endless -/
def endB (w : Well) (t : Bool) (lo hi one other : Int) (c : Crew) (p1 p2 : PyData) : Bool := match p1, p2 with
  | .tuple r1, .tuple r2 => (match ledF w t lo hi one other c 0 r1 with
    | some b => (match ledF w t lo hi one other b.1 0 r2 with
      | some e => decide (e.1 = b.1) && decide (e.2 > 0)
      | none => false)
    | none => false)
  | _, _ => false
/-- the word of a paper that holds, or what is refused -/
inductive Verd where
  | good (s : Str)
  | bad (s : Str)
def judge (w : Well) (t : Bool) (lo hi one other : Int) (c : Crew) : PyData → Verd
  | .tuple [.str s, p1, p2] => if s = "endless" then (if endB w t lo hi one other c p1 p2 then .good "endless" else .bad "endless") else .bad "form"
  | .tuple [.str s, p1, p2, p3] => if s = "lead" then (if leadB w t lo hi one other c p1 p2 p3 then .good "lead" else .bad "lead") else .bad "form"
  | _ => .bad "form"
/-- what is asked of a sheet -/
structure Sheet (d : PyData) : Prop where
  hgt : ∀ p1 p2 ds s, d = .tuple [.str s, p1, p2, .tuple ds] → ds.length ≤ 1000
theorem heights_back {hs : List (Crew × Int)} : (hs.map heightD).map heightOf = hs := by
  rw [List.map_map]
  exact (List.map_congr_left fun p _ => heightOf_d p).trans (List.map_id hs)
end Pk
/-! W12 (printed by gen/mk.py) -/
namespace Pk
open PySem PySem.Spec PyProof.Rows L2 C8

local macro_rules | `(tactic| fail "x1") => `(tactic| (first
  | (guard_target =~ EX _ _ _ _ _; first
    | ((with_reducible apply ex_var); exact rfl)
    | with_reducible refine ex_int ?_
    | with_reducible refine ex_op ?_
    | with_reducible refine ex_cb ?_
    | with_reducible refine ex_str ?_
    | with_reducible refine ex_non ?_
    | with_reducible refine ex_bl ?_
    | with_reducible refine ex_ty ?_
    | with_reducible refine ex_call1 ?_
    | with_reducible refine ex_if ?_
    | with_reducible refine ex_and ?_
    | with_reducible refine ex_or ?_
    | with_reducible refine ex_not ?_
    | with_reducible refine ex_chain ?_
    | with_reducible refine ex_tup ?_
    | with_reducible refine ex_lst ?_
    | with_reducible refine ex_append ?_
    | with_reducible refine ex_disp1N ?_
    | with_reducible refine ex_newN ?_
    | with_reducible refine ex_frzV ?_
    | with_reducible refine ex_frzDV ?_
    | with_reducible refine ex_frzL ?_
    | with_reducible refine ex_frzSl ?_
    | with_reducible refine ex_frzRev ?_
    | with_reducible refine ex_frzRg ?_
    | with_reducible refine ex_un ?_
    | with_reducible refine ex_slT ?_
    | fail "stop")
  | (guard_target =~ AX _ _ _ _ _; first
    | with_reducible refine ax_cons ?_
    | with_reducible refine ax_nil ?_
    | fail "stop")
  | (guard_target =~ SX _ _ _ _ _; first
    | with_reducible refine sx_seq ?_
    | with_reducible refine sx_set ?_
    | with_reducible refine sx_if ?_
    | with_reducible refine sx_ret ?_
    | with_reducible refine sx_next ?_
    | with_reducible refine sx_asg ?_
    | with_reducible refine sx_drop ?_
    | with_reducible refine sx_par ?_
    | with_reducible refine sx_par3 ?_
    | ((with_reducible apply sx_aug); exact rfl)
    | fail "stop")
  | (guard_target =~ TX _ _ _ _ _; first
    | with_reducible refine tx_b ?_
    | with_reducible refine tx_test ?_
    | with_reducible refine tx_and ?_
    | with_reducible refine tx_or ?_
    | with_reducible refine tx_not ?_
    | with_reducible refine tx_yes ?_
    | fail "stop")
  | (guard_target =~ RX _ _ _ _ _ _; first
    | with_reducible refine rx_add ?_
    | with_reducible refine rx_sub ?_
    | ((with_reducible apply rx_mod); (first | assumption | omega))
    | ((with_reducible apply rx_mul); (first | assumption | exact .inl ⟨by omega, by omega⟩))
    | with_reducible refine rx_lt ?_
    | with_reducible refine rx_le ?_
    | with_reducible refine rx_gt ?_
    | with_reducible refine rx_ge ?_
    | with_reducible refine rx_isN ?_
    | with_reducible refine rx_notN ?_
    | with_reducible refine rx_eqI ?_
    | with_reducible refine rx_neI ?_
    | with_reducible refine rx_eqRule ?_
    | with_reducible refine rx_eqS ?_
    | with_reducible refine rx_neS ?_
    | ((with_reducible apply rx_ix0); exact rfl; exact rfl)
    | ((with_reducible apply rx_ix1); exact rfl; exact rfl)
    | ((with_reducible apply rx_ix2); exact rfl; exact rfl)
    | ((with_reducible apply rx_ix3); exact rfl; exact rfl)
    | ((with_reducible apply rx_ix4); exact rfl; exact rfl)
    | ((with_reducible apply rx_ix5); exact rfl; exact rfl)
    | ((with_reducible apply rx_ix6); exact rfl; exact rfl)
    | ((with_reducible apply rx_ix7); exact rfl; exact rfl)
    | ((with_reducible apply rx_ix8); exact rfl; exact rfl)
    | ((with_reducible apply rx_ixL0); exact rfl; exact rfl)
    | ((with_reducible apply rx_ixL1); exact rfl; exact rfl)
    | fail "stop")
  | (guard_target =~ BX _ _ _ _ _; first
    | with_reducible refine bx_isInt ?_
    | with_reducible refine bx_isBool ?_
    | with_reducible refine bx_isStr ?_
    | with_reducible refine bx_isTup ?_
    | with_reducible refine bx_intI ?_
    | with_reducible refine bx_intB ?_
    | with_reducible refine bx_min2 ?_
    | with_reducible refine bx_max2 ?_
    | ((with_reducible apply bx_lenT); exact rfl)
    | ((with_reducible apply bx_lenL); exact rfl)
    | ((with_reducible apply bx_lenN); exact rfl)
    | fail "stop")
  | ((with_reducible apply gx_tup); exact rfl; exact rfl)
  | (guard_target =~ GsX _ _ _ _ _ _; first | refine gsx_cons ?_ | refine gsx_nil ?_ | fail "stop")
  | with_reducible refine gx_name ?_
  | with_reducible refine ox_some ?_
  | with_reducible refine ox_none ?_
  | with_reducible refine ux_neg ?_
  | refine ⟨_, rfl, Nat.le_of_ble_eq_true rfl, rfl, ?_⟩
  | refine ⟨_, rfl, Nat.le_of_ble_eq_true rfl, ?_⟩
  | refine ⟨_, _, rfl, rfl, rfl, ?_⟩
  | refine ⟨_, _, rfl, rfl, by assumption, ?_⟩
  | refine ⟨_, _, rfl, rfl, ?_⟩
  | refine ⟨_, _, _, rfl, ?_⟩
  | refine ⟨_, _, rfl, ?_⟩
  | refine ⟨_, rfl, ?_⟩
  | refine ⟨rfl, (_, some _, some _), rfl, trivial, ?_⟩
  | refine ⟨rfl, (_, some _, none), rfl, trivial, ?_⟩
  | refine ⟨rfl, (_, _), rfl, by assumption, ?_⟩
  | refine ⟨rfl, (_, _, _), rfl, by assumption, ?_⟩
  | refine ⟨rfl, (_, _, _, _), rfl, by assumption, ?_⟩
  | ((with_reducible intro c hc); subst hc)
  | refine ⟨fun hb => Bool.noConfusion hb, fun _ => ?_⟩
  | refine ⟨fun _ => ?_, fun hb => Bool.noConfusion hb⟩
  | dsimp only
  | fail "stop"))
local macro_rules | `(tactic| fail "xc") => `(tactic| (first | (refine ⟨fun hb => ?_, fun hb => ?_⟩ <;> first | exact Bool.noConfusion hb | skip) | fail "stop"))
local macro_rules | `(tactic| fail "xs") => `(tactic| repeat fail "x1")
local macro_rules | `(tactic| fail "xx") => `(tactic| repeat' (first | fail "x1" | fail "xc" | fail "stop"))
local macro_rules | `(tactic| fail "wk") => `(tactic| (first | (refine ⟨?_, rfl⟩; repeat (first | exact Wc.nil | refine Wc.keep (by first | exact trivial | exact Nat.le_of_ble_eq_true rfl) ?_ | refine Wc.drop ?_)) | fail "stop"))

section
variable {P : Program} {w : World} {K : PySem.W.Frag} {mg : Str → Option Value} {base : Heap}
abbrev LedA : Type := Well × Bool × Crew × List PyData × Int × Int × Int × Int
abbrev ledA (x : LedA) : List Cl := [.dat x.1.d, .dat (ruleD x.2.1), .dat x.2.2.1.d, .dat (.tuple x.2.2.2.1), .dat (.tuple [.int x.2.2.2.2.1, .int x.2.2.2.2.2.1]), .dat (.int x.2.2.2.2.2.2.1), .dat (.int x.2.2.2.2.2.2.2)]
abbrev sp_led_by : Spec := Sp1 (α := LedA) ledA (fun x => x.1.Ok ∧ x.2.2.1.Ok x.1 x.2.1) fun x c => c = .dat (ledD (ledF x.1 x.2.1 x.2.2.2.2.1 x.2.2.2.2.2.1 x.2.2.2.2.2.2.1 x.2.2.2.2.2.2.2 x.2.2.1 0 x.2.2.2.1))
theorem cal_led_by {f : Addr} {fd : FuncData} (T : Tp mg) (F : Def K mg "led_by" s_led_by f fd) (B : Binds K fd ["well", "rule", "crew", "row", "span", "one", "other"] []) (c_is_whole : Cal P w K mg base 1 "is_whole" (spX P w K sp_is_whole) []) (c_gain : Cal P w K mg base 5 "gain" (spX P w K sp_gain) []) (c_crew_in : Cal P w K mg base 4 "crew_in" (spX P w K sp_crew_in) []) : Cal P w K mg base 6 "led_by" (spX P w K sp_led_by) [] := by
  refine cal0 F B .nil sc_led_by (sp1_len fun x => rfl) (fun cdv A outer s H vs Q E hr h => ?_)
  refine ⟨_, (pss_cons (ps_set (i := 7) sc_led_by.nd rfl (Or.inl rfl) pe_int) (pss_cons (ps_for PassesOwn.never rfl (pi_tup (pv 3)) (pg_name (i := 8) sc_led_by.nd rfl (Or.inl rfl)) (pss_cons (ps_if (pt_not (pt_val (pe_c c_is_whole hr (by decide) (by rfl) (pa_cons (pv 8) (pa_cons (pe_ix (r := rIxU K P w) (ix_u (hu16 hr)) (pv 4) pe_int (fun _ _ => rfl)) (pa_cons (pe_ix (r := rIxU K P w) (ix_u (hu16 hr)) (pv 4) pe_int (fun _ _ => rfl)) pa_nil)))))) (pss_one (ps_ret pe_non)) pss_nil) (pss_cons (ps_aug (i := 7) sc_led_by.nd rfl (Or.inl rfl) (pe_c c_gain hr (by decide) (by rfl) (pa_cons (pv 0) (pa_cons (pv 1) (pa_cons (pv 2) (pa_cons (pv 5) (pa_cons (pv 6) pa_nil)))))) ip_add) (pss_cons (ps_set (i := 2) sc_led_by.nd rfl (Or.inl rfl) (pe_c c_crew_in hr (by decide) (by rfl) (pa_cons (pv 0) (pa_cons (pv 1) (pa_cons (pv 2) (pa_cons (pv 8) pa_nil)))))) (pss_one (ps_if (pt_cmpR (r := rInU K P w false) (op_inU (hu65 hr)) (pv 2) (pe_tupP (pa_cons (pe_gc (by rfl) T.g_OVER) (pa_cons (pe_gc (by rfl) T.g_DRY) pa_nil))) (by rfl)) (pss_one (ps_ret pe_non)) pss_nil)))))) (pss_one (ps_ret (pe_tupP (pa_cons (pv 2) (pa_cons (pv 7) pa_nil))))))), ?_⟩
  try dsimp only [cxOf, L2.Cx.nox, L2.Cx.wish, L2.Cx.blk]
  refine enter1 h fun x hx => ?_
  change SX _ _ [_, _, _, _, _, _, _, none, none] [] _
  obtain ⟨w0, t, c0, row, lo, hi, one, other⟩ := x
  obtain ⟨ok, hc⟩ := hx
  dsimp only at ok hc
  change SX _ _ [some (.dat w0.d), some (.dat (ruleD t)), some (.dat c0.d), some (.dat (.tuple row)), some (.dat (.tuple [.int lo, .int hi])), some (.dat (.int one)), some (.dat (.int other)), none, none] [] _
  fail "xs"
  refine sx_for (ix_tup (ex_var rfl ⟨_, rfl, fun i γ os => ∃ c1 s, Crew.Ok w0 t c1 ∧ ledF w0 t lo hi one other c0 0 row = ledF w0 t lo hi one other c1 s (row.drop i) ∧ γ = [some (.dat w0.d), some (.dat (ruleD t)), some (.dat c1.d), some (.dat (.tuple row)), some (.dat (.tuple [.int lo, .int hi])), some (.dat (.int one)), some (.dat (.int other)), some (.dat (.int s)), none] ∧ os = [], ⟨c0, 0, hc, rfl, rfl, rfl⟩, ?_⟩))
  rintro i γ1 os1 hi1 ⟨c1, s, h1, he, rfl, rfl⟩
  refine ⟨fun hE => ?_, fun c hcc => ?_⟩
  · rw [List.length_map] at hE
    rw [List.drop_eq_nil_of_le (Nat.le_of_eq hE.symm)] at he
    fail "xs"
    refine ⟨trivial, ?_⟩
    rw [he]
    rfl
  · obtain ⟨d, e1, rfl⟩ := dat_at hcc
    obtain ⟨hlt, e2⟩ := List.getElem?_eq_some_iff.mp e1
    rw [List.drop_eq_getElem_cons hlt, e2] at he
    have hno : (∀ x, d = .int x → ¬ (lo ≤ x ∧ x ≤ hi)) → ledF w0 t lo hi one other c0 0 row = none := fun h => by
      rw [he]
      unfold ledF
      cases d with
      | int x => exact if_neg (h x rfl)
      | _ => rfl
    fail "xs"
    refine ⟨fun hb => ?_, fun hb => ?_⟩
    · have hw : wholeB d (some lo) (some hi) = false := by simpa only [Bool.not_eq_true'] using hb
      fail "xs"
      refine ⟨trivial, ?_⟩
      rw [hno fun x hx hr => by
        rw [hx, whole_int hr] at hw
        cases hw]
      rfl
    · have hw : wholeB d (some lo) (some hi) = true := by simpa only [Bool.not_eq_false'] using hb
      obtain ⟨x, rfl, hr⟩ := whole_iff.mp hw
      have he' : ledF w0 t lo hi one other c0 0 row = match nextC w0 t c1 x with
          | some c' => ledF w0 t lo hi one other c' (s + gainL w0 t c1 one other) (row.drop (i + 1))
          | none => none := by
        rw [he]
        exact if_pos hr
      fail "xs"
      refine ⟨rfl, (w0, t, c1, one, other), rfl, ⟨ok, h1⟩, ?_⟩
      fail "xs"
      refine ⟨rfl, (w0, t, c1, x), rfl, ⟨ok, h1⟩, ?_⟩
      fail "xs"
      cases hn : nextC w0 t c1 x with
      | none =>
        rw [hn] at he'
        rcases step_none hn with e | e <;> rw [e]
        · refine rx_inT rfl rfl (by decide +kernel) shaped_words ?_
          rw [any_str]
          fail "xs"
          refine ⟨trivial, ?_⟩
          rw [he']
          rfl
        · refine rx_inT rfl rfl (by decide +kernel) shaped_words ?_
          rw [any_str]
          fail "xs"
          refine ⟨trivial, ?_⟩
          rw [he']
          rfl
      | some c' =>
        rw [hn] at he'
        rw [step_some hn]
        refine rx_inT rfl rfl (shaped_crew c') shaped_words ?_
        rw [any_crew]
        fail "xs"
        exact ⟨_, _, ⟨c', _, next_ok ok h1 hn, he', rfl, rfl⟩, by fail "wk"⟩
abbrev sp_are_heights : Spec := Sp1 (α := Well × Bool × PyData) (fun x => [.dat x.1.d, .dat (ruleD x.2.1), .dat x.2.2]) (fun x => x.1.Ok ∧ ∀ ds, x.2.2 = .tuple ds → ds.length ≤ 1000) fun x c => c = .dat (.bool (heightsB x.1 x.2.1 x.2.2))
theorem cal_are_heights {f : Addr} {fd : FuncData} (T : Tp mg) (F : Def K mg "are_heights" s_are_heights f fd) (B : Binds K fd ["well", "rule", "thing"] []) (c_is_crew_of : Cal P w K mg base 3 "is_crew_of" (spX P w K sp_is_crew_of) []) : Cal P w K mg base 4 "are_heights" (spX P w K sp_are_heights) [] := by
  refine cal0 F B .nil sc_are_heights (sp1_len fun x => rfl) (fun cdv A outer s H vs Q E hr h => ?_)
  refine ⟨_, (pss_cons (ps_if (pt_not (pt_val (pe_callB (r := rIsi K) call_isi (by rfl) T.b_isinstance bo_isinstance (pa_cons (pv 2) (pa_cons (pe_bltn (v := .ty "tuple") (u := .type "tuple") (by rfl) T.b_tuple bo_tuple rfl) pa_nil))))) (pss_one (ps_ret pe_bl)) pss_nil) (pss_cons (ps_for PassesOwn.never rfl (pi_tup (pv 2)) (pg_name (i := 3) sc_are_heights.nd rfl (Or.inl rfl)) (pss_cons (ps_if (PW.pt (pw_or (pt_not (pt_val (pe_callB (r := rIsi K) call_isi (by rfl) T.b_isinstance bo_isinstance (pa_cons (pv 3) (pa_cons (pe_bltn (v := .ty "tuple") (u := .type "tuple") (by rfl) T.b_tuple bo_tuple rfl) pa_nil))))) (pw_or (pt_cmpR (r := rNeU K) (op_neU (hu64 hr)) (pe_callB (r := rLenU K P w) call_lenU (by rfl) T.b_len bo_len (pa_cons (pv 3) pa_nil)) pe_int (nomark _)) (pw_or1 (pt_not (pt_val (pe_c c_is_crew_of hr (by decide) (by rfl) (pa_cons (pv 0) (pa_cons (pv 1) (pa_cons (pe_ix (r := rIxU K P w) (ix_u (hu16 hr)) (pv 3) pe_int (fun _ _ => rfl)) pa_nil)))))))))) (pss_one (ps_ret pe_bl)) pss_nil) (pss_one (ps_if (PW.pt (pw_or (pt_not (pt_val (pe_callB (r := rIsi K) call_isi (by rfl) T.b_isinstance bo_isinstance (pa_cons (pe_ix (r := rIxU K P w) (ix_u (hu16 hr)) (pv 3) pe_int (fun _ _ => rfl)) (pa_cons (pe_bltn (v := .ty "int") (u := .type "int") (by rfl) T.b_int bo_int rfl) pa_nil))))) (pw_or1 (pt_val (pe_callB (r := rIsi K) call_isi (by rfl) T.b_isinstance bo_isinstance (pa_cons (pe_ix (r := rIxU K P w) (ix_u (hu16 hr)) (pv 3) pe_int (fun _ _ => rfl)) (pa_cons (pe_bltn (v := .ty "bool") (u := .type "bool") (by rfl) T.b_bool bo_bool rfl) pa_nil))))))) (pss_one (ps_ret pe_bl)) pss_nil)))) (pss_one (ps_ret (pe_callB (r := rAll K) (cr_all rfl) (by rfl) T.b_all bo_all (pa_cons (pe_frz (pe_lc (own := [("first", 4), ("second", 5)]) (g := (gTup K 2 (gCons (gName 4) (gCons (gName 5) gNil)))) rfl sc_are_heights.nd (RZ.pi_zipA (by rfl) T.b_zip (pa_cons (pv 2) (pa_cons (pe_slice (r := rSlP K) sl_tupP (pv 2) (po_some pe_int) po_none) pa_nil))) (blkOk_by (N := N_are_heights) (sc := fnScope s_are_heights) (by decide +kernel)) (fun _ _ _ _ _ => (pg_tup rfl (pgs_cons (pg_name (i := 4) sc_are_heights.nd rfl (Or.inl rfl)) (pgs_cons (pg_name (i := 5) sc_are_heights.nd rfl (Or.inl rfl)) pgs_nil)))) (fun _ _ _ _ _ => pts_nil) (fun _ _ _ _ _ => (pe_cmpR (op_ltU (hu64 hr)) (pe_ix (r := rIxU K P w) (ix_u (hu16 hr)) (pv 4) pe_int (fun _ _ => rfl)) (pe_ix (r := rIxU K P w) (ix_u (hu16 hr)) (pv 5) pe_int (fun _ _ => rfl)) (nomark _))))) pa_nil)))))), ?_⟩
  try dsimp only [cxOf, L2.Cx.nox, L2.Cx.wish, L2.Cx.blk]
  refine enter1 h fun x hx => ?_
  change SX _ _ [_, _, _, none, none, none] [] _
  obtain ⟨w0, t, d0⟩ := x
  obtain ⟨ok, hz⟩ := hx
  dsimp only at ok hz
  change SX _ _ [some (.dat w0.d), some (.dat (ruleD t)), some (.dat d0), none, none, none] [] _
  cases d0 with
  | tuple ds =>
    have hlen := hz ds rfl
    fail "xs"
    refine sx_for (ix_tup (ex_var rfl ⟨_, rfl, fun i γ os => (∀ d ∈ ds.take i, hgtB w0 t d = true) ∧ γ = [some (.dat w0.d), some (.dat (ruleD t)), some (.dat (.tuple ds)), none, none, none] ∧ os = [], ⟨by simp, rfl, rfl⟩, ?_⟩))
    rintro i γ1 os1 hi1 ⟨hall, rfl, rfl⟩
    refine ⟨fun hE => ?_, fun c hcc => ?_⟩
    · rw [List.length_map] at hE
      rw [List.take_of_length_le (Nat.le_of_eq hE.symm)] at hall
      obtain ⟨hs, rfl, hok⟩ := hgts_of (List.all_eq_true.mpr hall)
      rw [List.length_map] at hlen
      dsimp only
      fail "xs"
      refine ex_lcM (tg_tup (tgs_cons tm_name (tg_name (by decide)) (tgs_cons tm_name (tg_name (by decide)) tgs_nil))) (ix_zip ?_)
      fail "xs"
      refine ⟨_, _, _, _, rfl, rfl, rfl, rfl, fun c => match c with | .lt [a, b] => .bool (PySem.W.dataLt (fstD a) (fstD b)) | _ => .none, ?_, ?_, ?_⟩
      · unfold zipC
        rw [List.length_map, List.length_zip, List.length_map]
        exact small (k := 1000) (by omega) rfl
      · intro j c acc e
        rw [cut_from (by decide)] at e
        unfold zipC at e
        rw [List.getElem?_map] at e
        obtain ⟨pq, e1, rfl⟩ := Option.map_eq_some_iff.mp e
        obtain ⟨q1, q2⟩ := List.getElem?_zip_eq_some.mp e1
        obtain ⟨a, ha, ea⟩ := map_at q1
        rw [← List.map_drop] at q2
        obtain ⟨b, hb, eb⟩ := map_at q2
        rw [ea, eb]
        refine gx_tup rfl rfl ?_
        unfold heightD
        fail "xs"
        refine rx_ltD (alike_crew _ _) (fun h => by cases h) (by rw [dep_crew]; decide) ?_
        exact ⟨rfl, rfl⟩
      · rw [cut_from (by decide)]
        fail "xs"
        refine bx_all (bs := (((hs.map heightD).zip ((hs.map heightD).drop 1)).map fun p => PySem.W.dataLt (fstD p.1) (fstD p.2))) ?_ ⟨trivial, ?_⟩
        · show some _ = some _
          unfold zipC
          rw [List.map_map, List.map_map]
          rfl
        · have hh : heightsB w0 t (.tuple (hs.map heightD)) = riseB (hs.map heightD) := by
            show ((hs.map heightD).all (hgtB w0 t) && _) = _
            rw [List.all_eq_true.mpr hall]
            rfl
          rw [hh]
          unfold riseB
          rw [List.all_map]
          rfl
    · obtain ⟨d, e1, rfl⟩ := dat_at hcc
      have hbad : hgtB w0 t d = false → heightsB w0 t (.tuple ds) = false := fun h => by
        have : ds.all (hgtB w0 t) = false := by
          rw [List.all_eq_false]
          exact ⟨d, List.mem_of_getElem? e1, by rw [h]; exact Bool.false_ne_true⟩
        show (ds.all (hgtB w0 t) && riseB ds) = false
        rw [this]
        rfl
      have hgood : hgtB w0 t d = true → ∀ x ∈ ds.take (i + 1), hgtB w0 t x = true := fun h x hx => by
        rw [List.take_add_one, e1] at hx
        rcases List.mem_append.mp hx with hx | hx
        · exact hall x hx
        · have : x = d := by simpa using hx
          rw [this]; exact h
      refine gx_name ?_
      cases d with
      | tuple es =>
        match es with
        | [] => fail "xs"; rw [hbad rfl]; exact ⟨trivial, rfl⟩
        | [_] => fail "xs"; rw [hbad rfl]; exact ⟨trivial, rfl⟩
        | [a, b] =>
          fail "xs"
          refine ⟨fun hb => ?_, fun hb => ?_⟩
          · have hw : crewB w0 t a = false := by simpa only [Bool.not_eq_true'] using hb
            have hf : hgtB w0 t (.tuple [a, b]) = false := by
              cases b with
              | int n => exact hw
              | _ => rfl
            fail "xs"
            rw [hbad hf]
            exact ⟨trivial, rfl⟩
          · have hw : crewB w0 t a = true := by simpa only [Bool.not_eq_false'] using hb
            cases b with
            | int n =>
              fail "xs"
              exact ⟨_, _, ⟨hgood hw, rfl, rfl⟩, by fail "wk"⟩
            | _ =>
              fail "xs"
              rw [hbad rfl]
              exact ⟨trivial, rfl⟩
        | a :: b :: c :: r =>
          fail "xs"
          rw [hbad (by cases b <;> rfl)]
          exact ⟨trivial, rfl⟩
      | _ =>
        fail "xs"
        rw [hbad rfl]
        exact ⟨trivial, rfl⟩
  | _ =>
    fail "xs"
    exact ⟨trivial, rfl⟩
end
end Pk
/-! W13 (printed by gen/mk.py) -/
namespace Pk
open PySem PySem.Spec PyProof.Rows L2 C8

local macro_rules | `(tactic| fail "x1") => `(tactic| (first
  | (guard_target =~ EX _ _ _ _ _; first
    | ((with_reducible apply ex_var); exact rfl)
    | with_reducible refine ex_int ?_
    | with_reducible refine ex_op ?_
    | with_reducible refine ex_cb ?_
    | with_reducible refine ex_str ?_
    | with_reducible refine ex_non ?_
    | with_reducible refine ex_bl ?_
    | with_reducible refine ex_ty ?_
    | with_reducible refine ex_call1 ?_
    | with_reducible refine ex_if ?_
    | with_reducible refine ex_and ?_
    | with_reducible refine ex_or ?_
    | with_reducible refine ex_not ?_
    | with_reducible refine ex_chain ?_
    | with_reducible refine ex_tup ?_
    | with_reducible refine ex_lst ?_
    | with_reducible refine ex_append ?_
    | with_reducible refine ex_disp1N ?_
    | with_reducible refine ex_newN ?_
    | with_reducible refine ex_frzV ?_
    | with_reducible refine ex_frzDV ?_
    | with_reducible refine ex_frzL ?_
    | with_reducible refine ex_frzSl ?_
    | with_reducible refine ex_frzRev ?_
    | with_reducible refine ex_frzRg ?_
    | with_reducible refine ex_un ?_
    | with_reducible refine ex_slT ?_
    | fail "stop")
  | (guard_target =~ AX _ _ _ _ _; first
    | with_reducible refine ax_cons ?_
    | with_reducible refine ax_nil ?_
    | fail "stop")
  | (guard_target =~ SX _ _ _ _ _; first
    | with_reducible refine sx_seq ?_
    | with_reducible refine sx_set ?_
    | with_reducible refine sx_if ?_
    | with_reducible refine sx_ret ?_
    | with_reducible refine sx_next ?_
    | with_reducible refine sx_asg ?_
    | with_reducible refine sx_drop ?_
    | with_reducible refine sx_par ?_
    | with_reducible refine sx_par3 ?_
    | ((with_reducible apply sx_aug); exact rfl)
    | fail "stop")
  | (guard_target =~ TX _ _ _ _ _; first
    | with_reducible refine tx_b ?_
    | with_reducible refine tx_test ?_
    | with_reducible refine tx_and ?_
    | with_reducible refine tx_or ?_
    | with_reducible refine tx_not ?_
    | with_reducible refine tx_yes ?_
    | fail "stop")
  | (guard_target =~ RX _ _ _ _ _ _; first
    | with_reducible refine rx_add ?_
    | with_reducible refine rx_sub ?_
    | ((with_reducible apply rx_mod); (first | assumption | omega))
    | ((with_reducible apply rx_mul); (first | assumption | exact .inl ⟨by omega, by omega⟩))
    | with_reducible refine rx_lt ?_
    | with_reducible refine rx_le ?_
    | with_reducible refine rx_gt ?_
    | with_reducible refine rx_ge ?_
    | with_reducible refine rx_isN ?_
    | with_reducible refine rx_notN ?_
    | with_reducible refine rx_eqI ?_
    | with_reducible refine rx_neI ?_
    | with_reducible refine rx_eqRule ?_
    | with_reducible refine rx_eqS ?_
    | with_reducible refine rx_neS ?_
    | ((with_reducible apply rx_ix0); exact rfl; exact rfl)
    | ((with_reducible apply rx_ix1); exact rfl; exact rfl)
    | ((with_reducible apply rx_ix2); exact rfl; exact rfl)
    | ((with_reducible apply rx_ix3); exact rfl; exact rfl)
    | ((with_reducible apply rx_ix4); exact rfl; exact rfl)
    | ((with_reducible apply rx_ix5); exact rfl; exact rfl)
    | ((with_reducible apply rx_ix6); exact rfl; exact rfl)
    | ((with_reducible apply rx_ix7); exact rfl; exact rfl)
    | ((with_reducible apply rx_ix8); exact rfl; exact rfl)
    | ((with_reducible apply rx_ixL0); exact rfl; exact rfl)
    | ((with_reducible apply rx_ixL1); exact rfl; exact rfl)
    | fail "stop")
  | (guard_target =~ BX _ _ _ _ _; first
    | with_reducible refine bx_isInt ?_
    | with_reducible refine bx_isBool ?_
    | with_reducible refine bx_isStr ?_
    | with_reducible refine bx_isTup ?_
    | with_reducible refine bx_intI ?_
    | with_reducible refine bx_intB ?_
    | with_reducible refine bx_min2 ?_
    | with_reducible refine bx_max2 ?_
    | ((with_reducible apply bx_lenT); exact rfl)
    | ((with_reducible apply bx_lenL); exact rfl)
    | ((with_reducible apply bx_lenN); exact rfl)
    | fail "stop")
  | ((with_reducible apply gx_tup); exact rfl; exact rfl)
  | (guard_target =~ GsX _ _ _ _ _ _; first | refine gsx_cons ?_ | refine gsx_nil ?_ | fail "stop")
  | with_reducible refine gx_name ?_
  | with_reducible refine ox_some ?_
  | with_reducible refine ox_none ?_
  | with_reducible refine ux_neg ?_
  | refine ⟨_, rfl, Nat.le_of_ble_eq_true rfl, rfl, ?_⟩
  | refine ⟨_, rfl, Nat.le_of_ble_eq_true rfl, ?_⟩
  | refine ⟨_, _, rfl, rfl, rfl, ?_⟩
  | refine ⟨_, _, rfl, rfl, by assumption, ?_⟩
  | refine ⟨_, _, rfl, rfl, ?_⟩
  | refine ⟨_, _, _, rfl, ?_⟩
  | refine ⟨_, _, rfl, ?_⟩
  | refine ⟨_, rfl, ?_⟩
  | refine ⟨rfl, (_, some _, some _), rfl, trivial, ?_⟩
  | refine ⟨rfl, (_, some _, none), rfl, trivial, ?_⟩
  | refine ⟨rfl, (_, _), rfl, by assumption, ?_⟩
  | refine ⟨rfl, (_, _, _), rfl, by assumption, ?_⟩
  | refine ⟨rfl, (_, _, _, _), rfl, by assumption, ?_⟩
  | ((with_reducible intro c hc); subst hc)
  | refine ⟨fun hb => Bool.noConfusion hb, fun _ => ?_⟩
  | refine ⟨fun _ => ?_, fun hb => Bool.noConfusion hb⟩
  | dsimp only
  | fail "stop"))
local macro_rules | `(tactic| fail "xc") => `(tactic| (first | (refine ⟨fun hb => ?_, fun hb => ?_⟩ <;> first | exact Bool.noConfusion hb | skip) | fail "stop"))
local macro_rules | `(tactic| fail "xs") => `(tactic| repeat fail "x1")
local macro_rules | `(tactic| fail "xx") => `(tactic| repeat' (first | fail "x1" | fail "xc" | fail "stop"))
local macro_rules | `(tactic| fail "wk") => `(tactic| (first | (refine ⟨?_, rfl⟩; repeat (first | exact Wc.nil | refine Wc.keep (by first | exact trivial | exact Nat.le_of_ble_eq_true rfl) ?_ | refine Wc.drop ?_)) | fail "stop"))

section
variable {P : Program} {w : World} {K : PySem.W.Frag} {mg : Str → Option Value} {base : Heap}
def okQ (w : Well) (t : Bool) (one other : Int) (hs : List (Crew × Int)) (p : Crew × Int) (q : Int × Crew) : Bool := match look (keepH hs) q.2 with
  | some v => decide (p.2 + gainL w t p.1 one other ≤ v)
  | none => false
def okP (w : Well) (t : Bool) (lo hi one other : Int) (hs : List (Crew × Int)) (p : Crew × Int) : Bool := (stepsL w t p.1 lo hi).all fun q => match look (keepH hs) q.2 with
  | some v => decide (p.2 + gainL w t p.1 one other ≤ v)
  | none => false
abbrev BouA : Type := Well × Bool × Crew × Int × Int × List (Crew × Int) × Int × Int
abbrev bouA (x : BouA) : List Cl := [.dat x.1.d, .dat (ruleD x.2.1), .dat x.2.2.1.d, .dat (.tuple [.int x.2.2.2.1, .int x.2.2.2.2.1]), .dat (.tuple (x.2.2.2.2.2.1.map heightD)), .dat (.int x.2.2.2.2.2.2.1), .dat (.int x.2.2.2.2.2.2.2)]
abbrev sp_do_bound : Spec := Sp1 (α := BouA) bouA (fun x => (x.1.Ok ∧ (0 ≤ x.2.2.2.1 ∧ x.2.2.2.1 ≤ x.2.2.2.2.1 ∧ x.2.2.2.2.1 ≤ 300)) ∧ ∀ p ∈ x.2.2.2.2.2.1, p.1.Ok x.1 x.2.1) fun x c => c = .dat (.bool (boundB x.1 x.2.1 x.2.2.2.1 x.2.2.2.2.1 x.2.2.2.2.2.2.1 x.2.2.2.2.2.2.2 x.2.2.1 x.2.2.2.2.2.1))
theorem cal_do_bound {f : Addr} {fd : FuncData} (T : Tp mg) (F : Def K mg "do_bound" s_do_bound f fd) (B : Binds K fd ["well", "rule", "crew", "span", "heights", "one", "other"] []) (c_gain : Cal P w K mg base 5 "gain" (spX P w K sp_gain) []) (c_steps_of : Cal P w K mg base 5 "steps_of" (spX P w K sp_steps_of) []) : Cal P w K mg base 6 "do_bound" (spX P w K sp_do_bound) [] := by
  refine cal0 F B .nil sc_do_bound (sp1_len fun x => rfl) (fun cdv A outer s H vs Q E hr h => ?_)
  refine ⟨_, (pss_cons (ps_set (i := 7) sc_do_bound.nd rfl (Or.inl rfl) (pe_callTy (r := rDictT K P w) (call_dictT (hu16 hr) rfl) (by rfl) T.b_dict bo_dict (pa_cons (pv 4) pa_nil))) (pss_cons (ps_if (PW.pt (pw_or (pt_cmpR (r := rInU K P w true) (op_notInU (hu65 hr)) (pv 2) (pv 7) (by rfl)) (pw_or1 (pt_cmpR op_lt (pe_ix (r := rIxU K P w) (ix_u (hu16 hr)) (pv 7) (pv 2) (fun _ _ => rfl)) pe_int (nomark _))))) (pss_one (ps_ret pe_bl)) pss_nil) (pss_cons (ps_for PassesOwn.never rfl (pi_tup (pv 4)) (pg_tup rfl (pgs_cons (pg_name (i := 8) sc_do_bound.nd rfl (Or.inl rfl)) (pgs_cons (pg_name (i := 9) sc_do_bound.nd rfl (Or.inl rfl)) pgs_nil))) (pss_cons (ps_set (i := 10) sc_do_bound.nd rfl (Or.inl rfl) (pe_op op_add (pv 9) (pe_c c_gain hr (by decide) (by rfl) (pa_cons (pv 0) (pa_cons (pv 1) (pa_cons (pv 8) (pa_cons (pv 5) (pa_cons (pv 6) pa_nil)))))))) (pss_one (ps_for PassesOwn.never rfl (pi_list (pe_c c_steps_of hr (by decide) (by rfl) (pa_cons (pv 0) (pa_cons (pv 1) (pa_cons (pv 8) (pa_cons (pe_ix (r := rIxU K P w) (ix_u (hu16 hr)) (pv 3) pe_int (fun _ _ => rfl)) (pa_cons (pe_ix (r := rIxU K P w) (ix_u (hu16 hr)) (pv 3) pe_int (fun _ _ => rfl)) pa_nil))))))) (pg_tup rfl (pgs_cons (pg_name (i := 11) sc_do_bound.nd rfl (Or.inl rfl)) (pgs_cons (pg_name (i := 12) sc_do_bound.nd rfl (Or.inl rfl)) pgs_nil))) (pss_one (ps_if (PW.pt (pw_or (pt_cmpR (r := rInU K P w true) (op_notInU (hu65 hr)) (pv 12) (pv 7) (by rfl)) (pw_or1 (pt_cmpR op_lt (pe_ix (r := rIxU K P w) (ix_u (hu16 hr)) (pv 7) (pv 12) (fun _ _ => rfl)) (pv 10) (nomark _))))) (pss_one (ps_ret pe_bl)) pss_nil)))))) (pss_one (ps_ret pe_bl))))), ?_⟩
  try dsimp only [cxOf, L2.Cx.nox, L2.Cx.wish, L2.Cx.blk]
  refine enter1 h fun x hx => ?_
  change SX _ _ [_, _, _, _, _, _, _, none, none, none, none, none, none] [] _
  obtain ⟨w0, t, c0, lo, hi, hs, one, other⟩ := x
  obtain ⟨⟨ok, hsp⟩, hok⟩ := hx
  dsimp only at ok hsp hok
  change SX _ _ [some (.dat w0.d), some (.dat (ruleD t)), some (.dat c0.d), some (.dat (.tuple [.int lo, .int hi])), some (.dat (.tuple (hs.map heightD))), some (.dat (.int one)), some (.dat (.int other)), none, none, none, none, none, none] [] _
  have hbt : (hs.map heightD) = (bestT hs).map fun e => PyData.tuple [e.1.d, e.2] := by rw [best_items]
  fail "xs"
  refine bx_dictT (ps := bestT hs) (by rw [hbt]) ?_
  rw [keep_merge]
  fail "xs"
  refine rx_notInN rfl ?_
  rw [best_look, Option.isSome_map]
  cases hk : look (keepH hs) c0 with
  | none =>
    have hf : boundB w0 t lo hi one other c0 hs = false := by unfold boundB; rw [hk]; rfl
    fail "xs"
    rw [hf]
    exact ⟨trivial, rfl⟩
  | some v =>
    fail "xs"
    refine rx_ixN rfl (x := .int v) (by rw [best_look, hk]; rfl) ?_
    fail "xs"
    refine ⟨fun hb => ?_, fun hb => ?_⟩
    · have hv : ¬ 0 ≤ v := by have := of_decide_eq_true hb; omega
      have hf : boundB w0 t lo hi one other c0 hs = false := by unfold boundB; rw [hk]; show (decide (0 ≤ v) && _) = false; rw [decide_eq_false hv]; rfl
      fail "xs"
      rw [hf]
      exact ⟨trivial, rfl⟩
    have hv : 0 ≤ v := by have := of_decide_eq_false hb; omega
    have hB : boundB w0 t lo hi one other c0 hs = hs.all fun p => (stepsL w0 t p.1 lo hi).all fun q => match look (keepH hs) q.2 with | some v => decide (p.2 + gainL w0 t p.1 one other ≤ v) | none => false := by
      unfold boundB; rw [hk]; show (decide (0 ≤ v) && _) = _; rw [decide_eq_true hv]; rfl
    rw [hB]
    fail "xs"
    refine sx_for (ix_tup (ex_var rfl ⟨_, rfl, fun i γ os => (∀ p ∈ hs.take i, okP w0 t lo hi one other hs p = true) ∧ γ = [some (.dat w0.d), some (.dat (ruleD t)), some (.dat c0.d), some (.dat (.tuple [.int lo, .int hi])), some (.dat (.tuple (hs.map heightD))), some (.dat (.int one)), some (.dat (.int other)), some (.own 0), none, none, none, none, none] ∧ os = [.dic (bestT (keepH hs))], ⟨by simp, rfl, rfl⟩, ?_⟩))
    rintro i γ1 os1 hi1 ⟨hall, rfl, rfl⟩
    refine ⟨fun hE => ?_, fun c hcc => ?_⟩
    · rw [List.length_map, List.length_map] at hE
      rw [List.take_of_length_le (Nat.le_of_eq hE.symm)] at hall
      dsimp only
      fail "xs"
      refine ⟨trivial, ?_⟩
      rw [show (hs.all fun p => (stepsL w0 t p.1 lo hi).all fun q => match look (keepH hs) q.2 with | some v => decide (p.2 + gainL w0 t p.1 one other ≤ v) | none => false) = true from List.all_eq_true.mpr hall]
    · obtain ⟨d, e1, rfl⟩ := dat_at hcc
      obtain ⟨p, e2, rfl⟩ := map_at e1
      have hp := List.mem_of_getElem? e2
      have hbad : okP w0 t lo hi one other hs p = false → (hs.all fun p => (stepsL w0 t p.1 lo hi).all fun q => match look (keepH hs) q.2 with | some v => decide (p.2 + gainL w0 t p.1 one other ≤ v) | none => false) = false := fun h =>
        List.all_eq_false.mpr ⟨p, hp, by rw [show ((stepsL w0 t p.1 lo hi).all fun q => match look (keepH hs) q.2 with | some v => decide (p.2 + gainL w0 t p.1 one other ≤ v) | none => false) = false from h]; exact Bool.false_ne_true⟩
      unfold heightD
      fail "xs"
      refine ⟨rfl, (w0, t, p.1, one, other), rfl, ⟨ok, hok p hp⟩, ?_⟩
      fail "xs"
      refine sx_for (ix_list ?_)
      fail "xs"
      refine ⟨rfl, (w0, t, p.1, lo, hi), rfl, ⟨ok, hok p hp, hsp⟩, ?_⟩
      fail "xs"
      refine ⟨fun j γ os => (∀ q ∈ (stepsL w0 t p.1 lo hi).take j, okQ w0 t one other hs p q = true) ∧ γ = [some (.dat w0.d), some (.dat (ruleD t)), some (.dat c0.d), some (.dat (.tuple [.int lo, .int hi])), some (.dat (.tuple (hs.map heightD))), some (.dat (.int one)), some (.dat (.int other)), some (.own 0), some (.dat p.1.d), some (.dat (.int p.2)), some (.dat (.int (p.2 + gainL w0 t p.1 one other))), none, none] ∧ os = [.dic (bestT (keepH hs))], ⟨by simp, rfl, rfl⟩, ?_⟩
      rintro j γ1 os1 hj1 ⟨hallq, rfl, rfl⟩
      refine ⟨fun hE => ?_, fun c hcc => ?_⟩
      · rw [List.length_map, List.length_map] at hE
        rw [List.take_of_length_le (Nat.le_of_eq hE.symm)] at hallq
        refine ⟨_, _, ⟨fun x hx => ?_, rfl, rfl⟩, by fail "wk"⟩
        rw [List.take_add_one, e2] at hx
        rcases List.mem_append.mp hx with hx | hx
        · exact hall x hx
        · have : x = p := by simpa using hx
          rw [this]
          exact List.all_eq_true.mpr hallq
      · obtain ⟨d, e3, rfl⟩ := dat_at hcc
        obtain ⟨q, e4, rfl⟩ := map_at e3
        have hq := List.mem_of_getElem? e4
        have hbq : okQ w0 t one other hs p q = false → okP w0 t lo hi one other hs p = false := fun h => List.all_eq_false.mpr ⟨q, hq, by rw [show (match look (keepH hs) q.2 with | some v => decide (p.2 + gainL w0 t p.1 one other ≤ v) | none => false) = false from h]; exact Bool.false_ne_true⟩
        unfold pairD
        fail "xs"
        refine rx_notInN rfl ?_
        rw [best_look, Option.isSome_map]
        cases hl : look (keepH hs) q.2 with
        | none =>
          fail "xs"
          rw [hbad (hbq (by unfold okQ; rw [hl]))]
          exact ⟨trivial, rfl⟩
        | some v2 =>
          fail "xs"
          refine rx_ixN rfl (x := .int v2) (by rw [best_look, hl]; rfl) ?_
          fail "xs"
          refine ⟨fun hb => ?_, fun hb => ?_⟩
          · have h2 := of_decide_eq_true hb
            fail "xs"
            rw [hbad (hbq (by unfold okQ; rw [hl]; exact decide_eq_false (by omega)))]
            exact ⟨trivial, rfl⟩
          · have h2 := of_decide_eq_false hb
            fail "xs"
            refine ⟨_, _, ⟨fun x hx => ?_, rfl, rfl⟩, by fail "wk"⟩
            rw [List.take_add_one, e4] at hx
            rcases List.mem_append.mp hx with hx | hx
            · exact hallq x hx
            · have : x = q := by simpa using hx
              rw [this]
              unfold okQ
              rw [hl]
              exact decide_eq_true (by omega)
end
end Pk
/-! W14 (printed by gen/mk.py) -/
namespace Pk
open PySem PySem.Spec PyProof.Rows L2 C8

local macro_rules | `(tactic| fail "x1") => `(tactic| (first
  | (guard_target =~ EX _ _ _ _ _; first
    | ((with_reducible apply ex_var); exact rfl)
    | with_reducible refine ex_int ?_
    | with_reducible refine ex_op ?_
    | with_reducible refine ex_cb ?_
    | with_reducible refine ex_str ?_
    | with_reducible refine ex_non ?_
    | with_reducible refine ex_bl ?_
    | with_reducible refine ex_ty ?_
    | with_reducible refine ex_call1 ?_
    | with_reducible refine ex_if ?_
    | with_reducible refine ex_and ?_
    | with_reducible refine ex_or ?_
    | with_reducible refine ex_not ?_
    | with_reducible refine ex_chain ?_
    | with_reducible refine ex_tup ?_
    | with_reducible refine ex_lst ?_
    | with_reducible refine ex_append ?_
    | with_reducible refine ex_disp1N ?_
    | with_reducible refine ex_newN ?_
    | with_reducible refine ex_frzV ?_
    | with_reducible refine ex_frzDV ?_
    | with_reducible refine ex_frzL ?_
    | with_reducible refine ex_frzSl ?_
    | with_reducible refine ex_frzRev ?_
    | with_reducible refine ex_frzRg ?_
    | with_reducible refine ex_un ?_
    | with_reducible refine ex_slT ?_
    | fail "stop")
  | (guard_target =~ AX _ _ _ _ _; first
    | with_reducible refine ax_cons ?_
    | with_reducible refine ax_nil ?_
    | fail "stop")
  | (guard_target =~ SX _ _ _ _ _; first
    | with_reducible refine sx_seq ?_
    | with_reducible refine sx_set ?_
    | with_reducible refine sx_if ?_
    | with_reducible refine sx_ret ?_
    | with_reducible refine sx_next ?_
    | with_reducible refine sx_asg ?_
    | with_reducible refine sx_drop ?_
    | with_reducible refine sx_par ?_
    | with_reducible refine sx_par3 ?_
    | ((with_reducible apply sx_aug); exact rfl)
    | fail "stop")
  | (guard_target =~ TX _ _ _ _ _; first
    | with_reducible refine tx_b ?_
    | with_reducible refine tx_test ?_
    | with_reducible refine tx_and ?_
    | with_reducible refine tx_or ?_
    | with_reducible refine tx_not ?_
    | with_reducible refine tx_yes ?_
    | fail "stop")
  | (guard_target =~ RX _ _ _ _ _ _; first
    | with_reducible refine rx_add ?_
    | with_reducible refine rx_sub ?_
    | ((with_reducible apply rx_mod); (first | assumption | omega))
    | ((with_reducible apply rx_mul); (first | assumption | exact .inl ⟨by omega, by omega⟩))
    | with_reducible refine rx_lt ?_
    | with_reducible refine rx_le ?_
    | with_reducible refine rx_gt ?_
    | with_reducible refine rx_ge ?_
    | with_reducible refine rx_isN ?_
    | with_reducible refine rx_notN ?_
    | with_reducible refine rx_eqI ?_
    | with_reducible refine rx_neI ?_
    | with_reducible refine rx_eqRule ?_
    | with_reducible refine rx_eqS ?_
    | with_reducible refine rx_neS ?_
    | ((with_reducible apply rx_ix0); exact rfl; exact rfl)
    | ((with_reducible apply rx_ix1); exact rfl; exact rfl)
    | ((with_reducible apply rx_ix2); exact rfl; exact rfl)
    | ((with_reducible apply rx_ix3); exact rfl; exact rfl)
    | ((with_reducible apply rx_ix4); exact rfl; exact rfl)
    | ((with_reducible apply rx_ix5); exact rfl; exact rfl)
    | ((with_reducible apply rx_ix6); exact rfl; exact rfl)
    | ((with_reducible apply rx_ix7); exact rfl; exact rfl)
    | ((with_reducible apply rx_ix8); exact rfl; exact rfl)
    | ((with_reducible apply rx_ixL0); exact rfl; exact rfl)
    | ((with_reducible apply rx_ixL1); exact rfl; exact rfl)
    | fail "stop")
  | (guard_target =~ BX _ _ _ _ _; first
    | with_reducible refine bx_isInt ?_
    | with_reducible refine bx_isBool ?_
    | with_reducible refine bx_isStr ?_
    | with_reducible refine bx_isTup ?_
    | with_reducible refine bx_intI ?_
    | with_reducible refine bx_intB ?_
    | with_reducible refine bx_min2 ?_
    | with_reducible refine bx_max2 ?_
    | ((with_reducible apply bx_lenT); exact rfl)
    | ((with_reducible apply bx_lenL); exact rfl)
    | ((with_reducible apply bx_lenN); exact rfl)
    | fail "stop")
  | ((with_reducible apply gx_tup); exact rfl; exact rfl)
  | (guard_target =~ GsX _ _ _ _ _ _; first | refine gsx_cons ?_ | refine gsx_nil ?_ | fail "stop")
  | with_reducible refine gx_name ?_
  | with_reducible refine ox_some ?_
  | with_reducible refine ox_none ?_
  | with_reducible refine ux_neg ?_
  | refine ⟨_, rfl, Nat.le_of_ble_eq_true rfl, rfl, ?_⟩
  | refine ⟨_, rfl, Nat.le_of_ble_eq_true rfl, ?_⟩
  | refine ⟨_, _, rfl, rfl, rfl, ?_⟩
  | refine ⟨_, _, rfl, rfl, by assumption, ?_⟩
  | refine ⟨_, _, rfl, rfl, ?_⟩
  | refine ⟨_, _, _, rfl, ?_⟩
  | refine ⟨_, _, rfl, ?_⟩
  | refine ⟨_, rfl, ?_⟩
  | refine ⟨rfl, (_, some _, some _), rfl, trivial, ?_⟩
  | refine ⟨rfl, (_, some _, none), rfl, trivial, ?_⟩
  | refine ⟨rfl, (_, _), rfl, by assumption, ?_⟩
  | refine ⟨rfl, (_, _, _), rfl, by assumption, ?_⟩
  | refine ⟨rfl, (_, _, _, _), rfl, by assumption, ?_⟩
  | ((with_reducible intro c hc); subst hc)
  | refine ⟨fun hb => Bool.noConfusion hb, fun _ => ?_⟩
  | refine ⟨fun _ => ?_, fun hb => Bool.noConfusion hb⟩
  | dsimp only
  | fail "stop"))
local macro_rules | `(tactic| fail "xc") => `(tactic| (first | (refine ⟨fun hb => ?_, fun hb => ?_⟩ <;> first | exact Bool.noConfusion hb | skip) | fail "stop"))
local macro_rules | `(tactic| fail "xs") => `(tactic| repeat fail "x1")
local macro_rules | `(tactic| fail "xx") => `(tactic| repeat' (first | fail "x1" | fail "xc" | fail "stop"))
local macro_rules | `(tactic| fail "wk") => `(tactic| (first | (refine ⟨?_, rfl⟩; repeat (first | exact Wc.nil | refine Wc.keep (by first | exact trivial | exact Nat.le_of_ble_eq_true rfl) ?_ | refine Wc.drop ?_)) | fail "stop"))

section
variable {P : Program} {w : World} {K : PySem.W.Frag} {mg : Str → Option Value} {base : Heap}
abbrev JudA : Type := Well × Bool × Crew × Int × Int × PyData × Int × Int
abbrev judA (x : JudA) : List Cl := [.dat x.1.d, .dat (ruleD x.2.1), .dat x.2.2.1.d, .dat (.tuple [.int x.2.2.2.1, .int x.2.2.2.2.1]), .dat x.2.2.2.2.2.1, .dat (.int x.2.2.2.2.2.2.1), .dat (.int x.2.2.2.2.2.2.2)]
structure JudP (w : Well) (t : Bool) (c : Crew) (lo hi : Int) : Prop where
  ok : w.Ok
  cr : c.Ok w t
  sp : 0 ≤ lo ∧ lo ≤ hi ∧ hi ≤ 300
def leadC (w : Well) (t : Bool) (lo hi one other : Int) (c : Crew) (p1 : PyData) (hs : List (Crew × Int)) : Option (Crew × Int) → Bool
  | some e => (match p1 with
    | .int m => decide (0 ≤ m) && decide (e.2 = m) && boundB w t lo hi one other c hs && decide (m = maxL (hs.map (·.2)))
    | _ => false)
  | none => false
theorem lead_eq {w : Well} {t : Bool} {lo hi one other : Int} {c : Crew} {p1 : PyData} {row ds : List PyData} (h : heightsB w t (.tuple ds) = true) : leadB w t lo hi one other c p1 (.tuple row) (.tuple ds) = leadC w t lo hi one other c p1 (ds.map heightOf) (ledF w t lo hi one other c 0 row) := by
  show (heightsB w t (.tuple ds) && _) = _
  rw [h]
  rfl
theorem keep_ne {hs : List (Crew × Int)} {c : Crew} {v : Int} (h : look (keepH hs) c = some v) : 0 < hs.length := by
  cases hs with
  | nil => cases h
  | cons a l => simp
theorem bound_look {w : Well} {t : Bool} {lo hi one other : Int} {c : Crew} {hs : List (Crew × Int)} (h : boundB w t lo hi one other c hs = true) : 0 < hs.length := by
  unfold boundB at h
  cases e : look (keepH hs) c with
  | none => rw [e] at h; cases h
  | some v => exact keep_ne e
abbrev sp_is_lead : Spec := Sp1 (α := JudA) judA (fun x => JudP x.1 x.2.1 x.2.2.1 x.2.2.2.1 x.2.2.2.2.1 ∧ ∃ s p1 p2 p3, x.2.2.2.2.2.1 = .tuple [s, p1, p2, p3] ∧ ∀ ds, p3 = .tuple ds → ds.length ≤ 1000) fun x c => ∃ s p1 p2 p3, x.2.2.2.2.2.1 = .tuple [s, p1, p2, p3] ∧ c = .dat (.bool (leadB x.1 x.2.1 x.2.2.2.1 x.2.2.2.2.1 x.2.2.2.2.2.2.1 x.2.2.2.2.2.2.2 x.2.2.1 p1 p2 p3))
theorem cal_is_lead {f : Addr} {fd : FuncData} (T : Tp mg) (F : Def K mg "is_lead" s_is_lead f fd) (B : Binds K fd ["well", "rule", "crew", "span", "paper", "one", "other"] []) (c_are_heights : Cal P w K mg base 4 "are_heights" (spX P w K sp_are_heights) []) (c_led_by : Cal P w K mg base 6 "led_by" (spX P w K sp_led_by) []) (c_is_whole : Cal P w K mg base 1 "is_whole" (spX P w K sp_is_whole) []) (c_do_bound : Cal P w K mg base 6 "do_bound" (spX P w K sp_do_bound) []) : Cal P w K mg base 7 "is_lead" (spX P w K sp_is_lead) [] := by
  refine cal0 F B .nil sc_is_lead (sp1_len fun x => rfl) (fun cdv A outer s H vs Q E hr h => ?_)
  refine ⟨_, (pss_cons (ps_if (PW.pt (pw_or (pt_not (pt_val (pe_callB (r := rIsi K) call_isi (by rfl) T.b_isinstance bo_isinstance (pa_cons (pe_ix (r := rIxU K P w) (ix_u (hu16 hr)) (pv 4) pe_int (fun _ _ => rfl)) (pa_cons (pe_bltn (v := .ty "tuple") (u := .type "tuple") (by rfl) T.b_tuple bo_tuple rfl) pa_nil))))) (pw_or1 (pt_not (pt_val (pe_c c_are_heights hr (by decide) (by rfl) (pa_cons (pv 0) (pa_cons (pv 1) (pa_cons (pe_ix (r := rIxU K P w) (ix_u (hu16 hr)) (pv 4) pe_int (fun _ _ => rfl)) pa_nil))))))))) (pss_one (ps_ret pe_bl)) pss_nil) (pss_cons (ps_set (i := 7) sc_is_lead.nd rfl (Or.inl rfl) (pe_c c_led_by hr (by decide) (by rfl) (pa_cons (pv 0) (pa_cons (pv 1) (pa_cons (pv 2) (pa_cons (pe_ix (r := rIxU K P w) (ix_u (hu16 hr)) (pv 4) pe_int (fun _ _ => rfl)) (pa_cons (pv 3) (pa_cons (pv 5) (pa_cons (pv 6) pa_nil))))))))) (pss_cons (ps_if (PW.pt (pw_or (pt_cmpR op_isN (pv 7) pe_non (nomark _)) (pw_or (pt_not (pt_val (pe_c c_is_whole hr (by decide) (by rfl) (pa_cons (pe_ix (r := rIxU K P w) (ix_u (hu16 hr)) (pv 4) pe_int (fun _ _ => rfl)) (pa_cons pe_int (pa_cons pe_non pa_nil)))))) (pw_or1 (pt_cmpR (r := rNeU K) (op_neU (hu64 hr)) (pe_ix (r := rIxU K P w) (ix_u (hu16 hr)) (pv 7) pe_int (fun _ _ => rfl)) (pe_ix (r := rIxU K P w) (ix_u (hu16 hr)) (pv 4) pe_int (fun _ _ => rfl)) (nomark _)))))) (pss_one (ps_ret pe_bl)) pss_nil) (pss_cons (ps_if (pt_not (pt_val (pe_c c_do_bound hr (by decide) (by rfl) (pa_cons (pv 0) (pa_cons (pv 1) (pa_cons (pv 2) (pa_cons (pv 3) (pa_cons (pe_ix (r := rIxU K P w) (ix_u (hu16 hr)) (pv 4) pe_int (fun _ _ => rfl)) (pa_cons (pv 5) (pa_cons (pv 6) pa_nil)))))))))) (pss_one (ps_ret pe_bl)) pss_nil) (pss_one (ps_ret (pe_cmpR (r := rEqU K) (op_eqU (hu64 hr)) (pe_ix (r := rIxU K P w) (ix_u (hu16 hr)) (pv 4) pe_int (fun _ _ => rfl)) (pe_callB (r := rMax K) (cr_max rfl) (by rfl) T.b_max bo_max (pa_cons (pe_frz (pe_lc (own := [("here", 8), ("height", 9)]) (g := (gTup K 2 (gCons (gName 8) (gCons (gName 9) gNil)))) rfl sc_is_lead.nd (pi_tup (pe_ix (r := rIxU K P w) (ix_u (hu16 hr)) (pv 4) pe_int (fun _ _ => rfl))) (blkOk_by (N := N_is_lead) (sc := fnScope s_is_lead) (by decide +kernel)) (fun _ _ _ _ _ => (pg_tup rfl (pgs_cons (pg_name (i := 8) sc_is_lead.nd rfl (Or.inl rfl)) (pgs_cons (pg_name (i := 9) sc_is_lead.nd rfl (Or.inl rfl)) pgs_nil)))) (fun _ _ _ _ _ => pts_nil) (fun _ _ _ _ _ => (pv 9)))) pa_nil)) (nomark _)))))))), ?_⟩
  try dsimp only [cxOf, L2.Cx.nox, L2.Cx.wish, L2.Cx.blk]
  refine enter1 h fun x hx => ?_
  change SX _ _ [_, _, _, _, _, _, _, none, none, none] [] _
  obtain ⟨w0, t, c0, lo, hi, paper, one, other⟩ := x
  obtain ⟨hj, s0, p1, p2, p3, rfl, hz⟩ := hx
  dsimp only at hj
  have ok := hj.ok
  have hc := hj.cr
  have hsp := hj.sp
  change SX _ _ [some (.dat w0.d), some (.dat (ruleD t)), some (.dat c0.d), some (.dat (.tuple [.int lo, .int hi])), some (.dat (.tuple [s0, p1, p2, p3])), some (.dat (.int one)), some (.dat (.int other)), none, none, none] [] _
  have fin : ∀ b : Bool, leadB w0 t lo hi one other c0 p1 p2 p3 = b → ImC (Cl.dat (.bool b)) ∧ ∃ s q1 q2 q3, PyData.tuple [s0, p1, p2, p3] = .tuple [s, q1, q2, q3] ∧ Cl.dat (.bool b) = .dat (.bool (leadB w0 t lo hi one other c0 q1 q2 q3)) := fun b h => ⟨trivial, s0, p1, p2, p3, rfl, by rw [h]⟩
  cases p2 with
  | tuple row =>
    cases p3 with
    | tuple ds =>
      fail "xs"
      refine ⟨rfl, (w0, t, .tuple ds), rfl, ⟨ok, fun es e => by cases e; exact hz ds rfl⟩, ?_⟩
      fail "xs"
      refine ⟨fun hb => ?_, fun hb => ?_⟩
      · have hh : heightsB w0 t (.tuple ds) = false := by simpa only [Bool.not_eq_true'] using hb
        fail "xs"
        refine fin false ?_
        show (heightsB w0 t (.tuple ds) && _) = false
        rw [hh]
        rfl
      have hh : heightsB w0 t (.tuple ds) = true := by simpa only [Bool.not_eq_false'] using hb
      have hlb := lead_eq (lo := lo) (hi := hi) (one := one) (other := other) (c := c0) (p1 := p1) (row := row) hh
      have hall : ds.all (hgtB w0 t) = true := by
        have h2 : (ds.all (hgtB w0 t) && riseB ds) = true := hh
        rw [Bool.and_eq_true] at h2
        exact h2.1
      obtain ⟨hs, rfl, hok⟩ := hgts_of hall
      rw [heights_back] at hlb
      fail "xs"
      refine ⟨rfl, (w0, t, c0, row, lo, hi, one, other), rfl, ⟨ok, hc⟩, ?_⟩
      fail "xs"
      cases hl : ledF w0 t lo hi one other c0 0 row with
      | none =>
        rw [hl] at hlb
        fail "xs"
        exact fin false hlb
      | some e =>
        rw [hl] at hlb
        unfold ledD
        cases p1 with
        | int m =>
          fail "xs"
          refine ⟨fun hb => ?_, fun hb => ?_⟩
          · fail "xs"
            refine fin false ?_
            rw [hlb]
            have h0 : decide (0 ≤ m) = false := by
              have h3 : wholeB (.int m) (some 0) none = false := by simpa only [Bool.not_eq_true'] using hb
              simpa [wholeB] using h3
            show (decide (0 ≤ m) && _ && _ && _) = false
            rw [h0]
            rfl
          have h0 : decide (0 ≤ m) = true := by
            have h3 : wholeB (.int m) (some 0) none = true := by simpa only [Bool.not_eq_false'] using hb
            simpa [wholeB] using h3
          fail "xs"
          refine ⟨fun hb => ?_, fun hb => ?_⟩
          · have h1 : decide (e.2 = m) = false := by simpa only [Bool.not_eq_true'] using hb
            fail "xs"
            refine fin false ?_
            rw [hlb]
            show (decide (0 ≤ m) && decide (e.2 = m) && _ && _) = false
            rw [h0, h1]
            rfl
          have h1 : decide (e.2 = m) = true := by simpa only [Bool.not_eq_false'] using hb
          fail "xs"
          refine ⟨rfl, (w0, t, c0, lo, hi, hs, one, other), rfl, ⟨⟨ok, hsp⟩, hok⟩, ?_⟩
          fail "xs"
          refine ⟨fun hb => ?_, fun hb => ?_⟩
          · have h2 : boundB w0 t lo hi one other c0 hs = false := by simpa only [Bool.not_eq_true'] using hb
            fail "xs"
            refine fin false ?_
            rw [hlb]
            show (decide (0 ≤ m) && decide (e.2 = m) && boundB w0 t lo hi one other c0 hs && _) = false
            rw [h0, h1, h2]
            rfl
          have h2 : boundB w0 t lo hi one other c0 hs = true := by simpa only [Bool.not_eq_false'] using hb
          fail "xs"
          refine ex_lcM (tg_tup (tgs_cons tm_name (tg_name (by decide)) (tgs_cons tm_name (tg_name (by decide)) tgs_nil))) (ix_tup ?_)
          fail "xs"
          refine ⟨rfl, onD fun d => .int (heightOf d).2, ?_, ?_, ?_⟩
          · rw [List.length_map, List.length_map]
            have := hz _ rfl
            rw [List.length_map] at this
            exact small (k := 1000) this rfl
          · refine each_dat fun i d acc e => ?_
            obtain ⟨p, hp, rfl⟩ := map_at e
            refine gx_tup rfl rfl ?_
            unfold heightD
            fail "xs"
            exact ⟨rfl, rfl⟩
          rw [map_onD]
          fail "xs"
          have hmm : (List.map heightD hs).map (fun d => PyData.int (heightOf d).2) = (hs.map (·.2)).map .int := by
            rw [List.map_map, List.map_map]
            refine List.map_congr_left fun p _ => ?_
            show PyData.int (heightOf (heightD p)).2 = _
            rw [heightOf_d]
            rfl
          refine bx_max (ns := hs.map (·.2)) (by show some _ = some _; rw [hmm]) (by rw [List.length_map]; exact bound_look h2) ?_
          intro z hz1 hz2
          fail "xs"
          refine fin _ ?_
          rw [hlb, maxL_eq hz1 hz2]
          show (decide (0 ≤ m) && decide (e.2 = m) && boundB w0 t lo hi one other c0 hs && _) = _
          rw [h0, h1, h2]
          rfl
        | _ =>
          fail "xs"
          exact fin false hlb
    | _ =>
      fail "xs"
      refine ⟨rfl, (w0, t, _), rfl, ⟨ok, fun es e => by cases e⟩, ?_⟩
      fail "xs"
      exact fin false rfl
  | _ =>
    fail "xs"
    exact fin false rfl
abbrev sp_is_endless : Spec := Sp1 (α := JudA) judA (fun x => JudP x.1 x.2.1 x.2.2.1 x.2.2.2.1 x.2.2.2.2.1 ∧ ∃ s p1 p2, x.2.2.2.2.2.1 = .tuple [s, p1, p2]) fun x c => ∃ s p1 p2, x.2.2.2.2.2.1 = .tuple [s, p1, p2] ∧ c = .dat (.bool (endB x.1 x.2.1 x.2.2.2.1 x.2.2.2.2.1 x.2.2.2.2.2.2.1 x.2.2.2.2.2.2.2 x.2.2.1 p1 p2))
theorem cal_is_endless {f : Addr} {fd : FuncData} (T : Tp mg) (F : Def K mg "is_endless" s_is_endless f fd) (B : Binds K fd ["well", "rule", "crew", "span", "paper", "one", "other"] []) (c_led_by : Cal P w K mg base 6 "led_by" (spX P w K sp_led_by) []) : Cal P w K mg base 7 "is_endless" (spX P w K sp_is_endless) [] := by
  refine cal0 F B .nil sc_is_endless (sp1_len fun x => rfl) (fun cdv A outer s H vs Q E hr h => ?_)
  refine ⟨_, (pss_cons (ps_if (PW.pt (pw_or (pt_not (pt_val (pe_callB (r := rIsi K) call_isi (by rfl) T.b_isinstance bo_isinstance (pa_cons (pe_ix (r := rIxU K P w) (ix_u (hu16 hr)) (pv 4) pe_int (fun _ _ => rfl)) (pa_cons (pe_bltn (v := .ty "tuple") (u := .type "tuple") (by rfl) T.b_tuple bo_tuple rfl) pa_nil))))) (pw_or1 (pt_not (pt_val (pe_callB (r := rIsi K) call_isi (by rfl) T.b_isinstance bo_isinstance (pa_cons (pe_ix (r := rIxU K P w) (ix_u (hu16 hr)) (pv 4) pe_int (fun _ _ => rfl)) (pa_cons (pe_bltn (v := .ty "tuple") (u := .type "tuple") (by rfl) T.b_tuple bo_tuple rfl) pa_nil)))))))) (pss_one (ps_ret pe_bl)) pss_nil) (pss_cons (ps_set (i := 7) sc_is_endless.nd rfl (Or.inl rfl) (pe_c c_led_by hr (by decide) (by rfl) (pa_cons (pv 0) (pa_cons (pv 1) (pa_cons (pv 2) (pa_cons (pe_ix (r := rIxU K P w) (ix_u (hu16 hr)) (pv 4) pe_int (fun _ _ => rfl)) (pa_cons (pv 3) (pa_cons (pv 5) (pa_cons (pv 6) pa_nil))))))))) (pss_cons (ps_set (i := 8) sc_is_endless.nd rfl (Or.inl rfl) (pe_ifExp (pt_cmpR op_notN (pv 7) pe_non (nomark _)) (pe_c c_led_by hr (by decide) (by rfl) (pa_cons (pv 0) (pa_cons (pv 1) (pa_cons (pe_ix (r := rIxU K P w) (ix_u (hu16 hr)) (pv 7) pe_int (fun _ _ => rfl)) (pa_cons (pe_ix (r := rIxU K P w) (ix_u (hu16 hr)) (pv 4) pe_int (fun _ _ => rfl)) (pa_cons (pv 3) (pa_cons (pv 5) (pa_cons (pv 6) pa_nil)))))))) pe_non)) (pss_one (ps_ret (pe_and (pe_cmpR op_notN (pv 8) pe_non (nomark _)) (pe_and (pe_cmpR (r := rEqU K) (op_eqU (hu64 hr)) (pe_ix (r := rIxU K P w) (ix_u (hu16 hr)) (pv 8) pe_int (fun _ _ => rfl)) (pe_ix (r := rIxU K P w) (ix_u (hu16 hr)) (pv 7) pe_int (fun _ _ => rfl)) (nomark _)) (pe_one (pe_cmpR op_gt (pe_ix (r := rIxU K P w) (ix_u (hu16 hr)) (pv 8) pe_int (fun _ _ => rfl)) pe_int (nomark _)))))))))), ?_⟩
  try dsimp only [cxOf, L2.Cx.nox, L2.Cx.wish, L2.Cx.blk]
  refine enter1 h fun x hx => ?_
  change SX _ _ [_, _, _, _, _, _, _, none, none] [] _
  obtain ⟨w0, t, c0, lo, hi, paper, one, other⟩ := x
  obtain ⟨hj, s0, p1, p2, rfl⟩ := hx
  dsimp only at hj
  have ok := hj.ok
  have hc := hj.cr
  change SX _ _ [some (.dat w0.d), some (.dat (ruleD t)), some (.dat c0.d), some (.dat (.tuple [.int lo, .int hi])), some (.dat (.tuple [s0, p1, p2])), some (.dat (.int one)), some (.dat (.int other)), none, none] [] _
  have fin : ∀ b : Bool, endB w0 t lo hi one other c0 p1 p2 = b → ImC (Cl.dat (.bool b)) ∧ ∃ s q1 q2, PyData.tuple [s0, p1, p2] = .tuple [s, q1, q2] ∧ Cl.dat (.bool b) = .dat (.bool (endB w0 t lo hi one other c0 q1 q2)) := fun b h => ⟨trivial, s0, p1, p2, rfl, by rw [h]⟩
  cases p1 with
  | tuple r1 =>
    cases p2 with
    | tuple r2 =>
      fail "xs"
      refine ⟨rfl, (w0, t, c0, r1, lo, hi, one, other), rfl, ⟨ok, hc⟩, ?_⟩
      fail "xs"
      have h0 : endB w0 t lo hi one other c0 (.tuple r1) (.tuple r2) = match ledF w0 t lo hi one other c0 0 r1 with
        | some b => (match ledF w0 t lo hi one other b.1 0 r2 with
          | some e => decide (e.1 = b.1) && decide (e.2 > 0)
          | none => false)
        | none => false := rfl
      cases hl : ledF w0 t lo hi one other c0 0 r1 with
      | none =>
        rw [hl] at h0
        fail "xs"
        exact fin false h0
      | some b1 =>
        rw [hl] at h0
        obtain ⟨hb1, _⟩ := led_ok ok hc hl
        unfold ledD
        fail "xs"
        refine ⟨rfl, (w0, t, b1.1, r2, lo, hi, one, other), rfl, ⟨ok, hb1⟩, ?_⟩
        fail "xs"
        cases hl2 : ledF w0 t lo hi one other b1.1 0 r2 with
        | none =>
          dsimp only at h0
          rw [hl2] at h0
          fail "xs"
          exact fin false h0
        | some e =>
          dsimp only at h0
          rw [hl2] at h0
          unfold ledD
          fail "xs"
          refine rx_eqD rfl rfl (shaped_crew _) (shaped_crew _) ?_
          rw [eqv_crew]
          fail "xs"
          refine ⟨fun hb => ?_, fun hb => ?_⟩
          · fail "xs"
            refine fin _ ?_
            rw [h0]
            show (decide (e.1 = b1.1) && _) = _
            rw [hb]
            rfl
          · refine fin false ?_
            rw [h0]
            show (decide (e.1 = b1.1) && _) = _
            rw [hb]
            rfl
    | _ =>
      fail "xs"
      exact fin false rfl
  | _ =>
    fail "xs"
    exact fin false rfl
end
end Pk
/-! Qa, part B: the law's own pumps. -/
namespace Pk
open PySem PySem.Spec PyProof.Rows L2 C8

section
variable {C : Kx} {os : List OV} {γ : List (Option Cl)} {R : Cl → List OV → Prop} {te : TE} {wi : TI} {g : TG} {tt : TT} {vs : List Nat} {c : Cl}
/-- as ex_lcF, the new list stays the frame's own -/
theorem ex_lcO (tg : TgOk g vs) (h : IX C wi γ os fun cs os1 => os1 = os ∧ ∃ (p : Cl → Bool) (f : Cl → PyData), cs.length < sizeLine ∧
    (∀ (i : Nat) (c : Cl) (acc : List PyData), cs[i]? = some c → GX C g c (wipeC γ vs) (os ++ [.lst acc]) fun γ2 os2 => TX C tt γ2 os2 fun b os3 => b = p c ∧ os3.take (os.length + 1) = os ++ [.lst acc] ∧
      (b = true → EX C te γ2 os3 fun y os4 => y = .dat (f c) ∧ os4.take (os.length + 1) = os ++ [.lst acc])) ∧
    R (.own os.length) (os ++ [.lst ((cs.filter p).map f)])) : EX C (tLc wi g tt te vs) γ os R := by
  refine ex_lcG tg fun as H σ Q r s k => h as H σ Q r s fun J cs os' as' H' r1 l1 ok q => ?_
  obtain ⟨rfl, p, f, hz, turn, fin⟩ := q
  refine k J cs os' as' H' r1 l1 ok ⟨fun i acc o => o = os' ∧ acc = ((cs.take i).filter p).map f ∧ acc.length ≤ i, ⟨rfl, by simp, Nat.le_refl _⟩, fun i c acc o e ⟨h1, h2, h3⟩ => ?_, fun acc o ⟨h1, h2, h3⟩ => ?_⟩
  · subst h1
    have hi : i < cs.length := (List.getElem?_eq_some_iff.mp e).1
    have ec : cs.take (i + 1) = cs.take i ++ [c] := by rw [List.take_add_one, e]; rfl
    intro as H σ v Q r s hv kk
    refine turn i c acc e as H σ v Q r s hv fun γ' os2 as2 H2 σ2 r2 l2 s2 q2 => kk γ' os2 as2 H2 σ2 r2 l2 s2 ?_
    intro as H σ Q r s kk
    refine q2 as H σ Q r s fun b os3 as3 H3 r3 l3 ⟨eb, et, q3⟩ => kk b os3 as3 H3 r3 l3 ⟨fun hb => ?_, fun hb => ?_⟩
    · refine EX.imp (q3 hb) fun y os4 ⟨e1, e2⟩ => ⟨f c, o, e1, e2, rfl, by omega, rfl, ?_, ?_⟩
      · rw [ec, List.filter_append, List.map_append, ← h2]
        simp [← eb, hb]
      · rw [List.length_append, List.length_singleton]; omega
    · refine ⟨o, et, rfl, rfl, ?_, by omega⟩
      rw [ec, List.filter_append, List.map_append, ← h2]
      simp [← eb, hb]
  · subst h1
    rw [List.take_length] at h2
    rw [h2]
    exact fin
theorem bx_sortI {ns : List Int} (e : lsOf os c = some (ns.map .int)) (h : ∀ es : List Int, es.Perm ns → R (.own os.length) (os ++ [.lst (es.map .int)])) : BX C (rSortedI C.K) [c] os R := fun as H xs Q r hx q => by
  obtain ⟨u, rfl, h1⟩ := paired1 hx
  obtain ⟨a, ys, rfl, h2, h3⟩ := ls_of r h1 e
  rw [DdAll.ints] at h3
  subst h3
  exact ⟨a, ns, rfl, h2, fun es p hp _ hn => Kt.lst q r (DdAll.ints.mpr rfl) (h es hp) p hn⟩
end
/-! names in turn -/
theorem rot {n m : Nat} (h : m < n) : ((List.range n).drop m ++ (List.range n).take m).map (fun (i : Nat) => ((i : Nat) : Int)) = (List.range n).map fun i => ((m : Int) + (i : Nat)) % (n : Int) := by
  refine List.ext_getElem? fun j => ?_
  rw [List.getElem?_map, List.getElem?_map]
  by_cases h1 : j < n - m
  · rw [List.getElem?_append_left (by rw [List.length_drop, List.length_range]; exact h1), List.getElem?_drop, List.getElem?_range (by omega), List.getElem?_range (by omega)]
    show some _ = some _
    congr 1
    show ((m + j : Nat) : Int) = ((m : Int) + (j : Nat)) % (n : Int)
    rw [Int.emod_eq_of_lt (by omega) (by omega)]
    omega
  · by_cases h2 : j < n
    · rw [List.getElem?_append_right (by rw [List.length_drop, List.length_range]; omega), List.length_drop, List.length_range, List.getElem?_take, if_pos (by omega), List.getElem?_range (by omega), List.getElem?_range h2]
      show some _ = some _
      congr 1
      show ((j - (n - m) : Nat) : Int) = ((m : Int) + (j : Nat)) % (n : Int)
      have : ((m : Int) + (j : Nat)) = ((j - (n - m) : Nat) : Int) + (n : Int) := by omega
      rw [this, Int.add_emod_right, Int.emod_eq_of_lt (by omega) (by omega)]
    · rw [List.getElem?_eq_none (by rw [List.length_append, List.length_drop, List.length_take, List.length_range]; omega), List.getElem?_eq_none (by rw [List.length_range]; omega)]
      rfl
/-- those that stop -/
def endL (w : Well) (c : Crew) : List Int := if c.seen w < w.on ∧ c.seen w ≤ w.off then ((List.range c.ages.length).map fun (i : Nat) => ((i : Nat) : Int)).filter fun n => decide (ageAt c n = w.run) else []
theorem end_iff {w : Well} {c : Crew} {i : Nat} {a : Int} (hw : w.Ok) (h : c.ages[i]? = some a) : ((i : Nat) : Int) ∈ endL w c ↔ c.seen w ≤ w.off ∧ a = w.run := by
  have hlt := (List.getElem?_eq_some_iff.mp h).1
  have ha : ageAt c ((i : Nat) : Int) = a := by
    unfold ageAt
    rw [Int.toNat_natCast, List.getD_eq_getElem?_getD, h]
    rfl
  have ho := hw.off
  unfold endL
  constructor
  · intro q
    split at q
    · rename_i hc
      have := (List.mem_filter.mp q).2
      rw [ha] at this
      exact ⟨hc.2, of_decide_eq_true this⟩
    · cases q
  · rintro ⟨h1, h2⟩
    rw [if_pos ⟨by omega, h1⟩, List.mem_filter]
    refine ⟨List.mem_map.mpr ⟨i, List.mem_range.mpr hlt, rfl⟩, ?_⟩
    rw [ha]
    exact decide_eq_true h2
theorem past_eq {c : Crew} {w : Well} {t : Bool} (h : c.Ok w t) (hw : w.Ok) : (c.past ++ [c.level]).drop 1 = if w.lag > 0 then c.past.drop 1 ++ [c.level] else [] := by
  have hp := h.plen
  have hl := hw.lag
  cases hc : c.past with
  | nil =>
    rw [hc] at hp
    rw [if_neg (by simp at hp; omega)]
    rfl
  | cons a r =>
    rw [hc] at hp
    rw [if_pos (by simp at hp; omega)]
    rfl
theorem run_alt {w : Well} {t : Bool} {c : Crew} : runL w t c = ((List.range c.ages.length).map fun (i : Nat) => ((i : Nat) : Int)).filter fun n => decide ((agesL w t c).getD n.toNat 0 > 0) := by
  have key : ∀ (l : List Int) (k : Nat), ((l.zipIdx k).filter fun p => decide (p.1 > 0)).map (fun p => ((p.2 : Nat) : Int)) = ((List.range' k l.length).map fun (i : Nat) => ((i : Nat) : Int)).filter fun n => decide (l.getD (n.toNat - k) 0 > 0) := by
    intro l
    induction l with
    | nil => intro k; rfl
    | cons a l ih =>
      intro k
      have ih := ih (k + 1)
      have e2 : ((List.range' (k + 1) l.length).map fun (i : Nat) => ((i : Nat) : Int)).filter (fun n => decide ((a :: l).getD (n.toNat - k) 0 > 0)) = ((List.range' (k + 1) l.length).map fun (i : Nat) => ((i : Nat) : Int)).filter fun n => decide (l.getD (n.toNat - (k + 1)) 0 > 0) := by
        refine List.filter_congr fun n hn => ?_
        obtain ⟨i, hi, rfl⟩ := List.mem_map.mp hn
        have := List.mem_range'_1.mp hi
        rw [Int.toNat_natCast, show i - k = (i - (k + 1)) + 1 by omega]
        rfl
      rw [List.zipIdx_cons, List.filter_cons, List.length_cons, List.range'_succ, List.map_cons, List.filter_cons]
      have e3 : ((a :: l).getD ((k : Int).toNat - k) 0) = a := by rw [Int.toNat_natCast, Nat.sub_self]; rfl
      rw [e3, e2, ← ih]
      by_cases h : a > 0
      · rw [if_pos (decide_eq_true h), if_pos (decide_eq_true h), List.map_cons]
      · rw [if_neg (by simpa using h), if_neg (by simpa using h)]
  unfold runL
  rw [key, agesL_len, ← List.range_eq_range']
  refine List.filter_congr fun n _ => ?_
  rw [Nat.sub_zero]
/-- a statement whose end is known -/
theorem sx_cut {C : Kx} {t u : TS} {γ G : List (Option Cl)} {os O : List OV} {E : En} (h : SX C t γ os { nx := fun γ1 os1 => γ1 = G ∧ os1 = O, rt := fun _ _ => False }) (k : SX C u G O E) : SX C (tSeq t u) γ os E :=
  sx_seq fun as H σ D r s kn kr kb kc => h as H σ D r s (fun γ' os' as' H' σ' r' x' s' ⟨e1, e2⟩ => kn γ' os' as' H' σ' r' x' s' (by subst e1 e2; exact k)) (fun _ _ _ _ _ _ _ _ h => h.elim) (fun _ _ _ _ _ _ _ _ h => h.elim) fun _ _ _ _ _ _ _ _ h => h.elim
theorem run_len {w : Well} {t : Bool} {c : Crew} : (runL w t c).length = countL (agesL w t c) := by
  have key : ∀ (l : List Int) (k : Nat), ((l.zipIdx k).filter fun p => decide (p.1 > 0)).length = (l.filter fun a => decide (a > 0)).length := by
    intro l
    induction l with
    | nil => intro k; rfl
    | cons a l ih =>
      intro k
      rw [List.zipIdx_cons, List.filter_cons, List.filter_cons]
      by_cases h : a > 0
      · rw [if_pos (decide_eq_true h), if_pos (decide_eq_true h), List.length_cons, List.length_cons, ih]
      · rw [if_neg (by simpa using h), if_neg (by simpa using h), ih]
  unfold runL countL
  rw [List.length_map, key]
def runQ (w : Well) (t : Bool) (c : Crew) : Cl → Bool
  | .dat (.int n) => decide ((agesL w t c).getD n.toNat 0 > 0)
  | _ => false
def idD : Cl → PyData
  | .dat d => d
  | _ => .none
theorem run_rng {w : Well} {t : Bool} {c : Crew} : ((rngC 0 c.ages.length).filter (runQ w t c)).map idD = (runL w t c).map .int := by
  rw [run_alt]
  unfold rngC
  rw [List.filter_map, List.map_map, List.filter_map, List.map_map]
  have e1 : (runQ w t c ∘ fun (i : Nat) => Cl.dat (.int (0 + (i : Nat)))) = ((fun n => decide ((agesL w t c).getD n.toNat 0 > 0)) ∘ fun (i : Nat) => ((i : Nat) : Int)) := by
    funext i
    show decide ((agesL w t c).getD (0 + (i : Int)).toNat 0 > 0) = decide ((agesL w t c).getD (i : Int).toNat 0 > 0)
    rw [Int.zero_add]
  rw [e1]
  refine List.map_congr_left fun i _ => ?_
  show PyData.int (0 + (i : Int)) = PyData.int (i : Int)
  rw [Int.zero_add]
end Pk
/-! Qa, part C: heights that rise. -/
namespace Pk
open PySem PySem.Spec PyProof.Rows L2 C8

/-- a step at each place -/
theorem rise_at {ds : List PyData} : riseB ds = true ↔ ∀ (i : Nat) (a b : PyData), ds[i]? = some a → ds[i + 1]? = some b → PySem.W.dataLt (fstD a) (fstD b) = true := by
  unfold riseB
  rw [List.all_eq_true]
  constructor
  · intro h i a b ha hb
    have : (ds.zip (ds.drop 1))[i]? = some (a, b) := by
      rw [List.getElem?_zip_eq_some]
      exact ⟨ha, by rw [List.getElem?_drop, Nat.add_comm]; exact hb⟩
    exact h _ (List.mem_of_getElem? this)
  · intro h p hp
    obtain ⟨i, hi⟩ := List.getElem?_of_mem hp
    obtain ⟨q1, q2⟩ := List.getElem?_zip_eq_some.mp hi
    rw [List.getElem?_drop, Nat.add_comm] at q2
    exact h i _ _ q1 q2
theorem dataLt_tr {a b c : PyData} (h1 : PySem.W.dataLt a b = true) (h2 : PySem.W.dataLt b c = true) : PySem.W.dataLt a c = true := lex_trans _ _ _ h1 h2
theorem rise_far {ds : List PyData} (h : riseB ds = true) : ∀ (j i : Nat) (a b : PyData), ds[i]? = some a → ds[i + 1 + j]? = some b → PySem.W.dataLt (fstD a) (fstD b) = true
  | 0, i, a, b, ha, hb => rise_at.mp h i a b ha hb
  | j + 1, i, a, b, ha, hb => by
    obtain ⟨hl, _⟩ := List.getElem?_eq_some_iff.mp hb
    have hm : ds[i + 1 + j]? = some (ds[i + 1 + j]'(by omega)) := List.getElem?_eq_getElem _
    exact dataLt_tr (rise_far h j i a _ ha hm) (rise_at.mp h (i + 1 + j) _ b hm hb)
theorem fst_height (p : Crew × Int) : fstD (heightD p) = p.1.d := rfl
theorem rise_nodup {hs : List (Crew × Int)} (h : riseB (hs.map heightD) = true) : (hs.map (·.1)).Nodup := by
  rw [List.Nodup, List.pairwise_iff_getElem]
  intro i j hi hj hij e
  rw [List.length_map] at hi hj
  rw [List.getElem_map, List.getElem_map] at e
  have h1 : (hs.map heightD)[i]? = some (heightD hs[i]) := by rw [List.getElem?_map, List.getElem?_eq_getElem hi]; rfl
  have h2 : (hs.map heightD)[i + 1 + (j - i - 1)]? = some (heightD hs[j]) := by
    rw [show i + 1 + (j - i - 1) = j by omega, List.getElem?_map, List.getElem?_eq_getElem hj]; rfl
  have := rise_far h (j - i - 1) i _ _ h1 h2
  rw [fst_height, fst_height, e] at this
  exact Bool.noConfusion (this.symm.trans (lex_irrefl _))
theorem keep_more : ∀ (hs m : List (Crew × Int)), ((m ++ hs).map (·.1)).Nodup → hs.foldl (fun m p => put m p.1 p.2) m = m ++ hs
  | [], m, _ => (List.append_nil m).symm
  | p :: hs, m, h => by
    show hs.foldl (fun m p => put m p.1 p.2) (put m p.1 p.2) = _
    have hn : look m p.1 = none := by
      cases e : look m p.1 with
      | none => rfl
      | some v =>
        exfalso
        rw [List.map_append, List.nodup_append] at h
        exact h.2.2 p.1 (List.mem_map_of_mem (f := (·.1)) (look_mem e)) p.1 (by simp) rfl
    have hp : put m p.1 p.2 = m ++ [p] := by
      unfold put
      rw [hn]
      rfl
    rw [hp, keep_more hs (m ++ [p]) (by rw [List.append_assoc]; exact h), List.append_assoc]
    rfl
def riseP (ds : List PyData) : Cl → Bool
  | .dat (.int n) => !(PySem.W.dataLt (fstD (ds.getD (n - 1).toNat .none)) (fstD (ds.getD n.toNat .none)))
  | _ => false
theorem rng_filter (lo : Int) (n : Nat) (p : Cl → Bool) : ((rngC lo n).filter p).map idD = (((List.range n).map fun i => lo + ((i : Nat) : Int)).filter fun x => p (.dat (.int x))).map .int := by
  unfold rngC
  rw [List.filter_map, List.map_map, List.filter_map, List.map_map]
  rfl
theorem rise_rng (ds : List PyData) : ∃ ns : List Int, ((rngC 1 ((ds.length : Int) - 1).toNat).filter (riseP ds)).map idD = ns.map .int ∧ (ns.map PyData.int).isEmpty = riseB ds := by
  refine ⟨_, rng_filter _ _ _, ?_⟩
  rw [List.isEmpty_map]
  by_cases h : riseB ds = true
  · rw [h, List.isEmpty_iff, List.filter_eq_nil_iff]
    intro x hx
    obtain ⟨i, hi, rfl⟩ := List.mem_map.mp hx
    have hi' := List.mem_range.mp hi
    have h1 : ds[i]? = some (ds[i]'(by omega)) := List.getElem?_eq_getElem _
    have h2 : ds[i + 1]? = some (ds[i + 1]'(by omega)) := List.getElem?_eq_getElem _
    have := rise_at.mp h i _ _ h1 h2
    show ¬ (!(PySem.W.dataLt (fstD (ds.getD (1 + ((i : Nat) : Int) - 1).toNat .none)) (fstD (ds.getD (1 + ((i : Nat) : Int)).toNat .none)))) = true
    rw [show (1 + ((i : Nat) : Int) - 1).toNat = i by omega, show (1 + ((i : Nat) : Int)).toNat = i + 1 by omega, List.getD_eq_getElem?_getD, List.getD_eq_getElem?_getD, h1, h2]
    show ¬ (!(PySem.W.dataLt (fstD ds[i]) (fstD ds[i + 1]))) = true
    rw [this]
    decide
  · have hf : riseB ds = false := by simpa using h
    rw [hf]
    cases e : (((List.range ((ds.length : Int) - 1).toNat).map fun i => (1 : Int) + ((i : Nat) : Int)).filter fun x => riseP ds (.dat (.int x))) with
    | cons => rfl
    | nil =>
      exfalso
      refine h (rise_at.mpr fun i a b ha hb => ?_)
      rw [List.filter_eq_nil_iff] at e
      obtain ⟨hl, _⟩ := List.getElem?_eq_some_iff.mp hb
      have := e (1 + ((i : Nat) : Int)) (List.mem_map.mpr ⟨i, List.mem_range.mpr (by omega), rfl⟩)
      have h3 : ¬ (!(PySem.W.dataLt (fstD (ds.getD (1 + ((i : Nat) : Int) - 1).toNat .none)) (fstD (ds.getD (1 + ((i : Nat) : Int)).toNat .none)))) = true := this
      rw [show (1 + ((i : Nat) : Int) - 1).toNat = i by omega, show (1 + ((i : Nat) : Int)).toNat = i + 1 by omega, List.getD_eq_getElem?_getD, List.getD_eq_getElem?_getD, ha, hb] at h3
      simpa using h3
/-- what the law's own judge of heights says -/
def bothB (w : Well) (t : Bool) (lo hi : Int) (c : Crew) : PyData → Bool
  | .tuple ds => heightsB w t (.tuple ds) && boundB w t lo hi 0 1 c (ds.map heightOf)
  | _ => false
/-- one step's bound -/
def okX (w : Well) (t : Bool) (hs : List (Crew × Int)) (p : Crew × Int) (x : Int) : Bool := match nextC w t p.1 x with
  | none => true
  | some c' => match look hs c' with
    | some v => decide (p.2 + gainL w t p.1 0 1 ≤ v)
    | none => false
theorem okX_all {w : Well} {t : Bool} {lo hi : Int} {hs : List (Crew × Int)} {p : Crew × Int} : ((stepsL w t p.1 lo hi).all fun q => match look hs q.2 with | some v => decide (p.2 + gainL w t p.1 0 1 ≤ v) | none => false) = true ↔ ∀ x, lo ≤ x → x ≤ hi → okX w t hs p x = true := by
  rw [List.all_eq_true]
  constructor
  · intro h x h1 h2
    unfold okX
    cases hn : nextC w t p.1 x with
    | none => rfl
    | some c' =>
      obtain ⟨q, hq, rfl⟩ := List.mem_map.mp (stepL_all h1 h2 hn)
      exact h q hq
  · intro h q hq
    obtain ⟨h1, h2, h3⟩ := stepL_mem hq
    have := h q.1 h1 h2
    unfold okX at this
    rw [h3] at this
    exact this
theorem bound_all {w : Well} {t : Bool} {lo hi : Int} {c : Crew} {hs : List (Crew × Int)} {v : Int} (hk : keepH hs = hs) (hl : look hs c = some v) (hv : 0 ≤ v) : boundB w t lo hi 0 1 c hs = true ↔ ∀ p ∈ hs, ∀ x, lo ≤ x → x ≤ hi → okX w t hs p x = true := by
  unfold boundB
  rw [hk, hl, Bool.and_eq_true]
  constructor
  · rintro ⟨_, h⟩ p hp
    exact okX_all.mp (List.all_eq_true.mp h p hp)
  · intro h
    exact ⟨decide_eq_true hv, List.all_eq_true.mpr fun p hp => okX_all.mpr (h p hp)⟩
theorem keep_snoc {hs : List (Crew × Int)} {p : Crew × Int} : keepH (hs ++ [p]) = put (keepH hs) p.1 p.2 := by
  unfold keepH
  rw [List.foldl_append]
  rfl
theorem keep_len : ∀ (hs m : List (Crew × Int)), (hs.foldl (fun m p => put m p.1 p.2) m).length ≤ m.length + hs.length
  | [], m => Nat.le_refl _
  | p :: hs, m => by
    have h1 := keep_len hs (put m p.1 p.2)
    have h2 := length_put m p.1 p.2
    show (hs.foldl (fun m p => put m p.1 p.2) (put m p.1 p.2)).length ≤ _
    rw [List.length_cons]
    omega
theorem keep_same {hs : List (Crew × Int)} (h : riseB (hs.map heightD) = true) : keepH hs = hs := keep_more hs [] (rise_nodup h)
end Pk
/-! Qa, part D: repr of a sheet's second thing. -/
namespace Pk
open PySem PySem.Spec PyProof.Rows L2 C8

section
variable {prog : Program} {w : World} {A : Around} {E : Value → Shared → Prop} {s : Shared}
/-- repr of a tuple, whatever is under way: two answers -/
theorem repr_tup2 {a : Addr} {o : Obj} {items : Array Value} {n : Nat} {ts : List Str} {Q : Value → Shared → Prop} (hu : A.units + 1 < cLine) (ha : s.heap.get? a = some o) (hc : o.cls = .type "tuple") (hd : o.data = .seq items n) (hT : ReprAll prog w items.toList ts) (hsz : (tupleText ts).length ≤ sizeLine)
    (h : ∀ (m : Str) (u tk : Tok), (m = "(...)" ∨ m = tupleText ts) → Q (.str m u) { s with toks := tk }) : wpAny (model prog w) A (call (.builtin "repr") [.ref a]) Q E s := by
  refine call_repr_slot hu ⟨o, ha, hc⟩ F.slot_tuple_repr ?_
  refine wpAny_call (codeAny_call_builtin_own (Code.quiet_builtin _ (by decide +kernel)) F.entry_tuple_repr (F.slot_tuple_repr.check _ _ _ _ _ _ _ _ ⟨o, ha, hc⟩ (F.args_tuple_repr_1 _) (wpOwn_of_wpAny ?_)))
  show wpAny _ _ (Builtin.tupleReprAt 0 ⟨[.ref a], []⟩) _ _ s
  rw [tuple_repr_tree]
  refine wpAny_bind (fmt_underWay fun b => ?_)
  cases b with
  | true =>
    refine PySem.W.KFB.if_so rfl ?_
    refine wpAny_bind (wpAny_rule ?_)
    refine wpAny_bind (wpAny_mkStr (wpAny_pure ?_) (by decide +kernel))
    exact ⟨_, _, rfl, h "(...)" _ _ (.inl rfl)⟩
  | false =>
    refine PySem.W.KFB.if_not rfl ?_
    refine wpAny_tupleReprRest ha hd hT (fun u tk => ?_) (by omega)
    exact ⟨_, _, rfl, h (tupleText ts) u tk (.inr rfl)⟩
end
/-- what repr may say -/
def RepIs : PyData → Str → Prop
  | .int i, m => m = toString i
  | .none, m => m = "None"
  | .bool b, m => m = (if b then ("True" : Str) else ("False" : Str))
  | .str s, m => m = reprText s
  | .tuple [.int i], m => m = "(...)" ∨ m = tupleText [(toString i : Str)]
  | _, _ => False
def RepOk : PyData → Prop
  | .int i => i.natAbs.log2 < 1920
  | .none => True
  | .bool _ => True
  | .str s => (reprText s).length ≤ sizeLine
  | .tuple [.int i] => i.natAbs.log2 < 1920 ∧ (tupleText [(toString i : Str)]).length ≤ sizeLine
  | _ => False
/-- repr(x): of an int, None, a truth value, a text, a tuple of one int -/
def rRep (K : PySem.W.Frag) : List V → Hp → VK → Prop := fun xs H Q =>
  (∃ i, xs = [.int i] ∧ i.natAbs.log2 < 1920 ∧ Q (.str (toString i)) H) ∨
  (xs = [.non] ∧ Q (.str "None") H) ∨
  (∃ b, xs = [.bl b] ∧ Q (.str (if b then ("True" : Str) else ("False" : Str))) H) ∨
  (∃ t, xs = [.str t] ∧ (reprText t).length ≤ sizeLine ∧ Q (.str (reprText t)) H) ∨
  (∃ p i, xs = [.ref p] ∧ SqT K H p [.int i] ∧ i.natAbs.log2 < 1920 ∧ (tupleText [(toString i : Str)]).length ≤ sizeLine ∧ ∀ m : Str, (m = "(...)" ∨ m = tupleText [(toString i : Str)]) → Q (.str m) H)
theorem call_rep {X : Cx} (hu : X.A.units + 1 < cLine) : CallR X (.builtin "repr") (rRep X.K) := by
  intro pins s σ H xs us Q I r h
  rcases h with ⟨i, rfl, hz, q⟩ | ⟨rfl, q⟩ | ⟨b, rfl, q⟩ | ⟨a, rfl, hz, q⟩ | ⟨p, i, rfl, hq, hz, hz2, q⟩
  · obtain ⟨u, rfl, t, rfl⟩ := vals1 r
    exact PySem.P.repr_of_int hz ⟨.str _, H, I.tok _, ⟨_, rfl⟩, q⟩
  · obtain ⟨u, rfl, rx⟩ := vals1 r
    cases rx
    exact PySem.P.repr_of_none ⟨.str _, H, I.tok _, ⟨_, rfl⟩, q⟩
  · obtain ⟨u, rfl, rx⟩ := vals1 r
    cases rx
    exact PySem.P.repr_of_bool ⟨.str _, H, I.tok _, ⟨_, rfl⟩, q⟩
  · obtain ⟨u, rfl, t, rfl⟩ := vals1 r
    exact PySem.P.repr_of_str ⟨.str _, H, I.tok _, ⟨_, rfl⟩, q⟩ hz
  · obtain ⟨u, rfl, rx⟩ := vals1 r
    cases rx
    obtain ⟨its, r1, ⟨o, h1, h2, n, h3⟩, _⟩ := I.tuple hq
    obtain ⟨v, rfl, tk, rfl⟩ := vals1 r1
    exact repr_tup2 hu h1 h2 h3 (.cons (ReprIs.int _ hz) .nil) hz2 fun m u tk hm => ⟨.str m, H, I.tok _, ⟨_, rfl⟩, q m hm⟩
section
variable {C : Kx} {os : List OV} {R : Cl → List OV → Prop}
theorem bx_rep {d : PyData} (hd : RepOk d) (h : ∀ m, RepIs d m → R (.dat (.str m)) os) : BX C (rRep C.K) [.dat d] os R := fun as H xs Q r hx q => by
  obtain ⟨u, rfl, h1⟩ := paired1 hx
  cases d with
  | none => exact .inr (.inl ⟨by rw [show u = .non from dd_non.mp (cv_of h1)], Kt.here q r (c := .dat (.str _)) cv_str (h _ rfl)⟩)
  | bool b => exact .inr (.inr (.inl ⟨b, by rw [cv_blE h1], Kt.here q r (c := .dat (.str _)) cv_str (h _ rfl)⟩))
  | int i => exact .inl ⟨i, by rw [cv_intE h1], hd, Kt.here q r (c := .dat (.str _)) cv_str (h _ rfl)⟩
  | str s => exact .inr (.inr (.inr (.inl ⟨s, by rw [cv_strE h1], hd, Kt.here q r (c := .dat (.str _)) cv_str (h _ rfl)⟩)))
  | tuple ds =>
    match ds, hd with
    | [.int i], hd =>
      obtain ⟨a, xs, rfl, hs, v, rr, rfl, hv, rfl⟩ := tp_of h1 rfl
      rw [show v = .int i from dd_int.mp hv] at hs
      exact .inr (.inr (.inr (.inr ⟨a, i, rfl, hs, hd.1, hd.2, fun m hm => Kt.here q r (c := .dat (.str m)) cv_str (h m hm)⟩)))
  | list => cases hd
  | dict => cases hd
end
end Pk
/-! Qa, part E: texts of ints and of others. -/
namespace Pk
open PySem PySem.Spec PyProof.Rows L2 C8
theorem int_not {i : Int} {m : Str} (k : Nat) (hk : k ≠ 45 ∧ (k < 48 ∨ 57 < k)) (h : k ∈ m.cps.toList) : ((toString i : String) : Str) ≠ m := fun e => int_text_free' k hk i (by rw [e]; exact h)
theorem rep_other {d : PyData} {i : Int} {m : Str} (h : RepIs d m) (hd : ∀ j, d ≠ .int j) : ((toString i : String) : Str) ≠ m := by
  cases d with
  | none => cases h; exact int_not 78 (by decide) (by decide +kernel)
  | bool b =>
    cases b with
    | true => cases h; exact int_not 84 (by decide) (by decide +kernel)
    | false => cases h; exact int_not 70 (by decide) (by decide +kernel)
  | int j => exact absurd rfl (hd j)
  | str s =>
    cases h
    refine int_not (reprQuote s) ?_ ?_
    · unfold reprQuote
      split <;> decide
    · show _ ∈ ((_ : Array Nat).push _).toList
      rw [Array.toList_push]
      exact List.mem_append_right _ (List.mem_singleton.mpr rfl)
  | tuple ds =>
    match ds, h with
    | [.int j], h =>
      rcases h with rfl | rfl
      · exact int_not 40 (by decide) (by decide +kernel)
      · refine int_not 40 (by decide) ?_
        unfold tupleText
        show 40 ∈ ((("(" : Str).cps ++ _ ++ _)).toList
        rw [Array.toList_append, Array.toList_append]
        exact List.mem_append_left _ (List.mem_append_left _ (by decide +kernel))
  | list => cases h
  | dict => cases h
theorem int_same {i j : Int} (h : ((toString i : String) : Str) = ((toString j : String) : Str)) : i = j := by
  refine Int.repr_injective ?_
  rw [Str.ofString_eq_toList, Str.ofString_eq_toList] at h
  have h2 := congrArg (fun x => x.cps.toList) h
  dsimp only at h2
  have h3 := (List.map_inj_right (fun a b e => Char.toNat_inj.mp e)).mp h2
  exact String.toList_inj.mp h3
end Pk
/-! X1 (printed by gen/mk.py) -/
namespace Pk
open PySem PySem.Spec PyProof.Rows L2 C8

local macro_rules | `(tactic| fail "x1") => `(tactic| (first
  | (guard_target =~ EX _ _ _ _ _; first
    | ((with_reducible apply ex_var); exact rfl)
    | with_reducible refine ex_int ?_
    | with_reducible refine ex_op ?_
    | with_reducible refine ex_cb ?_
    | with_reducible refine ex_str ?_
    | with_reducible refine ex_non ?_
    | with_reducible refine ex_bl ?_
    | with_reducible refine ex_ty ?_
    | with_reducible refine ex_call1 ?_
    | with_reducible refine ex_if ?_
    | with_reducible refine ex_and ?_
    | with_reducible refine ex_or ?_
    | with_reducible refine ex_not ?_
    | with_reducible refine ex_chain ?_
    | with_reducible refine ex_tup ?_
    | with_reducible refine ex_lst ?_
    | with_reducible refine ex_append ?_
    | with_reducible refine ex_disp1N ?_
    | with_reducible refine ex_newN ?_
    | with_reducible refine ex_frzV ?_
    | with_reducible refine ex_frzDV ?_
    | with_reducible refine ex_frzL ?_
    | with_reducible refine ex_frzSl ?_
    | with_reducible refine ex_frzRev ?_
    | with_reducible refine ex_frzRg ?_
    | with_reducible refine ex_un ?_
    | with_reducible refine ex_slT ?_
    | with_reducible refine ex_slL ?_
    | fail "stop")
  | (guard_target =~ AX _ _ _ _ _; first
    | with_reducible refine ax_cons ?_
    | with_reducible refine ax_nil ?_
    | fail "stop")
  | (guard_target =~ SX _ _ _ _ _; first
    | with_reducible refine sx_seq ?_
    | with_reducible refine sx_set ?_
    | with_reducible refine sx_if ?_
    | with_reducible refine sx_ret ?_
    | with_reducible refine sx_next ?_
    | with_reducible refine sx_asg ?_
    | with_reducible refine sx_drop ?_
    | with_reducible refine sx_par ?_
    | with_reducible refine sx_par3 ?_
    | ((with_reducible apply sx_aug); exact rfl)
    | fail "stop")
  | (guard_target =~ TX _ _ _ _ _; first
    | with_reducible refine tx_b ?_
    | with_reducible refine tx_test ?_
    | with_reducible refine tx_and ?_
    | with_reducible refine tx_or ?_
    | with_reducible refine tx_not ?_
    | with_reducible refine tx_yes ?_
    | fail "stop")
  | (guard_target =~ RX _ _ _ _ _ _; first
    | with_reducible refine rx_add ?_
    | with_reducible refine rx_sub ?_
    | ((with_reducible apply rx_mod); (first | assumption | omega))
    | ((with_reducible apply rx_mul); (first | assumption | exact .inl ⟨by omega, by omega⟩))
    | with_reducible refine rx_lt ?_
    | with_reducible refine rx_le ?_
    | with_reducible refine rx_gt ?_
    | with_reducible refine rx_ge ?_
    | with_reducible refine rx_isN ?_
    | with_reducible refine rx_notN ?_
    | with_reducible refine rx_eqI ?_
    | with_reducible refine rx_neI ?_
    | with_reducible refine rx_eqRule ?_
    | with_reducible refine rx_eqS ?_
    | with_reducible refine rx_neS ?_
    | ((with_reducible apply rx_ix0); exact rfl; exact rfl)
    | ((with_reducible apply rx_ix1); exact rfl; exact rfl)
    | ((with_reducible apply rx_ix2); exact rfl; exact rfl)
    | ((with_reducible apply rx_ix3); exact rfl; exact rfl)
    | ((with_reducible apply rx_ix4); exact rfl; exact rfl)
    | ((with_reducible apply rx_ix5); exact rfl; exact rfl)
    | ((with_reducible apply rx_ix6); exact rfl; exact rfl)
    | ((with_reducible apply rx_ix7); exact rfl; exact rfl)
    | ((with_reducible apply rx_ix8); exact rfl; exact rfl)
    | ((with_reducible apply rx_ixL0); exact rfl; exact rfl)
    | ((with_reducible apply rx_ixL1); exact rfl; exact rfl)
    | fail "stop")
  | (guard_target =~ BX _ _ _ _ _; first
    | with_reducible refine bx_isInt ?_
    | with_reducible refine bx_isBool ?_
    | with_reducible refine bx_isStr ?_
    | with_reducible refine bx_isTup ?_
    | with_reducible refine bx_intI ?_
    | with_reducible refine bx_intB ?_
    | with_reducible refine bx_min2 ?_
    | with_reducible refine bx_max2 ?_
    | ((with_reducible apply bx_lenT); exact rfl)
    | ((with_reducible apply bx_lenL); exact rfl)
    | ((with_reducible apply bx_lenN); exact rfl)
    | fail "stop")
  | ((with_reducible apply gx_tup); exact rfl; exact rfl)
  | (guard_target =~ GsX _ _ _ _ _ _; first | refine gsx_cons ?_ | refine gsx_nil ?_ | fail "stop")
  | with_reducible refine gx_name ?_
  | with_reducible refine ox_some ?_
  | with_reducible refine ox_none ?_
  | with_reducible refine ux_neg ?_
  | refine ⟨_, rfl, Nat.le_of_ble_eq_true rfl, rfl, ?_⟩
  | refine ⟨_, rfl, Nat.le_of_ble_eq_true rfl, ?_⟩
  | refine ⟨_, _, rfl, rfl, rfl, ?_⟩
  | refine ⟨_, _, rfl, rfl, by assumption, ?_⟩
  | refine ⟨_, _, rfl, rfl, ?_⟩
  | refine ⟨_, _, _, rfl, ?_⟩
  | refine ⟨_, _, rfl, ?_⟩
  | refine ⟨_, rfl, ?_⟩
  | refine ⟨rfl, (_, some _, some _), rfl, trivial, ?_⟩
  | refine ⟨rfl, (_, some _, none), rfl, trivial, ?_⟩
  | refine ⟨rfl, (_, _), rfl, by assumption, ?_⟩
  | refine ⟨rfl, (_, _, _), rfl, by assumption, ?_⟩
  | refine ⟨rfl, (_, _, _, _), rfl, by assumption, ?_⟩
  | ((with_reducible intro c hc); subst hc)
  | refine ⟨fun hb => Bool.noConfusion hb, fun _ => ?_⟩
  | refine ⟨fun _ => ?_, fun hb => Bool.noConfusion hb⟩
  | dsimp only
  | fail "stop"))
local macro_rules | `(tactic| fail "xc") => `(tactic| (first | (refine ⟨fun hb => ?_, fun hb => ?_⟩ <;> first | exact Bool.noConfusion hb | skip) | fail "stop"))
local macro_rules | `(tactic| fail "xs") => `(tactic| repeat fail "x1")
local macro_rules | `(tactic| fail "xx") => `(tactic| repeat' (first | fail "x1" | fail "xc" | fail "stop"))
local macro_rules | `(tactic| fail "wk") => `(tactic| (first | (refine ⟨?_, rfl⟩; repeat (first | exact Wc.nil | refine Wc.keep (by first | exact trivial | exact Nat.le_of_ble_eq_true rfl) ?_ | refine Wc.drop ?_)) | fail "stop"))

section
variable {P : Program} {w : World} {K : PySem.W.Frag} {mg : Str → Option Value} {base : Heap}
abbrev sp__law_gain : Spec := Sp1 (α := List Int × Int × Int) (fun x => [.dat (.tuple (x.1.map .int)), .dat (.int x.2.1), .dat (.int x.2.2)]) (fun _ => True) fun x c => c = .dat (.int ((if x.2.1 ∈ x.1 then 1 else 0) - (if x.2.2 ∈ x.1 then 1 else 0)))
theorem cal__law_gain {f : Addr} {fd : FuncData} (T : Tp mg) (F : Def K mg "_law_gain" s__law_gain f fd) (B : Binds K fd ["_law_runs", "_law_one", "_law_other"] [])  : Cal P w K mg base 1 "_law_gain" (spX P w K sp__law_gain) [] := by
  refine cal0 F B .nil sc__law_gain (sp1_len fun x => rfl) (fun cdv A outer s H vs Q E hr h => ?_)
  refine ⟨_, (pss_one (ps_ret (pe_op op_sub (pe_ifExp (pt_cmpR (r := rInU K P w false) (op_inU (hu65 hr)) (pv 1) (pv 0) (by rfl)) pe_int pe_int) (pe_ifExp (pt_cmpR (r := rInU K P w false) (op_inU (hu65 hr)) (pv 2) (pv 0) (by rfl)) pe_int pe_int)))), ?_⟩
  try dsimp only [cxOf, L2.Cx.nox, L2.Cx.wish, L2.Cx.blk]
  refine enter1 h fun x hx => ?_
  change SX _ _ [_, _, _] [] _
  obtain ⟨l, a, b⟩ := x
  change SX _ _ [some (.dat (.tuple (l.map .int))), some (.dat (.int a)), some (.dat (.int b))] [] _
  refine sx_ret (ex_op (EX.imp (R' := fun c os => c = .dat (.int (if a ∈ l then 1 else 0)) ∧ os = []) ?_ ?_))
  · fail "xs"
    refine rx_inI (.inr rfl) ?_
    fail "xs"
    refine ⟨fun hb => ?_, fun hb => ?_⟩
    · rw [if_pos (of_decide_eq_true hb)]
      fail "xs"
      exact ⟨rfl, rfl⟩
    · rw [if_neg (of_decide_eq_false hb)]
      fail "xs"
      exact ⟨rfl, rfl⟩
  rintro _ _ ⟨rfl, rfl⟩
  refine EX.imp (R' := fun c os => c = .dat (.int (if b ∈ l then 1 else 0)) ∧ os = []) ?_ ?_
  · fail "xs"
    refine rx_inI (.inr rfl) ?_
    fail "xs"
    refine ⟨fun hb => ?_, fun hb => ?_⟩
    · rw [if_pos (of_decide_eq_true hb)]
      fail "xs"
      exact ⟨rfl, rfl⟩
    · rw [if_neg (of_decide_eq_false hb)]
      fail "xs"
      exact ⟨rfl, rfl⟩
  rintro _ _ ⟨rfl, rfl⟩
  fail "xs"
  exact ⟨trivial, rfl⟩
abbrev sp__law_turned : Spec := Sp1 (α := Well × Bool × Crew) (fun x => [.dat x.1.d, .dat (ruleD x.2.1), .dat x.2.2.d]) (fun x => x.1.Ok ∧ x.2.2.Ok x.1 x.2.1) fun x c => c = .dat (.tuple [.list ((begL x.1 x.2.1 x.2.2).map .int), .list ((endL x.1 x.2.2).map .int)])
theorem cal__law_turned {f : Addr} {fd : FuncData} (T : Tp mg) (F : Def K mg "_law_turned" s__law_turned f fd) (B : Binds K fd ["_law_well_here", "_law_rule", "_law_crew"] [])  : Cal P w K mg base 1 "_law_turned" (spX P w K sp__law_turned) [] := by
  refine cal0 F B .nil sc__law_turned (sp1_len fun x => rfl) (fun cdv A outer s H vs Q E hr h => ?_)
  refine ⟨_, (pss_cons (ps_asg (pv 2) (pg_tup rfl (pgs_cons (pg_name (i := 3) sc__law_turned.nd rfl (Or.inl rfl)) (pgs_cons (pg_name (i := 4) sc__law_turned.nd rfl (Or.inl rfl)) (pgs_cons (pg_name (i := 5) sc__law_turned.nd rfl (Or.inr rfl)) (pgs_cons (pg_name (i := 6) sc__law_turned.nd rfl (Or.inl rfl)) pgs_nil)))))) (pss_cons (ps_set (i := 7) sc__law_turned.nd rfl (Or.inl rfl) (pe_ifExp (pt_cmpR op_gt (pe_ix (r := rIxU K P w) (ix_u (hu16 hr)) (pv 0) pe_int (fun _ _ => rfl)) pe_int (nomark _)) (pe_ix (r := rIxU K P w) (ix_u (hu16 hr)) (pv 4) pe_int (fun _ _ => rfl)) (pv 3))) (pss_cons (ps_set (i := 7) sc__law_turned.nd rfl (Or.inl rfl) (pe_op op_sub (pv 7) (pe_op op_mod (pe_callTy call_int1 (by rfl) T.b_int bo_int (pa_cons (pv 7) pa_nil)) (pe_ix (r := rIxU K P w) (ix_u (hu16 hr)) (pv 0) pe_int (fun _ _ => rfl))))) (pss_cons (ps_set (i := 8) sc__law_turned.nd rfl (Or.inl rfl) (pe_frz (pe_listRg rfl (by rfl) T.b_list (prg_1 (by rfl) T.b_range (pe_callB (r := rLenU K P w) call_lenU (by rfl) T.b_len bo_len (pa_cons (pv 5) pa_nil)))))) (pss_cons (ps_if (pt_cmpR op_ge (pv 7) (pe_ix (r := rIxU K P w) (ix_u (hu16 hr)) (pv 0) pe_int (fun _ _ => rfl)) (nomark _)) (pss_cons (ps_set (i := 9) sc__law_turned.nd rfl (Or.inl rfl) (pe_ifExp (pt_cmpR (r := rEqU K) (op_eqU (hu64 hr)) (pv 1) pe_str (nomark _)) (pe_frz (pe_op op_cat (pe_slice (r := rSlL K) sl_list (pv 8) (po_some (pv 6)) po_none) (pe_slice (r := rSlL K) sl_list (pv 8) po_none (po_some (pv 6))))) (pv 8))) (pss_one (ps_ret (pe_tupP (pa_cons (pe_frz (pe_slice (r := rSlL K) sl_list (pe_frz (pe_lc (own := [("_law_k", 10)]) (g := (gName 10)) rfl sc__law_turned.nd (pi_list (pv 9)) (blkOk_by (N := N__law_turned) (sc := fnScope s__law_turned) (by decide +kernel)) (fun _ _ _ _ _ => (pg_name (i := 10) sc__law_turned.nd rfl (Or.inl rfl))) (fun _ _ _ _ _ => (pts_one (pt_cmpR (r := rEqU K) (op_eqU (hu64 hr)) (pe_ix (r := rIxU K P w) (ix_u (hu16 hr)) (pv 5) (pv 10) (fun _ _ => rfl)) (pe_op op_sub pe_int (pe_ix (r := rIxU K P w) (ix_u (hu16 hr)) (pv 0) pe_int (fun _ _ => rfl))) (nomark _)))) (fun _ _ _ _ _ => (pv 10)))) po_none (po_some (pe_ix (r := rIxU K P w) (ix_u (hu16 hr)) (pv 0) pe_int (fun _ _ => rfl))))) (pa_cons (pe_frz (pe_lst pa_nil)) pa_nil)))))) pss_nil) (pss_one (ps_ret (pe_tupP (pa_cons (pe_frz (pe_lst pa_nil)) (pa_cons (pe_ifExp (pt_cmpR op_le (pv 7) (pe_ix (r := rIxU K P w) (ix_u (hu16 hr)) (pv 0) pe_int (fun _ _ => rfl)) (nomark _)) (pe_frz (pe_lc (own := [("_law_k", 10)]) (g := (gName 10)) rfl sc__law_turned.nd (pi_list (pv 8)) (blkOk_by (N := N__law_turned) (sc := fnScope s__law_turned) (by decide +kernel)) (fun _ _ _ _ _ => (pg_name (i := 10) sc__law_turned.nd rfl (Or.inl rfl))) (fun _ _ _ _ _ => (pts_one (pt_cmpR (r := rEqU K) (op_eqU (hu64 hr)) (pe_ix (r := rIxU K P w) (ix_u (hu16 hr)) (pv 5) (pv 10) (fun _ _ => rfl)) (pe_ix (r := rIxU K P w) (ix_u (hu16 hr)) (pv 0) pe_int (fun _ _ => rfl)) (nomark _)))) (fun _ _ _ _ _ => (pv 10)))) (pe_frz (pe_lst pa_nil))) pa_nil)))))))))), ?_⟩
  try dsimp only [cxOf, L2.Cx.nox, L2.Cx.wish, L2.Cx.blk]
  refine enter1 h fun x hx => ?_
  change SX _ _ [_, _, _, none, none, none, none, none, none, none, none] [] _
  obtain ⟨w0, t, c0⟩ := x
  obtain ⟨ok, hc⟩ := hx
  dsimp only at ok hc
  have hs : 0 < w0.step := by have := ok.step; omega
  have hl : (c0.ages.map PyData.int).length = c0.ages.length := List.length_map _
  have hal := hc.alen
  have hmk := hc.mark
  have hof := ok.off
  have hst := ok.starts
  have hp : w0.lag > 0 → c0.past ≠ [] := fun h e => by have := hc.plen; rw [e] at this; simp at this; omega
  change SX _ _ [some (.dat w0.d), some (.dat (ruleD t)), some (.dat c0.d), none, none, none, none, none, none, none, none] [] _
  refine sx_seq (sx_asg (ex_var rfl (gx_tup rfl rfl (gsx_cons (gx_name (gsx_cons (gx_name (gsx_cons (gx_name (gsx_cons (gx_name (gsx_nil ?_)))))))))))) 
  refine sx_seq (sx_set (EX.imp (R' := fun c os => c = .dat (.int (if w0.lag > 0 then c0.past.headD 0 else c0.level)) ∧ os = []) ?_ ?_))
  · fail "xs"
    refine ⟨fun hb => ?_, fun hb => ?_⟩
    · have hb' : w0.lag > 0 := of_decide_eq_true hb
      rw [if_pos hb']
      cases hpp : c0.past with
      | nil => exact absurd hpp (hp hb')
      | cons a r =>
        fail "xs"
        exact ⟨rfl, rfl⟩
    · have hb' : ¬ w0.lag > 0 := of_decide_eq_false hb
      rw [if_neg hb']
      fail "xs"
      exact ⟨rfl, rfl⟩
  rintro _ _ ⟨rfl, rfl⟩
  fail "xs"
  refine ⟨by omega, rfl, ?_⟩
  rw [hl]
  have hN : (List.range c0.ages.length).map (fun (i : Nat) => PyData.int i) = ((List.range c0.ages.length).map fun (i : Nat) => ((i : Nat) : Int)).map .int := by
    rw [List.map_map]
    rfl
  rw [hN]
  refine sx_seq (sx_if (tx_test (ex_op (ex_var rfl ?_))))
  fail "xs"
  refine ⟨fun hb => ?_, fun hb => ?_⟩
  · have hb' : w0.on ≤ c0.seen w0 := of_decide_eq_true hb
    have hE : endL w0 c0 = [] := if_neg fun z => by omega
    have hBg : begL w0 t c0 = ((namesL t c0).filter fun n => decide (ageAt c0 n = 0 - w0.rest)).take w0.starts.toNat := if_neg (by omega)
    refine sx_seq (sx_set (EX.imp (R' := fun c os => c = .dat (.list ((namesL t c0).map .int)) ∧ os = []) ?_ ?_))
    · fail "xs"
      refine ⟨fun ht => ?_, fun ht => ?_⟩
      · refine ex_frzT ?_
        fail "xs"
        refine rx_catL rfl rfl ?_ ?_
        · refine Nat.le_trans (Nat.add_le_add (show _ ≤ c0.ages.length from ?_) (show _ ≤ c0.ages.length from ?_)) (Nat.le_trans (show c0.ages.length + c0.ages.length ≤ 12 by omega) (Nat.le_of_ble_eq_true rfl))
          · unfold cutD
            rw [List.length_take, List.length_drop, List.length_map, List.length_map, List.length_range]
            omega
          · unfold cutD
            rw [List.length_take, List.length_drop, List.length_map, List.length_map, List.length_range]
            omega
        refine ⟨_, _, rfl, Nat.zero_le _, rfl, rfl, ?_, rfl⟩
        subst ht
        simp only [if_true] at hmk
        obtain ⟨m, hm⟩ := Int.eq_ofNat_of_zero_le hmk.1
        rw [cut_from hmk.1, cut_to hmk.1, hm, Int.toNat_natCast, ← List.map_drop, ← List.map_take, ← List.map_append, ← List.map_drop, ← List.map_take, ← List.map_append, rot (by omega)]
        unfold namesL
        rw [hm]
        rfl
      · fail "xs"
        refine ⟨?_, rfl⟩
        unfold namesL
        rw [ht]
        rfl
    rintro _ _ ⟨rfl, rfl⟩
    fail "xs"
    refine ex_lcF (tg_name (by decide)) (ix_list (ex_var rfl ⟨_, rfl, rfl, onB fun d => match d with | .int n => decide (ageAt c0 n = 0 - w0.rest) | _ => false, onD id, ?_, ?_, ?_⟩))
    · rw [List.length_map, List.length_map]
      unfold namesL
      rw [List.length_map, List.length_range]
      exact small (k := 6) (by omega) rfl
    · refine each_dat fun i d acc e => gx_name ?_
      rw [List.getElem?_map] at e
      obtain ⟨n, hn, rfl⟩ := Option.map_eq_some_iff.mp e
      have hr := names_range hc n (List.mem_of_getElem? hn)
      change TX _ _ [_, _, _, _, _, _, _, _, _, _, _] _ _
      fail "xs"
      refine rx_ixT rfl (atI_int hr.1 hr.2) ?_
      fail "xs"
      refine ⟨rfl, rfl, fun hb => ?_⟩
      fail "xs"
      exact ⟨rfl, rfl⟩
    · rw [filter_onD]
      fail "xs"
      refine ⟨rfl, ?_⟩
      fail "xs"
      refine ⟨trivial, ?_⟩
      rw [hE, hBg, cut_to (by omega), List.map_id, List.map_take, List.filter_map]
      rfl
  · have hb' : ¬ w0.on ≤ c0.seen w0 := of_decide_eq_false hb
    have hBg : begL w0 t c0 = [] := if_pos (by omega)
    fail "xs"
    refine ⟨fun hb2 => ?_, fun hb2 => ?_⟩
    · have h2 : c0.seen w0 ≤ w0.off := of_decide_eq_true hb2
      have hE : endL w0 c0 = ((List.range c0.ages.length).map fun (i : Nat) => ((i : Nat) : Int)).filter fun n => decide (ageAt c0 n = w0.run) := if_pos ⟨by omega, h2⟩
      refine ex_lcF (tg_name (by decide)) (ix_list (ex_var rfl ⟨_, rfl, rfl, onB fun d => match d with | .int n => decide (ageAt c0 n = w0.run) | _ => false, onD id, ?_, ?_, ?_⟩))
      · rw [List.length_map, List.length_map, List.length_map, List.length_range]
        exact small (k := 6) (by omega) rfl
      · refine each_dat fun i d acc e => gx_name ?_
        rw [List.getElem?_map] at e
        obtain ⟨n, hn, rfl⟩ := Option.map_eq_some_iff.mp e
        have hr : 0 ≤ n ∧ n < (c0.ages.length : Int) := by
          obtain ⟨j, hj, rfl⟩ := List.mem_map.mp (List.mem_of_getElem? hn)
          have := List.mem_range.mp hj
          omega
        change TX _ _ [_, _, _, _, _, _, _, _, _, _, _] _ _
        fail "xs"
        refine rx_ixT rfl (atI_int hr.1 hr.2) ?_
        fail "xs"
        refine ⟨rfl, rfl, fun hb => ?_⟩
        fail "xs"
        exact ⟨rfl, rfl⟩
      · rw [filter_onD]
        fail "xs"
        refine ⟨trivial, ?_⟩
        rw [hE, hBg, List.map_id, List.filter_map]
        rfl
    · have h2 : ¬ c0.seen w0 ≤ w0.off := of_decide_eq_false hb2
      have hE : endL w0 c0 = [] := if_neg fun z => h2 z.2
      fail "xs"
      refine ⟨trivial, ?_⟩
      rw [hE, hBg]
      rfl
end
end Pk
/-! X2 (printed by gen/mk.py) -/
namespace Pk
open PySem PySem.Spec PyProof.Rows L2 C8

local macro_rules | `(tactic| fail "x1") => `(tactic| (first
  | (guard_target =~ EX _ _ _ _ _; first
    | ((with_reducible apply ex_var); exact rfl)
    | with_reducible refine ex_int ?_
    | with_reducible refine ex_op ?_
    | with_reducible refine ex_cb ?_
    | with_reducible refine ex_str ?_
    | with_reducible refine ex_non ?_
    | with_reducible refine ex_bl ?_
    | with_reducible refine ex_ty ?_
    | with_reducible refine ex_call1 ?_
    | with_reducible refine ex_if ?_
    | with_reducible refine ex_and ?_
    | with_reducible refine ex_or ?_
    | with_reducible refine ex_not ?_
    | with_reducible refine ex_chain ?_
    | with_reducible refine ex_tup ?_
    | with_reducible refine ex_lst ?_
    | with_reducible refine ex_append ?_
    | with_reducible refine ex_disp1N ?_
    | with_reducible refine ex_newN ?_
    | with_reducible refine ex_frzV ?_
    | with_reducible refine ex_frzDV ?_
    | with_reducible refine ex_frzL ?_
    | with_reducible refine ex_frzSl ?_
    | with_reducible refine ex_frzRev ?_
    | with_reducible refine ex_frzRg ?_
    | with_reducible refine ex_un ?_
    | with_reducible refine ex_slT ?_
    | with_reducible refine ex_slL ?_
    | fail "stop")
  | (guard_target =~ AX _ _ _ _ _; first
    | with_reducible refine ax_cons ?_
    | with_reducible refine ax_nil ?_
    | fail "stop")
  | (guard_target =~ SX _ _ _ _ _; first
    | with_reducible refine sx_seq ?_
    | with_reducible refine sx_set ?_
    | with_reducible refine sx_if ?_
    | with_reducible refine sx_ret ?_
    | with_reducible refine sx_next ?_
    | with_reducible refine sx_asg ?_
    | with_reducible refine sx_drop ?_
    | with_reducible refine sx_par ?_
    | with_reducible refine sx_par3 ?_
    | ((with_reducible apply sx_aug); exact rfl)
    | fail "stop")
  | (guard_target =~ TX _ _ _ _ _; first
    | with_reducible refine tx_b ?_
    | with_reducible refine tx_test ?_
    | with_reducible refine tx_and ?_
    | with_reducible refine tx_or ?_
    | with_reducible refine tx_not ?_
    | with_reducible refine tx_yes ?_
    | fail "stop")
  | (guard_target =~ RX _ _ _ _ _ _; first
    | with_reducible refine rx_add ?_
    | with_reducible refine rx_sub ?_
    | ((with_reducible apply rx_mod); (first | assumption | omega))
    | ((with_reducible apply rx_mul); (first | assumption | exact .inl ⟨by omega, by omega⟩))
    | with_reducible refine rx_lt ?_
    | with_reducible refine rx_le ?_
    | with_reducible refine rx_gt ?_
    | with_reducible refine rx_ge ?_
    | with_reducible refine rx_isN ?_
    | with_reducible refine rx_notN ?_
    | with_reducible refine rx_eqI ?_
    | with_reducible refine rx_neI ?_
    | with_reducible refine rx_eqRule ?_
    | with_reducible refine rx_eqS ?_
    | with_reducible refine rx_neS ?_
    | ((with_reducible apply rx_ix0); exact rfl; exact rfl)
    | ((with_reducible apply rx_ix1); exact rfl; exact rfl)
    | ((with_reducible apply rx_ix2); exact rfl; exact rfl)
    | ((with_reducible apply rx_ix3); exact rfl; exact rfl)
    | ((with_reducible apply rx_ix4); exact rfl; exact rfl)
    | ((with_reducible apply rx_ix5); exact rfl; exact rfl)
    | ((with_reducible apply rx_ix6); exact rfl; exact rfl)
    | ((with_reducible apply rx_ix7); exact rfl; exact rfl)
    | ((with_reducible apply rx_ix8); exact rfl; exact rfl)
    | ((with_reducible apply rx_ixL0); exact rfl; exact rfl)
    | ((with_reducible apply rx_ixL1); exact rfl; exact rfl)
    | fail "stop")
  | (guard_target =~ BX _ _ _ _ _; first
    | with_reducible refine bx_isInt ?_
    | with_reducible refine bx_isBool ?_
    | with_reducible refine bx_isStr ?_
    | with_reducible refine bx_isTup ?_
    | with_reducible refine bx_intI ?_
    | with_reducible refine bx_intB ?_
    | with_reducible refine bx_min2 ?_
    | with_reducible refine bx_max2 ?_
    | ((with_reducible apply bx_lenT); exact rfl)
    | ((with_reducible apply bx_lenL); exact rfl)
    | ((with_reducible apply bx_lenN); exact rfl)
    | fail "stop")
  | ((with_reducible apply gx_tup); exact rfl; exact rfl)
  | (guard_target =~ GsX _ _ _ _ _ _; first | refine gsx_cons ?_ | refine gsx_nil ?_ | fail "stop")
  | with_reducible refine gx_name ?_
  | with_reducible refine ox_some ?_
  | with_reducible refine ox_none ?_
  | with_reducible refine ux_neg ?_
  | refine ⟨_, rfl, Nat.le_of_ble_eq_true rfl, rfl, ?_⟩
  | refine ⟨_, rfl, Nat.le_of_ble_eq_true rfl, ?_⟩
  | refine ⟨_, _, rfl, rfl, rfl, ?_⟩
  | refine ⟨_, _, rfl, rfl, by assumption, ?_⟩
  | refine ⟨_, _, rfl, rfl, ?_⟩
  | refine ⟨_, _, _, rfl, ?_⟩
  | refine ⟨_, _, rfl, ?_⟩
  | refine ⟨_, rfl, ?_⟩
  | refine ⟨rfl, (_, some _, some _), rfl, trivial, ?_⟩
  | refine ⟨rfl, (_, some _, none), rfl, trivial, ?_⟩
  | refine ⟨rfl, (_, _), rfl, by assumption, ?_⟩
  | refine ⟨rfl, (_, _, _), rfl, by assumption, ?_⟩
  | refine ⟨rfl, (_, _, _, _), rfl, by assumption, ?_⟩
  | ((with_reducible intro c hc); subst hc)
  | refine ⟨fun hb => Bool.noConfusion hb, fun _ => ?_⟩
  | refine ⟨fun _ => ?_, fun hb => Bool.noConfusion hb⟩
  | dsimp only
  | fail "stop"))
local macro_rules | `(tactic| fail "xc") => `(tactic| (first | (refine ⟨fun hb => ?_, fun hb => ?_⟩ <;> first | exact Bool.noConfusion hb | skip) | fail "stop"))
local macro_rules | `(tactic| fail "xs") => `(tactic| repeat fail "x1")
local macro_rules | `(tactic| fail "xx") => `(tactic| repeat' (first | fail "x1" | fail "xc" | fail "stop"))
local macro_rules | `(tactic| fail "wk") => `(tactic| (first | (refine ⟨?_, rfl⟩; repeat (first | exact Wc.nil | refine Wc.keep (by first | exact trivial | exact Nat.le_of_ble_eq_true rfl) ?_ | refine Wc.drop ?_)) | fail "stop"))

section
variable {P : Program} {w : World} {K : PySem.W.Frag} {mg : Str → Option Value} {base : Heap}
abbrev sp__law_beat : Spec := Sp1 (α := Well × Bool × Crew × Int) (fun x => [.dat x.1.d, .dat (ruleD x.2.1), .dat x.2.2.1.d, .dat (.int x.2.2.2)]) (fun x => x.1.Ok ∧ x.2.2.1.Ok x.1 x.2.1) fun x c => ∃ l : List Int, c = .dat (.tuple [stepD x.1 x.2.1 x.2.2.1 x.2.2.2, .tuple ((runL x.1 x.2.1 x.2.2.1).map .int), .tuple (l.map .int)])
theorem cal__law_beat {f : Addr} {fd : FuncData} (T : Tp mg) (F : Def K mg "_law_beat" s__law_beat f fd) (B : Binds K fd ["_law_well_here", "_law_rule", "_law_crew", "_law_inflow"] []) (c__law_turned : Cal P w K mg base 1 "_law_turned" (spX P w K sp__law_turned) []) : Cal P w K mg base 2 "_law_beat" (spX P w K sp__law_beat) [] := by
  refine cal0 F B .nil sc__law_beat (sp1_len fun x => rfl) (fun cdv A outer s H vs Q E hr h => ?_)
  refine ⟨_, (pss_cons (ps_asg (pv 2) (pg_tup rfl (pgs_cons (pg_name (i := 4) sc__law_beat.nd rfl (Or.inl rfl)) (pgs_cons (pg_name (i := 5) sc__law_beat.nd rfl (Or.inl rfl)) (pgs_cons (pg_name (i := 6) sc__law_beat.nd rfl (Or.inl rfl)) (pgs_cons (pg_name (i := 7) sc__law_beat.nd rfl (Or.inl rfl)) pgs_nil)))))) (pss_cons (ps_asg (pe_c c__law_turned hr (by decide) (by rfl) (pa_cons (pv 0) (pa_cons (pv 1) (pa_cons (pv 2) pa_nil)))) (pg_tup rfl (pgs_cons (pg_name (i := 8) sc__law_beat.nd rfl (Or.inl rfl)) (pgs_cons (pg_name (i := 9) sc__law_beat.nd rfl (Or.inl rfl)) pgs_nil)))) (pss_cons (ps_set (i := 10) sc__law_beat.nd rfl (Or.inr rfl) (pe_lst pa_nil)) (pss_cons (ps_for PassesOwn.never rfl (pi_enumT (by rfl) T.b_enumerate (pa_cons (pv 6) pa_nil)) (pg_tup rfl (pgs_cons (pg_name (i := 11) sc__law_beat.nd rfl (Or.inl rfl)) (pgs_cons (pg_name (i := 12) sc__law_beat.nd rfl (Or.inl rfl)) pgs_nil))) (pss_one (ps_if (pt_cmpR (r := rInU K P w false) (op_inU (hu65 hr)) (pv 11) (pv 8) (by rfl)) (pss_one (ps_expr (pe_bm PySem.F.plainAttrs_list PySem.F.slot_list_append PySem.F.type_list_append mt_append (pv 10) (pa_cons pe_int pa_nil)))) (pss_one (ps_if (pt_cmpR (r := rInU K P w false) (op_inU (hu65 hr)) (pv 11) (pv 9) (by rfl)) (pss_one (ps_expr (pe_bm PySem.F.plainAttrs_list PySem.F.slot_list_append PySem.F.type_list_append mt_append (pv 10) (pa_cons (pe_un un_neg pe_int) pa_nil)))) (pss_one (ps_expr (pe_bm PySem.F.plainAttrs_list PySem.F.slot_list_append PySem.F.type_list_append mt_append (pv 10) (pa_cons (pe_ifExp (pt_cmpR op_gt (pv 12) pe_int (nomark _)) (pe_callB (call_min2 rfl) (by rfl) T.b_min bo_min (pa_cons (pe_ix (r := rIxU K P w) (ix_u (hu16 hr)) (pv 0) pe_int (fun _ _ => rfl)) (pa_cons (pe_op op_add (pv 12) pe_int) pa_nil))) (pe_callB (call_max2 rfl) (by rfl) T.b_max bo_max (pa_cons (pe_op op_sub pe_int (pe_ix (r := rIxU K P w) (ix_u (hu16 hr)) (pv 0) pe_int (fun _ _ => rfl))) (pa_cons (pe_op op_sub (pv 12) pe_int) pa_nil)))) pa_nil))))))))) (pss_cons (ps_setLc (i := 13) (own := [("_law_k", 11)]) (g := (gName 11)) rfl sc__law_beat.nd rfl rfl (sw_true rfl rfl rfl (by decide +kernel)) (pi_range1 (by rfl) T.b_range (pa_cons (pe_callB (r := rLenU K P w) call_lenU (by rfl) T.b_len bo_len (pa_cons (pv 6) pa_nil)) pa_nil)) (blkOk_by (N := N__law_beat) (sc := fnScope s__law_beat) (by decide +kernel)) (fun _ _ _ _ _ => (pg_name (i := 11) sc__law_beat.nd rfl (Or.inl rfl))) (fun _ _ _ _ _ => (pts_one (pt_cmpR op_gt (pe_ix (r := rIxU K P w) (ix_u (hu16 hr)) (pv 10) (pv 11) (fun _ _ => rfl)) pe_int (nomark _)))) (fun _ _ _ _ _ => (pv 11))) (pss_cons (ps_set (i := 14) sc__law_beat.nd rfl (Or.inl rfl) (pe_op op_sub (pe_op op_add (pv 4) (pv 3)) (pe_op op_mul (pe_ix (r := rIxU K P w) (ix_u (hu16 hr)) (pv 0) pe_int (fun _ _ => rfl)) (pe_callB (r := rLenU K P w) call_lenU (by rfl) T.b_len bo_len (pa_cons (pv 13) pa_nil))))) (pss_cons (ps_if (PW.pt (pw_and (pt_cmpR (r := rEqU K) (op_eqU (hu64 hr)) (pv 1) pe_str (nomark _)) (pw_and1 (pt_cmpR (r := rNeU K) (op_neU (hu64 hr)) (pv 8) (pe_frz (pe_lst pa_nil)) (nomark _))))) (pss_one (ps_set (i := 7) sc__law_beat.nd rfl (Or.inl rfl) (pe_op op_mod (pe_callTy call_int1 (by rfl) T.b_int bo_int (pa_cons (pe_op op_add (pe_ix (r := rIxU K P w) (ix_u (hu16 hr)) (pv 8) (pe_un un_neg pe_int) (fun _ _ => rfl)) pe_int) pa_nil)) (pe_callB (r := rLenU K P w) call_lenU (by rfl) T.b_len bo_len (pa_cons (pv 6) pa_nil))))) pss_nil) (pss_cons (ps_set (i := 15) sc__law_beat.nd rfl (Or.inl rfl) (pe_tupP (pa_cons (pv 14) (pa_cons (pe_ifExp (pt_cmpR op_gt (pe_ix (r := rIxU K P w) (ix_u (hu16 hr)) (pv 0) pe_int (fun _ _ => rfl)) pe_int (nomark _)) (pe_op (r := rCatP K) op_catP (pe_slice (r := rSlP K) sl_tupP (pv 5) (po_some pe_int) po_none) (pe_tupP (pa_cons (pv 4) pa_nil))) (pe_tupP pa_nil)) (pa_cons (pe_callTy (r := rTupOf K) call_tupOf (by rfl) T.b_tuple bo_tuple (pa_cons (pv 10) pa_nil)) (pa_cons (pv 7) pa_nil)))))) (pss_cons (ps_if (pt_cmpR op_gt (pv 14) (pe_ix (r := rIxU K P w) (ix_u (hu16 hr)) (pv 0) pe_int (fun _ _ => rfl)) (nomark _)) (pss_one (ps_set (i := 15) sc__law_beat.nd rfl (Or.inl rfl) pe_str)) (pss_one (ps_if (pt_cmpR op_lt (pv 14) pe_int (nomark _)) (pss_one (ps_set (i := 15) sc__law_beat.nd rfl (Or.inl rfl) pe_str)) pss_nil))) (pss_one (ps_ret (pe_tupP (pa_cons (pv 15) (pa_cons (pe_callTy (r := rTupOf K) call_tupOf (by rfl) T.b_tuple bo_tuple (pa_cons (pv 13) pa_nil)) (pa_cons (pe_callTy (r := rTupOf K) call_tupOf (by rfl) T.b_tuple bo_tuple (pa_cons (pe_frz (pe_callB cr_sortedI (by rfl) T.b_sorted bo_sorted (pa_cons (pv 8) pa_nil))) pa_nil)) pa_nil))))))))))))))), ?_⟩
  try dsimp only [cxOf, L2.Cx.nox, L2.Cx.wish, L2.Cx.blk]
  refine enter1 h fun x hx => ?_
  change SX _ _ [_, _, _, _, none, none, none, none, none, none, none, none, none, none, none, none] [] _
  obtain ⟨w0, t, c0, x0⟩ := x
  have hx' := hx
  obtain ⟨ok, hc⟩ := hx
  dsimp only at ok hc hx'
  have hd := ok.drain
  have hal := hc.alen
  have hplen := hc.plen
  have hlag := ok.lag
  have hrun := ok.run
  have hl : (c0.ages.map PyData.int).length = c0.ages.length := List.length_map _
  have hpos : (0 : Int) < ((c0.ages.map PyData.int).length : Int) := by rw [List.length_map]; omega
  change SX _ _ [some (.dat w0.d), some (.dat (ruleD t)), some (.dat c0.d), some (.dat (.int x0)), none, none, none, none, none, none, none, none, none, none, none, none] [] _
  fail "xs"
  refine sx_for (ix_enum ?_)
  fail "xs"
  refine ⟨fun i γ os => γ = [some (.dat w0.d), some (.dat (ruleD t)), some (.dat c0.d), some (.dat (.int x0)), some (.dat (.int c0.level)), some (.dat (.tuple (c0.past.map .int))), some (.dat (.tuple (c0.ages.map .int))), some (.dat (.int c0.mark)), some (.dat (.list ((begL w0 t c0).map .int))), some (.dat (.list ((endL w0 c0).map .int))), some (.own 0), none, none, none, none, none] ∧ os = [.lst (((agesL w0 t c0).take i).map .int)], ⟨rfl, rfl⟩, ?_⟩
  rintro i γ1 os2 hi ⟨rfl, rfl⟩
  have hlen : (((agesL w0 t c0).take i).map PyData.int).length < sizeLine := by
    rw [List.length_map, List.length_take, agesL_len]
    exact small (k := 6) (by omega) rfl
  refine ⟨fun hE => ?_, fun c hcc => ?_⟩
  · rw [hE, enumC_len, hl, List.take_of_length_le (by rw [agesL_len]; exact Nat.le_refl _)]
    clear hlen
    refine sx_seq (sx_set (ex_lcO (tg_name (by decide)) (ix_rng1 ?_)))
    fail "xs"
    refine ⟨by omega, by omega, rfl, runQ w0 t c0, idD, ?_, ?_, ?_⟩
    · rw [rngC_len]
      exact small (k := 6) (by omega) rfl
    · refine each_rng fun i acc hi => gx_name ?_
      change TX _ _ [_, _, _, _, _, _, _, _, _, _, _, _, _, _, _, _] _ _
      fail "xs"
      refine rx_ixL rfl (atI_int (ns := agesL w0 t c0) (by omega) (by rw [agesL_len]; omega)) ?_
      fail "xs"
      refine ⟨rfl, rfl, fun hb => ?_⟩
      fail "xs"
      exact ⟨rfl, rfl⟩
    rw [show ((((c0.ages.map PyData.int).length : Nat) : Int).toNat) = c0.ages.length by rw [hl, Int.toNat_natCast], run_rng]
    have hln : c0.level + x0 - w0.drain * ((((runL w0 t c0).map PyData.int).length : Nat) : Int) = later w0 t c0 x0 := by
      rw [List.length_map, run_len]
      rfl
    refine sx_seq (sx_set (EX.imp (R' := fun c os => c = .dat (.int (later w0 t c0 x0)) ∧ os = [.lst ((agesL w0 t c0).map .int), .lst ((runL w0 t c0).map .int)]) ?_ ?_))
    · fail "xs"
      exact ⟨by rw [hln], rfl⟩
    rintro _ _ ⟨rfl, rfl⟩
    refine sx_cut (G := [some (.dat w0.d), some (.dat (ruleD t)), some (.dat c0.d), some (.dat (.int x0)), some (.dat (.int c0.level)), some (.dat (.tuple (c0.past.map .int))), some (.dat (.tuple (c0.ages.map .int))), some (.dat (.int (markL w0 t c0))), some (.dat (.list ((begL w0 t c0).map .int))), some (.dat (.list ((endL w0 c0).map .int))), some (.own 0), none, none, some (.own 1), some (.dat (.int (later w0 t c0 x0))), none]) (O := [.lst ((agesL w0 t c0).map .int), .lst ((runL w0 t c0).map .int)]) ?_ ?_
    · cases t with
      | true =>
        fail "xs"
        refine rx_neD rfl rfl (shaped_ints _) shaped_nil ?_
        rw [eqv_nil]
        fail "xs"
        refine ⟨fun hb => ?_, fun hb => ?_⟩
        · cases hg : (begL w0 true c0).getLast? with
          | none =>
            exfalso
            rw [List.getLast?_eq_none_iff.mp hg] at hb
            exact Bool.noConfusion hb
          | some z =>
            have hm : markL w0 true c0 = (z + 1) % ((c0.ages.map PyData.int).length : Int) := by unfold markL; rw [hg, hl]
            fail "xs"
            refine rx_ixLast (x := .int z) rfl (by rw [List.getLast?_map, hg]; rfl) ?_
            fail "xs"
            rw [hm]
            exact ⟨rfl, rfl⟩
        · have he : begL w0 true c0 = [] := by
            cases h : begL w0 true c0 with
            | nil => rfl
            | cons a l => rw [h] at hb; exact Bool.noConfusion hb
          have hm : markL w0 true c0 = c0.mark := by unfold markL; rw [he]; rfl
          fail "xs"
          rw [hm]
          exact ⟨rfl, rfl⟩
      | false =>
        have hm : markL w0 false c0 = c0.mark := rfl
        fail "xs"
        rw [hm]
        exact ⟨rfl, rfl⟩
    have hcr : ∀ d, d = PyData.tuple (((c0.past ++ [c0.level]).drop 1).map .int) → PyData.tuple [.int (later w0 t c0 x0), d, .tuple ((agesL w0 t c0).map .int), .int (markL w0 t c0)] = Crew.d ⟨later w0 t c0 x0, (c0.past ++ [c0.level]).drop 1, agesL w0 t c0, markL w0 t c0⟩ := fun d e => by rw [e]; rfl
    refine sx_seq (sx_set (EX.imp (R' := fun c os => c = .dat (Crew.d ⟨later w0 t c0 x0, (c0.past ++ [c0.level]).drop 1, agesL w0 t c0, markL w0 t c0⟩) ∧ os = [.lst ((agesL w0 t c0).map .int), .lst ((runL w0 t c0).map .int)]) ?_ ?_))
    · fail "xs"
      refine ⟨fun hb => ?_, fun hb => ?_⟩
      · have hb' : w0.lag > 0 := of_decide_eq_true hb
        fail "xs"
        have hcut : cutD (c0.past.map PyData.int) (some 1) none = (c0.past.drop 1).map .int := by rw [cut_from (by decide), ← List.map_drop]; rfl
        refine rx_cat rfl rfl rfl rfl ?_ ?_
        · rw [hcut, List.length_map, List.length_drop]
          exact Nat.le_trans (show c0.past.length - 1 + 1 ≤ 5 by omega) (Nat.le_of_ble_eq_true rfl)
        fail "xs"
        refine bx_tupL rfl ?_
        fail "xs"
        refine ⟨?_, rfl⟩
        rw [hcr _ (by rw [hcut, past_eq hc ok, if_pos hb', List.map_append]; rfl)]
      · have hb' : ¬ w0.lag > 0 := of_decide_eq_false hb
        fail "xs"
        refine bx_tupL rfl ?_
        fail "xs"
        refine ⟨?_, rfl⟩
        rw [hcr _ (by rw [past_eq hc ok, if_neg hb']; rfl)]
    rintro _ _ ⟨rfl, rfl⟩
    refine sx_cut (G := [some (.dat w0.d), some (.dat (ruleD t)), some (.dat c0.d), some (.dat (.int x0)), some (.dat (.int c0.level)), some (.dat (.tuple (c0.past.map .int))), some (.dat (.tuple (c0.ages.map .int))), some (.dat (.int (markL w0 t c0))), some (.dat (.list ((begL w0 t c0).map .int))), some (.dat (.list ((endL w0 c0).map .int))), some (.own 0), none, none, some (.own 1), some (.dat (.int (later w0 t c0 x0))), some (.dat (stepD w0 t c0 x0))]) (O := [.lst ((agesL w0 t c0).map .int), .lst ((runL w0 t c0).map .int)]) ?_ ?_
    · fail "xs"
      unfold stepD
      refine ⟨fun hb => ?_, fun hb => ?_⟩
      · rw [if_pos (of_decide_eq_true hb)]
        fail "xs"
        exact ⟨rfl, rfl⟩
      rw [if_neg (of_decide_eq_false hb)]
      fail "xs"
      refine ⟨fun hb => ?_, fun hb => ?_⟩
      · rw [if_pos (of_decide_eq_true hb)]
        fail "xs"
        exact ⟨rfl, rfl⟩
      · rw [if_neg (of_decide_eq_false hb)]
        fail "xs"
        exact ⟨rfl, rfl⟩
    fail "xs"
    refine bx_tupL rfl ?_
    fail "xs"
    refine ex_frzB (ax_cons (ex_var rfl (ax_nil ⟨rfl, fun ds => ∃ es : List Int, ds = es.map .int, bx_sortI rfl (fun es hp => ⟨_, rfl, rfl, es, rfl⟩), fun ds hds => ?_⟩)))
    obtain ⟨es, rfl⟩ := hds
    fail "xs"
    refine bx_tupL rfl ?_
    fail "xs"
    exact ⟨trivial, es, rfl⟩
  · obtain ⟨d, e1, rfl⟩ := enum_at hcc
    obtain ⟨a, e2, rfl⟩ := map_at e1
    have e3 := take_map_succ (f := PyData.int) (ages_at (w := w0) (t := t) e2)
    have hend := end_iff ok e2
    have fin : ∀ z : Int, (if ((i : Nat) : Int) ∈ begL w0 t c0 then 1 else age1 w0 (decide (c0.seen w0 ≤ w0.off)) a) = z → (List.map PyData.int (List.take (i + 1) (agesL w0 t c0))) = List.map PyData.int (List.take i (agesL w0 t c0)) ++ [PyData.int z] := fun z hz => by rw [e3, hz]
    fail "xs"
    refine rx_inI (.inl rfl) ?_
    fail "xs"
    refine ⟨fun hb => ?_, fun hb => ?_⟩
    · fail "xs"
      refine ⟨_, _, ⟨rfl, rfl⟩, ?_⟩
      rw [fin 1 (if_pos (of_decide_eq_true hb))]
      fail "wk"
    have h1 := of_decide_eq_false hb
    fail "xs"
    refine rx_inI (.inl rfl) ?_
    fail "xs"
    refine ⟨fun hb2 => ?_, fun hb2 => ?_⟩
    · obtain ⟨q1, q2⟩ := hend.mp (of_decide_eq_true hb2)
      fail "xs"
      refine ⟨_, _, ⟨rfl, rfl⟩, ?_⟩
      rw [fin (-1) (by rw [if_neg h1]; unfold age1; rw [if_pos (by omega), decide_eq_true q1, decide_eq_true q2]; rfl)]
      fail "wk"
    have h2 : ¬ (c0.seen w0 ≤ w0.off ∧ a = w0.run) := fun z => of_decide_eq_false hb2 (hend.mpr z)
    have h3 : (decide (c0.seen w0 ≤ w0.off) && decide (a = w0.run)) = false := by
      rw [Bool.and_eq_false_iff]
      by_cases q : c0.seen w0 ≤ w0.off
      · exact .inr (decide_eq_false fun z => h2 ⟨q, z⟩)
      · exact .inl (decide_eq_false q)
    fail "xs"
    refine ⟨fun hg => ?_, fun hg => ?_⟩
    · have h4 := of_decide_eq_true hg
      fail "xs"
      refine ⟨_, _, ⟨rfl, rfl⟩, ?_⟩
      rw [fin (if a + 1 < w0.run then a + 1 else w0.run) (by rw [if_neg h1]; unfold age1; rw [if_pos h4, h3]; simp only [Bool.false_eq_true, if_false]; omega)]
      fail "wk"
    · have h4 := of_decide_eq_false hg
      fail "xs"
      refine ⟨_, _, ⟨rfl, rfl⟩, ?_⟩
      rw [fin (if a - 1 > 0 - w0.rest then a - 1 else 0 - w0.rest) (by rw [if_neg h1]; unfold age1; rw [if_neg h4]; omega)]
      fail "wk"
end
end Pk
/-! X3 (printed by gen/mk.py) -/
namespace Pk
open PySem PySem.Spec PyProof.Rows L2 C8

local macro_rules | `(tactic| fail "x1") => `(tactic| (first
  | (guard_target =~ EX _ _ _ _ _; first
    | ((with_reducible apply ex_var); exact rfl)
    | with_reducible refine ex_int ?_
    | with_reducible refine ex_op ?_
    | with_reducible refine ex_cb ?_
    | with_reducible refine ex_str ?_
    | with_reducible refine ex_non ?_
    | with_reducible refine ex_bl ?_
    | with_reducible refine ex_ty ?_
    | with_reducible refine ex_call1 ?_
    | with_reducible refine ex_if ?_
    | with_reducible refine ex_and ?_
    | with_reducible refine ex_or ?_
    | with_reducible refine ex_not ?_
    | with_reducible refine ex_chain ?_
    | with_reducible refine ex_tup ?_
    | with_reducible refine ex_lst ?_
    | with_reducible refine ex_append ?_
    | with_reducible refine ex_disp1N ?_
    | with_reducible refine ex_newN ?_
    | with_reducible refine ex_frzV ?_
    | with_reducible refine ex_frzDV ?_
    | with_reducible refine ex_frzL ?_
    | with_reducible refine ex_frzSl ?_
    | with_reducible refine ex_frzRev ?_
    | with_reducible refine ex_frzRg ?_
    | with_reducible refine ex_un ?_
    | with_reducible refine ex_slT ?_
    | with_reducible refine ex_slL ?_
    | fail "stop")
  | (guard_target =~ AX _ _ _ _ _; first
    | with_reducible refine ax_cons ?_
    | with_reducible refine ax_nil ?_
    | fail "stop")
  | (guard_target =~ SX _ _ _ _ _; first
    | with_reducible refine sx_seq ?_
    | with_reducible refine sx_set ?_
    | with_reducible refine sx_if ?_
    | with_reducible refine sx_ret ?_
    | with_reducible refine sx_next ?_
    | with_reducible refine sx_asg ?_
    | with_reducible refine sx_drop ?_
    | with_reducible refine sx_par ?_
    | with_reducible refine sx_par3 ?_
    | ((with_reducible apply sx_aug); exact rfl)
    | fail "stop")
  | (guard_target =~ TX _ _ _ _ _; first
    | with_reducible refine tx_b ?_
    | with_reducible refine tx_test ?_
    | with_reducible refine tx_and ?_
    | with_reducible refine tx_or ?_
    | with_reducible refine tx_not ?_
    | with_reducible refine tx_yes ?_
    | fail "stop")
  | (guard_target =~ RX _ _ _ _ _ _; first
    | with_reducible refine rx_add ?_
    | with_reducible refine rx_sub ?_
    | ((with_reducible apply rx_mod); (first | assumption | omega))
    | ((with_reducible apply rx_mul); (first | assumption | exact .inl ⟨by omega, by omega⟩))
    | with_reducible refine rx_lt ?_
    | with_reducible refine rx_le ?_
    | with_reducible refine rx_gt ?_
    | with_reducible refine rx_ge ?_
    | with_reducible refine rx_isN ?_
    | with_reducible refine rx_notN ?_
    | with_reducible refine rx_eqI ?_
    | with_reducible refine rx_neI ?_
    | with_reducible refine rx_eqRule ?_
    | with_reducible refine rx_eqS ?_
    | with_reducible refine rx_neS ?_
    | ((with_reducible apply rx_ix0); exact rfl; exact rfl)
    | ((with_reducible apply rx_ix1); exact rfl; exact rfl)
    | ((with_reducible apply rx_ix2); exact rfl; exact rfl)
    | ((with_reducible apply rx_ix3); exact rfl; exact rfl)
    | ((with_reducible apply rx_ix4); exact rfl; exact rfl)
    | ((with_reducible apply rx_ix5); exact rfl; exact rfl)
    | ((with_reducible apply rx_ix6); exact rfl; exact rfl)
    | ((with_reducible apply rx_ix7); exact rfl; exact rfl)
    | ((with_reducible apply rx_ix8); exact rfl; exact rfl)
    | ((with_reducible apply rx_ixL0); exact rfl; exact rfl)
    | ((with_reducible apply rx_ixL1); exact rfl; exact rfl)
    | fail "stop")
  | (guard_target =~ BX _ _ _ _ _; first
    | with_reducible refine bx_isInt ?_
    | with_reducible refine bx_isBool ?_
    | with_reducible refine bx_isStr ?_
    | with_reducible refine bx_isTup ?_
    | with_reducible refine bx_intI ?_
    | with_reducible refine bx_intB ?_
    | with_reducible refine bx_min2 ?_
    | with_reducible refine bx_max2 ?_
    | ((with_reducible apply bx_lenT); exact rfl)
    | ((with_reducible apply bx_lenL); exact rfl)
    | ((with_reducible apply bx_lenN); exact rfl)
    | fail "stop")
  | ((with_reducible apply gx_tup); exact rfl; exact rfl)
  | (guard_target =~ GsX _ _ _ _ _ _; first | refine gsx_cons ?_ | refine gsx_nil ?_ | fail "stop")
  | with_reducible refine gx_name ?_
  | with_reducible refine ox_some ?_
  | with_reducible refine ox_none ?_
  | with_reducible refine ux_neg ?_
  | refine ⟨_, rfl, Nat.le_of_ble_eq_true rfl, rfl, ?_⟩
  | refine ⟨_, rfl, Nat.le_of_ble_eq_true rfl, ?_⟩
  | refine ⟨_, _, rfl, rfl, rfl, ?_⟩
  | refine ⟨_, _, rfl, rfl, by assumption, ?_⟩
  | refine ⟨_, _, rfl, rfl, ?_⟩
  | refine ⟨_, _, _, rfl, ?_⟩
  | refine ⟨_, _, rfl, ?_⟩
  | refine ⟨_, rfl, ?_⟩
  | refine ⟨rfl, (_, some _, some _), rfl, trivial, ?_⟩
  | refine ⟨rfl, (_, some _, none), rfl, trivial, ?_⟩
  | refine ⟨rfl, (_, _), rfl, by assumption, ?_⟩
  | refine ⟨rfl, (_, _, _), rfl, by assumption, ?_⟩
  | refine ⟨rfl, (_, _, _, _), rfl, by assumption, ?_⟩
  | ((with_reducible intro c hc); subst hc)
  | refine ⟨fun hb => Bool.noConfusion hb, fun _ => ?_⟩
  | refine ⟨fun _ => ?_, fun hb => Bool.noConfusion hb⟩
  | dsimp only
  | fail "stop"))
local macro_rules | `(tactic| fail "xc") => `(tactic| (first | (refine ⟨fun hb => ?_, fun hb => ?_⟩ <;> first | exact Bool.noConfusion hb | skip) | fail "stop"))
local macro_rules | `(tactic| fail "xs") => `(tactic| repeat fail "x1")
local macro_rules | `(tactic| fail "xx") => `(tactic| repeat' (first | fail "x1" | fail "xc" | fail "stop"))
local macro_rules | `(tactic| fail "wk") => `(tactic| (first | (refine ⟨?_, rfl⟩; repeat (first | exact Wc.nil | refine Wc.keep (by first | exact trivial | exact Nat.le_of_ble_eq_true rfl) ?_ | refine Wc.drop ?_)) | fail "stop"))

section
variable {P : Program} {w : World} {K : PySem.W.Frag} {mg : Str → Option Value} {base : Heap}
abbrev LlA : Type := Well × Bool × Crew × List PyData × Int × Int × Int × Int
abbrev llA (x : LlA) : List Cl := [.dat x.1.d, .dat (ruleD x.2.1), .dat x.2.2.1.d, .dat (.tuple x.2.2.2.1), .dat (.int x.2.2.2.2.1), .dat (.int x.2.2.2.2.2.1), .dat (.int x.2.2.2.2.2.2.1), .dat (.int x.2.2.2.2.2.2.2)]
abbrev sp__law_led : Spec := Sp1 (α := LlA) llA (fun x => x.1.Ok ∧ x.2.2.1.Ok x.1 x.2.1) fun x c => c = .dat (ledD (ledF x.1 x.2.1 x.2.2.2.2.1 x.2.2.2.2.2.1 x.2.2.2.2.2.2.1 x.2.2.2.2.2.2.2 x.2.2.1 0 x.2.2.2.1))
theorem cal__law_led {f : Addr} {fd : FuncData} (T : Tp mg) (F : Def K mg "_law_led" s__law_led f fd) (B : Binds K fd ["_law_well_here", "_law_rule", "_law_crew", "_law_row", "_law_low", "_law_high", "_law_one", "_law_other"] []) (c__law_beat : Cal P w K mg base 2 "_law_beat" (spX P w K sp__law_beat) []) (c__law_gain : Cal P w K mg base 1 "_law_gain" (spX P w K sp__law_gain) []) : Cal P w K mg base 3 "_law_led" (spX P w K sp__law_led) [] := by
  refine cal0 F B .nil sc__law_led (sp1_len fun x => rfl) (fun cdv A outer s H vs Q E hr h => ?_)
  refine ⟨_, (pss_cons (ps_set (i := 8) sc__law_led.nd rfl (Or.inl rfl) pe_int) (pss_cons (ps_for PassesOwn.never rfl (pi_tup (pv 3)) (pg_name (i := 9) sc__law_led.nd rfl (Or.inl rfl)) (pss_cons (ps_if (PW.pt (pw_or (pt_not (pt_val (pe_callB (r := rIsi K) call_isi (by rfl) T.b_isinstance bo_isinstance (pa_cons (pv 9) (pa_cons (pe_bltn (v := .ty "int") (u := .type "int") (by rfl) T.b_int bo_int rfl) pa_nil))))) (pw_or (pt_val (pe_callB (r := rIsi K) call_isi (by rfl) T.b_isinstance bo_isinstance (pa_cons (pv 9) (pa_cons (pe_bltn (v := .ty "bool") (u := .type "bool") (by rfl) T.b_bool bo_bool rfl) pa_nil)))) (pw_or1 (pt_not (pt_chain op_le op_le (pv 4) (pv 9) (pv 5))))))) (pss_one (ps_ret pe_non)) pss_nil) (pss_cons (ps_asg (pe_c c__law_beat hr (by decide) (by rfl) (pa_cons (pv 0) (pa_cons (pv 1) (pa_cons (pv 2) (pa_cons (pv 9) pa_nil))))) (pg_tup rfl (pgs_cons (pg_name (i := 10) sc__law_led.nd rfl (Or.inl rfl)) (pgs_cons (pg_name (i := 11) sc__law_led.nd rfl (Or.inl rfl)) (pgs_cons (pg_name (i := 12) sc__law_led.nd rfl (Or.inl rfl)) pgs_nil))))) (pss_cons (ps_if (pt_val (pe_callB (r := rIsi K) call_isi (by rfl) T.b_isinstance bo_isinstance (pa_cons (pv 10) (pa_cons (pe_bltn (v := .ty "str") (u := .type "str") (by rfl) T.b_str bo_str rfl) pa_nil)))) (pss_one (ps_ret pe_non)) pss_nil) (pss_one (ps_par (i := 2) (j := 8) (by rfl) sc__law_led.nd rfl rfl (by decide) rfl rfl (pa_cons (pv 10) (pa_cons (pe_op op_add (pv 8) (pe_c c__law_gain hr (by decide) (by rfl) (pa_cons (pv 11) (pa_cons (pv 6) (pa_cons (pv 7) pa_nil))))) pa_nil)) (by rfl))))))) (pss_one (ps_ret (pe_tupP (pa_cons (pv 2) (pa_cons (pv 8) pa_nil))))))), ?_⟩
  try dsimp only [cxOf, L2.Cx.nox, L2.Cx.wish, L2.Cx.blk]
  refine enter1 h fun x hx => ?_
  change SX _ _ [_, _, _, _, _, _, _, _, none, none, none, none, none] [] _
  obtain ⟨w0, t, c0, row, lo, hi, one, other⟩ := x
  obtain ⟨ok, hc⟩ := hx
  dsimp only at ok hc
  change SX _ _ [some (.dat w0.d), some (.dat (ruleD t)), some (.dat c0.d), some (.dat (.tuple row)), some (.dat (.int lo)), some (.dat (.int hi)), some (.dat (.int one)), some (.dat (.int other)), none, none, none, none, none] [] _
  fail "xs"
  refine sx_for (ix_tup (ex_var rfl ⟨_, rfl, fun i γ os => ∃ c1 s, Crew.Ok w0 t c1 ∧ ledF w0 t lo hi one other c0 0 row = ledF w0 t lo hi one other c1 s (row.drop i) ∧ γ = [some (.dat w0.d), some (.dat (ruleD t)), some (.dat c1.d), some (.dat (.tuple row)), some (.dat (.int lo)), some (.dat (.int hi)), some (.dat (.int one)), some (.dat (.int other)), some (.dat (.int s)), none, none, none, none] ∧ os = [], ⟨c0, 0, hc, rfl, rfl, rfl⟩, ?_⟩))
  rintro i γ1 os1 hi1 ⟨c1, s, h1, he, rfl, rfl⟩
  refine ⟨fun hE => ?_, fun c hcc => ?_⟩
  · rw [List.length_map] at hE
    rw [List.drop_eq_nil_of_le (Nat.le_of_eq hE.symm)] at he
    fail "xs"
    refine ⟨trivial, ?_⟩
    rw [he]
    rfl
  · obtain ⟨d, e1, rfl⟩ := dat_at hcc
    obtain ⟨hlt, e2⟩ := List.getElem?_eq_some_iff.mp e1
    rw [List.drop_eq_getElem_cons hlt, e2] at he
    have hno : (∀ x, d = .int x → ¬ (lo ≤ x ∧ x ≤ hi)) → ledF w0 t lo hi one other c0 0 row = none := fun h => by
      rw [he]
      unfold ledF
      cases d with
      | int x => exact if_neg (h x rfl)
      | _ => rfl
    refine gx_name ?_
    cases d with
    | int x =>
      have out : ¬ (lo ≤ x ∧ x ≤ hi) → ImC (Cl.dat .none) ∧ Cl.dat .none = Cl.dat (ledD (ledF w0 t lo hi one other c0 0 row)) := fun h => ⟨trivial, by
        rw [hno fun y hy hr => by cases hy; exact h hr]
        rfl⟩
      have inn : lo ≤ x ∧ x ≤ hi → ledF w0 t lo hi one other c0 0 row = match nextC w0 t c1 x with
          | some c' => ledF w0 t lo hi one other c' (s + gainL w0 t c1 one other) (row.drop (i + 1))
          | none => none := fun hr => by
        rw [he]
        exact if_pos hr
      refine sx_seq (sx_if (TX.imp (R' := fun b os => b = !(decide (lo ≤ x ∧ x ≤ hi)) ∧ os = []) ?_ ?_))
      · fail "xs"
        refine ⟨fun hb => ?_, fun hb => ?_⟩
        · fail "xs"
          refine ⟨?_, rfl⟩
          have := of_decide_eq_true hb
          simp [this]
        · fail "xs"
          refine ⟨?_, rfl⟩
          have := of_decide_eq_false hb
          simp [this]
      rintro _ _ ⟨rfl, rfl⟩
      refine ⟨fun hb => ?_, fun hb => ?_⟩
      · fail "xs"
        exact out (of_decide_eq_false (by simpa only [Bool.not_eq_true'] using hb))
      have he' := inn (of_decide_eq_true (by simpa only [Bool.not_eq_false'] using hb))
      fail "xs"
      refine ⟨rfl, (w0, t, c1, x), rfl, ⟨ok, h1⟩, ?_⟩
      rintro c ⟨l, rfl⟩
      dsimp only
      cases hn : nextC w0 t c1 x with
      | none =>
        rw [hn] at he'
        have hleaf : ImC (Cl.dat .none) ∧ Cl.dat .none = Cl.dat (ledD (ledF w0 t lo hi one other c0 0 row)) := ⟨trivial, by rw [he']; rfl⟩
        rcases step_none hn with e | e <;> rw [e]
        · fail "xs"
          exact hleaf
        · fail "xs"
          exact hleaf
      | some c' =>
        rw [hn] at he'
        rw [step_some hn]
        fail "xs"
        refine ⟨rfl, (runL w0 t c1, one, other), rfl, trivial, ?_⟩
        rintro c rfl
        fail "xs"
        exact ⟨_, _, ⟨c', _, next_ok ok h1 hn, he', rfl, rfl⟩, by fail "wk"⟩
    | _ =>
      fail "xs"
      exact ⟨trivial, by rw [hno fun x hx => by cases hx]; rfl⟩
structure LgI (w : Well) (t : Bool) (lo hi : Int) (r : Crew) (m : List (Crew × PyData)) (wl : List Crew) : Prop where
  nd : (m.map (·.1)).Nodup
  len : m.length ≤ 60
  okk : ∀ k ∈ m.map (·.1), k.Ok w t
  okw : ∀ k ∈ wl, k.Ok w t
  root : r ∈ m.map (·.1) ∨ r ∈ wl
  clo : ∀ k ∈ m.map (·.1), ∀ x c', lo ≤ x → x ≤ hi → nextC w t k x = some c' → c' ∈ m.map (·.1) ∨ c' ∈ wl
theorem LgI.done {w : Well} {t : Bool} {lo hi : Int} {r : Crew} {m : List (Crew × PyData)} (g : LgI w t lo hi r m []) : ∃ S, r ∈ S ∧ Bnd w t lo hi S := by
  refine ⟨m.map (·.1), g.root.elim id (fun h => nomatch h), by rw [List.length_map]; exact g.len, g.okk, fun k hk p hp => ?_⟩
  obtain ⟨h1, h2, h3⟩ := stepL_mem hp
  exact (g.clo k hk p.1 p.2 h1 h2 h3).elim id fun h => nomatch h
abbrev sp__law_graph : Spec := Sp1 (α := StepA) (fun x => stepA x ++ [.dat (.int 60)]) (fun x => StepP x.1 x.2.1 x.2.2.1 x.2.2.2.1 x.2.2.2.2 ∧ x.2.2.2.2 ≤ x.2.2.2.1 + 1) fun x c => c = .dat .none ∨ (∃ m, c = .fd m) ∧ ∃ S, x.2.2.1 ∈ S ∧ Bnd x.1 x.2.1 x.2.2.2.1 x.2.2.2.2 S
theorem cal__law_graph {f : Addr} {fd : FuncData} (T : Tp mg) (F : Def K mg "_law_graph" s__law_graph f fd) (B : Binds K fd ["_law_well_here", "_law_rule", "_law_crew", "_law_low", "_law_high", "_law_limit"] []) (c__law_beat : Cal P w K mg base 2 "_law_beat" (spX P w K sp__law_beat) []) : Cal P w K mg base 3 "_law_graph" (spX P w K sp__law_graph) [] := by
  refine cal0 F B .nil sc__law_graph (sp1_len fun x => rfl) (fun cdv A outer s H vs Q E hr h => ?_)
  refine ⟨_, (pss_cons (ps_par (i := 6) (j := 7) (by rfl) sc__law_graph.nd rfl rfl (by decide) rfl rfl (pa_cons pe_newN (pa_cons (pe_lst (pa_cons (pv 2) pa_nil)) pa_nil)) (by rfl)) (pss_cons (ps_while PassesOwn.never (pt_cmpR (r := rNeU K) (op_neU (hu64 hr)) (pv 7) (pe_frz (pe_lst pa_nil)) (nomark _)) (pss_cons (ps_set (i := 8) sc__law_graph.nd rfl (Or.inl rfl) (pe_bm0 PySem.F.plainAttrs_list PySem.F.slot_list_pop PySem.F.type_list_pop mt_pop (pv 7))) (pss_one (ps_if (pt_cmpR (r := rInU K P w true) (op_notInU (hu65 hr)) (pv 8) (pv 6) (by rfl)) (pss_cons (ps_par (i := 9) (j := 10) (by rfl) sc__law_graph.nd rfl rfl (by decide) rfl rfl (pa_cons (pe_lst pa_nil) (pa_cons (pe_tupP pa_nil) pa_nil)) (by rfl)) (pss_cons (ps_for PassesOwn.never rfl (pi_range2 (by rfl) T.b_range (pa_cons (pv 3) (pa_cons (pe_op op_add (pv 4) pe_int) pa_nil))) (pg_name (i := 11) sc__law_graph.nd rfl (Or.inl rfl)) (pss_cons (ps_asg (pe_c c__law_beat hr (by decide) (by rfl) (pa_cons (pv 0) (pa_cons (pv 1) (pa_cons (pv 8) (pa_cons (pv 11) pa_nil))))) (pg_tup rfl (pgs_cons (pg_name (i := 12) sc__law_graph.nd rfl (Or.inl rfl)) (pgs_cons (pg_name (i := 10) sc__law_graph.nd rfl (Or.inl rfl)) (pgs_cons (pg_name (i := 13) sc__law_graph.nd rfl (Or.inl rfl)) pgs_nil))))) (pss_one (ps_if (pt_not (pt_val (pe_callB (r := rIsi K) call_isi (by rfl) T.b_isinstance bo_isinstance (pa_cons (pv 12) (pa_cons (pe_bltn (v := .ty "str") (u := .type "str") (by rfl) T.b_str bo_str rfl) pa_nil))))) (pss_cons (ps_expr (pe_bm PySem.F.plainAttrs_list PySem.F.slot_list_append PySem.F.type_list_append mt_append (pv 9) (pa_cons (pe_tupP (pa_cons (pv 11) (pa_cons (pv 12) pa_nil))) pa_nil))) (pss_one (ps_expr (pe_bm PySem.F.plainAttrs_list PySem.F.slot_list_append PySem.F.type_list_append mt_append (pv 7) (pa_cons (pv 12) pa_nil))))) pss_nil)))) (pss_cons (ps_asg (pe_tupP (pa_cons (pe_frz (pv 9)) (pa_cons (pv 10) pa_nil))) (pg_sub (pv 6) (pv 8) (set_u (hu16 hr)))) (pss_one (ps_if (pt_cmpR op_gt (pe_callB (r := rLenU K P w) call_lenU (by rfl) T.b_len bo_len (pa_cons (pv 6) pa_nil)) (pv 5) (nomark _)) (pss_one (ps_ret pe_non)) pss_nil))))) pss_nil)))) (pss_one (ps_ret (pe_frzD (pv 6)))))), ?_⟩
  try dsimp only [cxOf, L2.Cx.nox, L2.Cx.wish, L2.Cx.blk]
  refine enter1 h fun x hx => ?_
  change SX _ _ [_, _, _, _, _, _, none, none, none, none, none, none, none, none] [] _
  obtain ⟨w0, t, c0, lo, hi⟩ := x
  obtain ⟨hst, hgap⟩ := hx
  dsimp only at hst hgap
  have ok := hst.ok
  have hsp := hst.sp
  change SX _ _ [some (.dat w0.d), some (.dat (ruleD t)), some (.dat c0.d), some (.dat (.int lo)), some (.dat (.int hi)), some (.dat (.int 60)), none, none, none, none, none, none, none, none] [] _
  fail "xs"
  refine sx_while ⟨fun n γ os => ∃ m wl, LgI w0 t lo hi c0 m wl ∧ n = 3 * (61 - m.length) + wl.length ∧ n ≤ 184 ∧ γ = [some (.dat w0.d), some (.dat (ruleD t)), some (.dat c0.d), some (.dat (.int lo)), some (.dat (.int hi)), some (.dat (.int 60)), some (.own 0), some (.own 1), none, none, none, none, none, none] ∧ os = [.dic m, .lst (wl.map Crew.d)], ⟨_, [], [c0], ?_, rfl, by simp, rfl, rfl⟩, ?_⟩
  · exact ⟨List.nodup_nil, Nat.zero_le _, (fun _ h => nomatch h), fun k hk => by rw [List.mem_singleton.mp hk]; exact hst.cr, .inr (by simp), (fun _ h => nomatch h)⟩
  rintro n γ1 os1 ⟨m, wl, g, rfl, hn, rfl, rfl⟩
  fail "xs"
  refine rx_neD rfl rfl (shaped_crews wl) shaped_nil ?_
  rw [eqv_nil]
  fail "xs"
  rcases List.eq_nil_or_concat wl with rfl | ⟨wl', u, rfl⟩
  · fail "xs"
    exact ⟨trivial, .inr ⟨⟨m, rfl⟩, g.done⟩⟩
  rw [List.concat_eq_append] at g hn ⊢
  rw [List.length_append, List.length_singleton] at hn ⊢
  have hu := g.okw u (by simp)
  have hdl : ((wl' ++ [u]).map Crew.d).dropLast = wl'.map Crew.d := by simp
  refine ⟨fun _ => ?_, fun hb => by simp at hb⟩
  refine sx_seq (sx_set (ex_pop (ex_var rfl ⟨_, _, u.d, rfl, rfl, by simp, ?_⟩)))
  rw [hdl]
  fail "xs"
  refine rx_notInN rfl ?_
  by_cases hin : u ∈ m.map (·.1)
  · rw [look_some.mpr hin]
    fail "xs"
    refine ⟨_, _, ⟨_, ?_, m, wl', ?_, rfl, ?_, rfl, rfl⟩, by fail "wk"⟩
    · omega
    · refine ⟨g.nd, g.len, g.okk, fun k hk => g.okw k (List.mem_append_left _ hk), ?_, fun k hk x c' h1 h2 h3 => ?_⟩
      · rcases g.root with h | h
        · exact .inl h
        · rcases List.mem_append.mp h with h | h
          · exact .inr h
          · rw [List.mem_singleton.mp h]; exact .inl hin
      · rcases g.clo k hk x c' h1 h2 h3 with h | h
        · exact .inl h
        · rcases List.mem_append.mp h with h | h
          · exact .inr h
          · rw [List.mem_singleton.mp h]; exact .inl hin
    · omega
  have hnn : (look m u).isSome = false := by
    cases h : (look m u).isSome with
    | false => rfl
    | true => exact absurd (look_some.mp h) hin
  rw [hnn]
  have hlm := g.len
  fail "xs"
  refine sx_for (ix_rng2 ?_)
  fail "xs"
  refine ⟨⟨by omega, by omega, by omega, by omega⟩, fun j γ os => ∃ (wl2 : List Crew) (sd : List PyData) (rl : List Int), (∀ k ∈ wl', k ∈ wl2) ∧ (∀ k ∈ wl2, k.Ok w0 t) ∧ wl2.length ≤ wl'.length + j ∧ sd.length ≤ j ∧ (∀ x c', lo ≤ x → x < lo + (j : Nat) → nextC w0 t u x = some c' → c' ∈ wl2) ∧ γ = [some (.dat w0.d), some (.dat (ruleD t)), some (.dat c0.d), some (.dat (.int lo)), some (.dat (.int hi)), some (.dat (.int 60)), some (.own 0), some (.own 1), some (.dat u.d), some (.own 2), some (.dat (.tuple (rl.map .int))), none, none, none] ∧ os = [.dic m, .lst (wl2.map Crew.d), .lst sd], ⟨wl', [], [], fun _ h => h, fun k hk => g.okw k (List.mem_append_left _ hk), Nat.le_refl _, Nat.le_refl _, fun x c' h1 h2 => by exfalso; simp at h2; omega, rfl, rfl⟩, ?_⟩
  rintro j γ1 os1 hj ⟨wl2, sd, rl, hsub, hok2, hl2, hsd, hcl, rfl, rfl⟩
  rw [rngC_len] at hj
  refine ⟨fun hE => ?_, fun c hcc => ?_⟩
  · rw [rngC_len] at hE
    have hz : m.length < sizeLine := small (k := 60) hlm rfl
    refine sx_seq (sx_asg (ex_tup (ax_cons (ex_frz ?_))))
    fail "xs"
    refine gx_subN (ex_var rfl (ex_var rfl ⟨_, _, u, _, rfl, rfl, rfl, rfl, hz, ?_⟩))
    generalize hm' : put m u (.tuple [.list sd, .tuple (rl.map .int)]) = m'
    have hk' : m'.map (·.1) = m.map (·.1) ++ [u] := by rw [← hm', keys_put, hnn]; rfl
    have hlen' : m'.length = m.length + 1 := by
      have := congrArg List.length hk'
      rw [List.length_map, List.length_append, List.length_map] at this
      exact this
    fail "xs"
    refine ⟨fun hb => ?_, fun hb => ?_⟩
    · fail "xs"
      exact ⟨trivial, .inl rfl⟩
    · have h60 : m'.length ≤ 60 := by
        have := of_decide_eq_false hb
        omega
      fail "xs"
      refine ⟨_, _, ⟨_, ?_, m', wl2, ?_, rfl, ?_, rfl, rfl⟩, by fail "wk"⟩
      · omega
      · refine ⟨?_, h60, fun k hk => ?_, hok2, ?_, fun k hk x c' h1 h2 h3 => ?_⟩
        · rw [hk', List.nodup_append]
          refine ⟨g.nd, List.nodup_cons.mpr ⟨by simp, List.nodup_nil⟩, fun a ha b hb => ?_⟩
          rw [List.mem_singleton.mp hb]
          rintro rfl
          exact hin ha
        · rw [hk'] at hk
          rcases List.mem_append.mp hk with hk | hk
          · exact g.okk k hk
          · rw [List.mem_singleton.mp hk]; exact hu
        · rw [hk']
          rcases g.root with h | h
          · exact .inl (List.mem_append_left _ h)
          · rcases List.mem_append.mp h with h | h
            · exact .inr (hsub _ h)
            · exact .inl (List.mem_append_right _ h)
        · rw [hk'] at hk ⊢
          rcases List.mem_append.mp hk with hk | hk
          · rcases g.clo k hk x c' h1 h2 h3 with h | h
            · exact .inl (List.mem_append_left _ h)
            · rcases List.mem_append.mp h with h | h
              · exact .inr (hsub _ h)
              · exact .inl (List.mem_append_right _ h)
          · rw [List.mem_singleton.mp hk] at h3
            exact .inr (hcl x c' h1 (by omega) h3)
      · omega
  · obtain ⟨hjn, rfl⟩ := rng_at hcc
    have hz1 : (wl2.map Crew.d).length < sizeLine := by rw [List.length_map]; exact small (k := 200) (by omega) rfl
    have hz2 : sd.length < sizeLine := small (k := 2) (by omega) rfl
    fail "xs"
    refine ⟨rfl, (w0, t, u, lo + ((j : Nat) : Int)), rfl, ⟨ok, hu⟩, ?_⟩
    rintro c ⟨l, rfl⟩
    dsimp only
    cases hn : nextC w0 t u (lo + ((j : Nat) : Int)) with
    | none =>
      have hcl' : ∀ x c', lo ≤ x → x < lo + ((j + 1 : Nat) : Int) → nextC w0 t u x = some c' → c' ∈ wl2 := fun x c' h1 h2 h3 => by
        by_cases e : x = lo + ((j : Nat) : Int)
        · rw [e, hn] at h3; cases h3
        · exact hcl x c' h1 (by omega) h3
      rcases step_none hn with e | e <;> rw [e]
      · fail "xs"
        exact ⟨_, _, ⟨wl2, sd, runL w0 t u, hsub, hok2, by omega, by omega, hcl', rfl, rfl⟩, by fail "wk"⟩
      · fail "xs"
        exact ⟨_, _, ⟨wl2, sd, runL w0 t u, hsub, hok2, by omega, by omega, hcl', rfl, rfl⟩, by fail "wk"⟩
    | some cn =>
      rw [step_some hn]
      fail "xs"
      refine ⟨_, _, ⟨wl2 ++ [cn], sd ++ [.tuple [.int (lo + ((j : Nat) : Int)), cn.d]], runL w0 t u, fun k hk => List.mem_append_left _ (hsub k hk), fun k hk => ?_, ?_, ?_, fun x c' h1 h2 h3 => ?_, rfl, rfl⟩, ?_⟩
      · rcases List.mem_append.mp hk with hk | hk
        · exact hok2 k hk
        · rw [List.mem_singleton.mp hk]; exact next_ok ok hu hn
      · rw [List.length_append, List.length_singleton]; omega
      · rw [List.length_append, List.length_singleton]; omega
      · by_cases e : x = lo + ((j : Nat) : Int)
        · rw [e, hn] at h3
          cases h3
          exact List.mem_append_right _ (by simp)
        · exact List.mem_append_left _ (hcl x c' h1 (by omega) h3)
      · rw [List.map_append]
        fail "wk"
end
end Pk
/-! X4 (printed by gen/mk.py) -/
namespace Pk
open PySem PySem.Spec PyProof.Rows L2 C8

local macro_rules | `(tactic| fail "x1") => `(tactic| (first
  | (guard_target =~ EX _ _ _ _ _; first
    | ((with_reducible apply ex_var); exact rfl)
    | with_reducible refine ex_int ?_
    | with_reducible refine ex_op ?_
    | with_reducible refine ex_cb ?_
    | with_reducible refine ex_str ?_
    | with_reducible refine ex_non ?_
    | with_reducible refine ex_bl ?_
    | with_reducible refine ex_ty ?_
    | with_reducible refine ex_call1 ?_
    | with_reducible refine ex_if ?_
    | with_reducible refine ex_and ?_
    | with_reducible refine ex_or ?_
    | with_reducible refine ex_not ?_
    | with_reducible refine ex_chain ?_
    | with_reducible refine ex_tup ?_
    | with_reducible refine ex_lst ?_
    | with_reducible refine ex_append ?_
    | with_reducible refine ex_disp1N ?_
    | with_reducible refine ex_newN ?_
    | with_reducible refine ex_frzV ?_
    | with_reducible refine ex_frzDV ?_
    | with_reducible refine ex_frzL ?_
    | with_reducible refine ex_frzSl ?_
    | with_reducible refine ex_frzRev ?_
    | with_reducible refine ex_frzRg ?_
    | with_reducible refine ex_un ?_
    | with_reducible refine ex_slT ?_
    | with_reducible refine ex_slL ?_
    | fail "stop")
  | (guard_target =~ AX _ _ _ _ _; first
    | with_reducible refine ax_cons ?_
    | with_reducible refine ax_nil ?_
    | fail "stop")
  | (guard_target =~ SX _ _ _ _ _; first
    | with_reducible refine sx_seq ?_
    | with_reducible refine sx_set ?_
    | with_reducible refine sx_if ?_
    | with_reducible refine sx_ret ?_
    | with_reducible refine sx_next ?_
    | with_reducible refine sx_asg ?_
    | with_reducible refine sx_drop ?_
    | with_reducible refine sx_par ?_
    | with_reducible refine sx_par3 ?_
    | ((with_reducible apply sx_aug); exact rfl)
    | fail "stop")
  | (guard_target =~ TX _ _ _ _ _; first
    | with_reducible refine tx_b ?_
    | with_reducible refine tx_test ?_
    | with_reducible refine tx_and ?_
    | with_reducible refine tx_or ?_
    | with_reducible refine tx_not ?_
    | with_reducible refine tx_yes ?_
    | fail "stop")
  | (guard_target =~ RX _ _ _ _ _ _; first
    | with_reducible refine rx_add ?_
    | with_reducible refine rx_sub ?_
    | ((with_reducible apply rx_mod); (first | assumption | omega))
    | ((with_reducible apply rx_mul); (first | assumption | exact .inl ⟨by omega, by omega⟩))
    | with_reducible refine rx_lt ?_
    | with_reducible refine rx_le ?_
    | with_reducible refine rx_gt ?_
    | with_reducible refine rx_ge ?_
    | with_reducible refine rx_isN ?_
    | with_reducible refine rx_notN ?_
    | with_reducible refine rx_eqI ?_
    | with_reducible refine rx_neI ?_
    | with_reducible refine rx_eqRule ?_
    | with_reducible refine rx_eqS ?_
    | with_reducible refine rx_neS ?_
    | ((with_reducible apply rx_ix0); exact rfl; exact rfl)
    | ((with_reducible apply rx_ix1); exact rfl; exact rfl)
    | ((with_reducible apply rx_ix2); exact rfl; exact rfl)
    | ((with_reducible apply rx_ix3); exact rfl; exact rfl)
    | ((with_reducible apply rx_ix4); exact rfl; exact rfl)
    | ((with_reducible apply rx_ix5); exact rfl; exact rfl)
    | ((with_reducible apply rx_ix6); exact rfl; exact rfl)
    | ((with_reducible apply rx_ix7); exact rfl; exact rfl)
    | ((with_reducible apply rx_ix8); exact rfl; exact rfl)
    | ((with_reducible apply rx_ixL0); exact rfl; exact rfl)
    | ((with_reducible apply rx_ixL1); exact rfl; exact rfl)
    | fail "stop")
  | (guard_target =~ BX _ _ _ _ _; first
    | with_reducible refine bx_isInt ?_
    | with_reducible refine bx_isBool ?_
    | with_reducible refine bx_isStr ?_
    | with_reducible refine bx_isTup ?_
    | with_reducible refine bx_intI ?_
    | with_reducible refine bx_intB ?_
    | with_reducible refine bx_min2 ?_
    | with_reducible refine bx_max2 ?_
    | ((with_reducible apply bx_lenT); exact rfl)
    | ((with_reducible apply bx_lenL); exact rfl)
    | ((with_reducible apply bx_lenN); exact rfl)
    | fail "stop")
  | ((with_reducible apply gx_tup); exact rfl; exact rfl)
  | (guard_target =~ GsX _ _ _ _ _ _; first | refine gsx_cons ?_ | refine gsx_nil ?_ | fail "stop")
  | with_reducible refine gx_name ?_
  | with_reducible refine ox_some ?_
  | with_reducible refine ox_none ?_
  | with_reducible refine ux_neg ?_
  | refine ⟨_, rfl, Nat.le_of_ble_eq_true rfl, rfl, ?_⟩
  | refine ⟨_, rfl, Nat.le_of_ble_eq_true rfl, ?_⟩
  | refine ⟨_, _, rfl, rfl, rfl, ?_⟩
  | refine ⟨_, _, rfl, rfl, by assumption, ?_⟩
  | refine ⟨_, _, rfl, rfl, ?_⟩
  | refine ⟨_, _, _, rfl, ?_⟩
  | refine ⟨_, _, rfl, ?_⟩
  | refine ⟨_, rfl, ?_⟩
  | refine ⟨rfl, (_, some _, some _), rfl, trivial, ?_⟩
  | refine ⟨rfl, (_, some _, none), rfl, trivial, ?_⟩
  | refine ⟨rfl, (_, _), rfl, by assumption, ?_⟩
  | refine ⟨rfl, (_, _, _), rfl, by assumption, ?_⟩
  | refine ⟨rfl, (_, _, _, _), rfl, by assumption, ?_⟩
  | ((with_reducible intro c hc); subst hc)
  | refine ⟨fun hb => Bool.noConfusion hb, fun _ => ?_⟩
  | refine ⟨fun _ => ?_, fun hb => Bool.noConfusion hb⟩
  | dsimp only
  | fail "stop"))
local macro_rules | `(tactic| fail "xc") => `(tactic| (first | (refine ⟨fun hb => ?_, fun hb => ?_⟩ <;> first | exact Bool.noConfusion hb | skip) | fail "stop"))
local macro_rules | `(tactic| fail "xs") => `(tactic| repeat fail "x1")
local macro_rules | `(tactic| fail "xx") => `(tactic| repeat' (first | fail "x1" | fail "xc" | fail "stop"))
local macro_rules | `(tactic| fail "wk") => `(tactic| (first | (refine ⟨?_, rfl⟩; repeat (first | exact Wc.nil | refine Wc.keep (by first | exact trivial | exact Nat.le_of_ble_eq_true rfl) ?_ | refine Wc.drop ?_)) | fail "stop"))

section
variable {P : Program} {w : World} {K : PySem.W.Frag} {mg : Str → Option Value} {base : Heap}
abbrev LhA : Type := Well × Bool × Crew × Int × Int × PyData
abbrev lhA (x : LhA) : List Cl := [.dat x.1.d, .dat (ruleD x.2.1), .dat x.2.2.1.d, .dat (.int x.2.2.2.1), .dat (.int x.2.2.2.2.1), .dat x.2.2.2.2.2]
abbrev sp__law_are_heights : Spec := Sp1 (α := LhA) lhA (fun x => x.1.Ok ∧ (0 ≤ x.2.2.2.1 ∧ x.2.2.2.1 ≤ x.2.2.2.2.1 ∧ x.2.2.2.2.1 ≤ 300) ∧ ∀ ds, x.2.2.2.2.2 = .tuple ds → ds.length ≤ 1000) fun x c => c = .dat (.bool (bothB x.1 x.2.1 x.2.2.2.1 x.2.2.2.2.1 x.2.2.1 x.2.2.2.2.2))
theorem cal__law_are_heights {f : Addr} {fd : FuncData} (T : Tp mg) (F : Def K mg "_law_are_heights" s__law_are_heights f fd) (B : Binds K fd ["_law_well_here", "_law_rule", "_law_crew", "_law_low", "_law_high", "_law_rows"] []) (c_is_crew : Cal P w K mg base 4 "is_crew" (spX P w K sp_is_crew) []) (c__law_beat : Cal P w K mg base 2 "_law_beat" (spX P w K sp__law_beat) []) (c__law_gain : Cal P w K mg base 1 "_law_gain" (spX P w K sp__law_gain) []) : Cal P w K mg base 5 "_law_are_heights" (spX P w K sp__law_are_heights) [] := by
  refine cal0 F B .nil sc__law_are_heights (sp1_len fun x => rfl) (fun cdv A outer s H vs Q E hr h => ?_)
  refine ⟨_, (pss_cons (ps_if (pt_not (pt_val (pe_callB (r := rIsi K) call_isi (by rfl) T.b_isinstance bo_isinstance (pa_cons (pv 5) (pa_cons (pe_bltn (v := .ty "tuple") (u := .type "tuple") (by rfl) T.b_tuple bo_tuple rfl) pa_nil))))) (pss_one (ps_ret pe_bl)) pss_nil) (pss_cons (ps_set (i := 6) sc__law_are_heights.nd rfl (Or.inl rfl) pe_newN) (pss_cons (ps_for PassesOwn.never rfl (pi_tup (pv 5)) (pg_name (i := 7) sc__law_are_heights.nd rfl (Or.inl rfl)) (pss_cons (ps_if (PW.pt (pw_or (pt_not (pt_val (pe_callB (r := rIsi K) call_isi (by rfl) T.b_isinstance bo_isinstance (pa_cons (pv 7) (pa_cons (pe_bltn (v := .ty "tuple") (u := .type "tuple") (by rfl) T.b_tuple bo_tuple rfl) pa_nil))))) (pw_or (pt_cmpR (r := rNeU K) (op_neU (hu64 hr)) (pe_callB (r := rLenU K P w) call_lenU (by rfl) T.b_len bo_len (pa_cons (pv 7) pa_nil)) pe_int (nomark _)) (pw_or1 (pt_not (pt_val (pe_c c_is_crew hr (by decide) (by rfl) (pa_cons (pv 0) (pa_cons (pv 1) (pa_cons (pe_ix (r := rIxU K P w) (ix_u (hu16 hr)) (pv 7) pe_int (fun _ _ => rfl)) pa_nil)))))))))) (pss_one (ps_ret pe_bl)) pss_nil) (pss_cons (ps_if (PW.pt (pw_or (pt_not (pt_val (pe_callB (r := rIsi K) call_isi (by rfl) T.b_isinstance bo_isinstance (pa_cons (pe_ix (r := rIxU K P w) (ix_u (hu16 hr)) (pv 7) pe_int (fun _ _ => rfl)) (pa_cons (pe_bltn (v := .ty "int") (u := .type "int") (by rfl) T.b_int bo_int rfl) pa_nil))))) (pw_or1 (pt_val (pe_callB (r := rIsi K) call_isi (by rfl) T.b_isinstance bo_isinstance (pa_cons (pe_ix (r := rIxU K P w) (ix_u (hu16 hr)) (pv 7) pe_int (fun _ _ => rfl)) (pa_cons (pe_bltn (v := .ty "bool") (u := .type "bool") (by rfl) T.b_bool bo_bool rfl) pa_nil))))))) (pss_one (ps_ret pe_bl)) pss_nil) (pss_one (ps_asg (pe_ix (r := rIxU K P w) (ix_u (hu16 hr)) (pv 7) pe_int (fun _ _ => rfl)) (pg_sub (pv 6) (pe_ix (r := rIxU K P w) (ix_u (hu16 hr)) (pv 7) pe_int (fun _ _ => rfl)) (set_u (hu16 hr)))))))) (pss_cons (ps_if (PW.pt (pw_or (pt_cmpR (r := rNeU K) (op_neU (hu64 hr)) (pe_frz (pe_lc (own := [("_law_k", 8)]) (g := (gName 8)) rfl sc__law_are_heights.nd (pi_range2 (by rfl) T.b_range (pa_cons pe_int (pa_cons (pe_callB (r := rLenU K P w) call_lenU (by rfl) T.b_len bo_len (pa_cons (pv 5) pa_nil)) pa_nil))) (blkOk_by (N := N__law_are_heights) (sc := fnScope s__law_are_heights) (by decide +kernel)) (fun _ _ _ _ _ => (pg_name (i := 8) sc__law_are_heights.nd rfl (Or.inl rfl))) (fun _ _ _ _ _ => (pts_one (pt_not (pt_cmpR (op_ltU (hu64 hr)) (pe_ix (r := rIxU K P w) (ix_u (hu16 hr)) (pe_ix (r := rIxU K P w) (ix_u (hu16 hr)) (pv 5) (pe_op op_sub (pv 8) pe_int) (fun _ _ => rfl)) pe_int (fun _ _ => rfl)) (pe_ix (r := rIxU K P w) (ix_u (hu16 hr)) (pe_ix (r := rIxU K P w) (ix_u (hu16 hr)) (pv 5) (pv 8) (fun _ _ => rfl)) pe_int (fun _ _ => rfl)) (nomark _))))) (fun _ _ _ _ _ => (pv 8)))) (pe_frz (pe_lst pa_nil)) (nomark _)) (pw_or1 (pt_cmpR op_lt (pe_getN (hu16 hr) (pv 6) (pv 2) (pe_un un_neg pe_int) ⟨rfl, rfl, rfl, rfl⟩) pe_int (nomark _))))) (pss_one (ps_ret pe_bl)) pss_nil) (pss_cons (ps_for PassesOwn.never rfl (pi_keysN (pe_frzD (pv 6))) (pg_name (i := 9) sc__law_are_heights.nd rfl (Or.inl rfl)) (pss_one (ps_for PassesOwn.never rfl (pi_range2 (by rfl) T.b_range (pa_cons (pv 3) (pa_cons (pe_op op_add (pv 4) pe_int) pa_nil))) (pg_name (i := 10) sc__law_are_heights.nd rfl (Or.inl rfl)) (pss_cons (ps_asg (pe_c c__law_beat hr (by decide) (by rfl) (pa_cons (pv 0) (pa_cons (pv 1) (pa_cons (pv 9) (pa_cons (pv 10) pa_nil))))) (pg_tup rfl (pgs_cons (pg_name (i := 11) sc__law_are_heights.nd rfl (Or.inl rfl)) (pgs_cons (pg_name (i := 12) sc__law_are_heights.nd rfl (Or.inl rfl)) (pgs_cons (pg_name (i := 13) sc__law_are_heights.nd rfl (Or.inl rfl)) pgs_nil))))) (pss_one (ps_if (pt_not (pt_val (pe_callB (r := rIsi K) call_isi (by rfl) T.b_isinstance bo_isinstance (pa_cons (pv 11) (pa_cons (pe_bltn (v := .ty "str") (u := .type "str") (by rfl) T.b_str bo_str rfl) pa_nil))))) (pss_one (ps_if (PW.pt (pw_or (pt_cmpR (r := rInU K P w true) (op_notInU (hu65 hr)) (pv 11) (pv 6) (by rfl)) (pw_or1 (pt_cmpR op_lt (pe_ix (r := rIxU K P w) (ix_u (hu16 hr)) (pv 6) (pv 11) (fun _ _ => rfl)) (pe_op op_add (pe_ix (r := rIxU K P w) (ix_u (hu16 hr)) (pv 6) (pv 9) (fun _ _ => rfl)) (pe_c c__law_gain hr (by decide) (by rfl) (pa_cons (pv 12) (pa_cons pe_int (pa_cons pe_int pa_nil))))) (nomark _))))) (pss_one (ps_ret pe_bl)) pss_nil)) pss_nil)))))) (pss_one (ps_ret pe_bl))))))), ?_⟩
  try dsimp only [cxOf, L2.Cx.nox, L2.Cx.wish, L2.Cx.blk]
  refine enter1 h fun x hx => ?_
  change SX _ _ [_, _, _, _, _, _, none, none, none, none, none, none, none, none] [] _
  obtain ⟨w0, t, c0, lo, hi, d0⟩ := x
  obtain ⟨ok, ⟨hlo, hlh, hhi⟩, hz⟩ := hx
  dsimp only at ok hlo hlh hhi hz
  change SX _ _ [some (.dat w0.d), some (.dat (ruleD t)), some (.dat c0.d), some (.dat (.int lo)), some (.dat (.int hi)), some (.dat d0), none, none, none, none, none, none, none, none] [] _
  cases d0 with
  | tuple ds =>
    have hlen := hz ds rfl
    fail "xs"
    refine sx_for (ix_tup (ex_var rfl ⟨_, rfl, fun i γ os => ∃ hs : List (Crew × Int), ds.take i = hs.map heightD ∧ (∀ p ∈ hs, p.1.Ok w0 t) ∧ γ = [some (.dat w0.d), some (.dat (ruleD t)), some (.dat c0.d), some (.dat (.int lo)), some (.dat (.int hi)), some (.dat (.tuple ds)), some (.own 0), none, none, none, none, none, none, none] ∧ os = [.dic (bestT (keepH hs))], ⟨[], by simp, by simp, rfl, rfl⟩, ?_⟩))
    rintro i γ1 os1 hi1 ⟨hs, htk, hok, rfl, rfl⟩
    refine ⟨fun hE => ?_, fun c hcc => ?_⟩
    · rw [List.length_map] at hE
      rw [List.take_of_length_le (Nat.le_of_eq hE.symm)] at htk
      subst htk
      have hhs : (hs.map heightD).all (hgtB w0 t) = true := by
        rw [List.all_eq_true]
        rintro d hd
        obtain ⟨p, hp, rfl⟩ := List.mem_map.mp hd
        show crewB w0 t p.1.d = true
        exact crew_ok (hok p hp)
      have hboth : bothB w0 t lo hi c0 (.tuple (hs.map heightD)) = (riseB (hs.map heightD) && boundB w0 t lo hi 0 1 c0 hs) := by
        show (((hs.map heightD).all (hgtB w0 t) && riseB (hs.map heightD)) && boundB w0 t lo hi 0 1 c0 ((hs.map heightD).map heightOf)) = _
        rw [hhs, heights_back, Bool.true_and]
      dsimp only
      rw [hboth]
      obtain ⟨ns, hns, hem⟩ := rise_rng (hs.map heightD)
      refine sx_seq (sx_if (TX.imp (R' := fun b os => b = !(riseB (hs.map heightD) && ((look hs c0).getD (-1) ≥ 0 : Bool)) ∧ os = [.dic (bestT (keepH hs))]) ?_ ?_))
      · fail "xs"
        refine ex_lcF (tg_name (by decide)) (ix_rng2 ?_)
        fail "xs"
        refine ⟨by omega, rfl, riseP (hs.map heightD), idD, ?_, ?_, ?_⟩
        · rw [rngC_len]
          exact small (k := 1000) (by omega) rfl
        · refine each_rng fun i acc hi => gx_name ?_
          change TX _ _ [_, _, _, _, _, _, _, _, _, _, _, _, _, _] _ _
          rw [List.length_map] at hi
          fail "xs"
          have hg : ∀ k (hk : k < hs.length), (hs.map heightD)[k]? = some (.tuple [hs[k].1.d, .int hs[k].2]) := fun k hk => by
            rw [List.getElem?_map, List.getElem?_eq_getElem hk]; rfl
          refine rx_ixTk i (by omega) rfl (hg i (by omega)) ?_
          fail "xs"
          refine rx_ixTk (i + 1) (by omega) rfl (hg (i + 1) (by omega)) ?_
          fail "xs"
          refine rx_ltD (alike_crew _ _) (fun h => by cases h) (by rw [dep_crew]; decide) ?_
          refine ⟨_, rfl, ?_, rfl, fun hb => ?_⟩
          · show _ = !(PySem.W.dataLt (fstD ((hs.map heightD).getD (1 + ((i : Nat) : Int) - 1).toNat .none)) (fstD ((hs.map heightD).getD (1 + ((i : Nat) : Int)).toNat .none)))
            rw [show (1 + ((i : Nat) : Int) - 1).toNat = i by omega, show (1 + ((i : Nat) : Int)).toNat = i + 1 by omega, List.getD_eq_getElem?_getD, List.getD_eq_getElem?_getD, hg i (by omega), hg (i + 1) (by omega)]
            rfl
          · fail "xs"
            exact ⟨rfl, rfl⟩
        rw [hns]
        fail "xs"
        refine rx_neD rfl rfl (shaped_ints _) shaped_nil ?_
        rw [eqv_nil, hem]
        fail "xs"
        refine ⟨fun hb => ⟨?_, rfl⟩, fun hb => ?_⟩
        · rw [show riseB (hs.map heightD) = false by simpa only [Bool.not_eq_true'] using hb]
          rfl
        have hr1 : riseB (hs.map heightD) = true := by simpa only [Bool.not_eq_false'] using hb
        fail "xs"
        refine ex_getN ?_
        fail "xs"
        refine ⟨_, _, .int (-1), rfl, rfl, rfl, ?_⟩
        rw [best_look, keep_same hr1, hr1]
        cases hl : look hs c0 with
        | none =>
          refine ex_int (rx_lt (i := -1) ?_)
          exact ⟨_, rfl, rfl, rfl⟩
        | some v =>
          refine ex_int (rx_lt (i := v) ?_)
          refine ⟨_, rfl, ?_, rfl⟩
          show decide (v < 0) = !(true && decide (v ≥ 0))
          by_cases hv : v < 0
          · rw [decide_eq_true hv, decide_eq_false (by omega)]; rfl
          · rw [decide_eq_false hv, decide_eq_true (by omega)]; rfl
      rintro _ _ ⟨rfl, rfl⟩
      refine ⟨fun hb => ?_, fun hb => ?_⟩
      · fail "xs"
        refine ⟨trivial, ?_⟩
        have hb2 : (riseB (hs.map heightD) && decide ((look hs c0).getD (-1) ≥ 0)) = false := by simpa only [Bool.not_eq_true'] using hb
        by_cases hr1 : riseB (hs.map heightD) = true
        · rw [hr1, Bool.true_and] at hb2
          have hv := of_decide_eq_false hb2
          have : boundB w0 t lo hi 0 1 c0 hs = false := by
            unfold boundB
            rw [keep_same hr1]
            cases hl : look hs c0 with
            | none => rfl
            | some v =>
              rw [hl] at hv
              show (decide (0 ≤ v) && _) = false
              rw [decide_eq_false (by simpa using hv)]
              rfl
          rw [this, Bool.and_false]
        · rw [show riseB (hs.map heightD) = false by simpa using hr1]
          rfl
      have hb2 : (riseB (hs.map heightD) && decide ((look hs c0).getD (-1) ≥ 0)) = true := by simpa only [Bool.not_eq_false'] using hb
      rw [Bool.and_eq_true] at hb2
      obtain ⟨hr1, hv⟩ := hb2
      have hkeep := keep_same hr1
      have hnd := rise_nodup hr1
      rw [hr1, Bool.true_and, hkeep]
      obtain ⟨v, hl, hv0⟩ : ∃ v, look hs c0 = some v ∧ 0 ≤ v := by
        cases hl : look hs c0 with
        | none => rw [hl] at hv; cases hv
        | some v => rw [hl] at hv; exact ⟨v, rfl, by simpa using hv⟩
      have hall := bound_all (w := w0) (t := t) (lo := lo) (hi := hi) hkeep hl hv0
      fail "xs"
      refine sx_for (ix_keys ?_)
      fail "xs"
      rw [best_keys]
      refine ⟨fun i γ os => (∀ p ∈ hs.take i, ∀ x, lo ≤ x → x ≤ hi → okX w0 t hs p x = true) ∧ ∃ g1 g2 g3 g4 g5, γ = [some (.dat w0.d), some (.dat (ruleD t)), some (.dat c0.d), some (.dat (.int lo)), some (.dat (.int hi)), some (.dat (.tuple (hs.map heightD))), some (.own 0), none, none, g1, g2, g3, g4, g5] ∧ os = [.fm (bestT hs)], ⟨by simp, none, none, none, none, none, rfl, rfl⟩, ?_⟩
      rintro i γ1 os1 hi1 ⟨hdone, g1, g2, g3, g4, g5, rfl, rfl⟩
      rw [List.length_map, List.length_map] at hi1
      refine ⟨fun hE => ?_, fun c hcc => ?_⟩
      · rw [List.length_map, List.length_map] at hE
        rw [List.take_of_length_le (Nat.le_of_eq hE.symm)] at hdone
        fail "xs"
        refine ⟨trivial, ?_⟩
        rw [hall.mpr hdone]
      · obtain ⟨k, e3, rfl⟩ := List.getElem?_map ▸ hcc |> Option.map_eq_some_iff.mp
        obtain ⟨p, e2, rfl⟩ := List.getElem?_map ▸ e3 |> Option.map_eq_some_iff.mp
        have hp := List.mem_of_getElem? e2
        have hlp : look hs p.1 = some p.2 := look_of_mem hnd hp
        have hbad : ∀ x, lo ≤ x → x ≤ hi → okX w0 t hs p x = false → boundB w0 t lo hi 0 1 c0 hs = false := fun x h1 h2 h3 => by
          cases hB : boundB w0 t lo hi 0 1 c0 hs with
          | false => rfl
          | true =>
            have := hall.mp hB p hp x h1 h2
            rw [h3] at this
            cases this
        refine gx_name ?_
        refine sx_for (ix_rng2 ?_)
        fail "xs"
        refine ⟨⟨by omega, by omega, by omega, by omega⟩, fun j γ os => (∀ x, lo ≤ x → x < lo + (j : Nat) → okX w0 t hs p x = true) ∧ ∃ g2 g3 g4 g5, γ = [some (.dat w0.d), some (.dat (ruleD t)), some (.dat c0.d), some (.dat (.int lo)), some (.dat (.int hi)), some (.dat (.tuple (hs.map heightD))), some (.own 0), none, none, some (.dat p.1.d), g2, g3, g4, g5] ∧ os = [.fm (bestT hs)], ⟨fun x h1 h2 => by exfalso; simp at h2; omega, _, _, _, _, rfl, rfl⟩, ?_⟩
        rintro j γ1 os1 hj1 ⟨hdone2, g2, g3, g4, g5, rfl, rfl⟩
        rw [rngC_len] at hj1
        refine ⟨fun hE => ?_, fun c hcc => ?_⟩
        · rw [rngC_len] at hE
          refine ⟨_, _, ⟨fun q hq x h1 h2 => ?_, _, _, _, _, _, rfl, rfl⟩, by fail "wk"⟩
          rw [List.take_add_one, e2] at hq
          rcases List.mem_append.mp hq with hq | hq
          · exact hdone q hq x h1 h2
          · have : q = p := by simpa using hq
            rw [this]
            exact hdone2 x h1 (by omega)
        · obtain ⟨hjn, rfl⟩ := rng_at hcc
          have h1 : lo ≤ lo + ((j : Nat) : Int) := by omega
          have h2 : lo + ((j : Nat) : Int) ≤ hi := by omega
          have hgo : okX w0 t hs p (lo + ((j : Nat) : Int)) = true → ∀ x, lo ≤ x → x < lo + ((j + 1 : Nat) : Int) → okX w0 t hs p x = true := fun h x h3 h4 => by
            by_cases e : x = lo + ((j : Nat) : Int)
            · rw [e]; exact h
            · exact hdone2 x h3 (by omega)
          fail "xs"
          refine ⟨rfl, (w0, t, p.1, lo + ((j : Nat) : Int)), rfl, ⟨ok, hok p hp⟩, ?_⟩
          rintro c ⟨l, rfl⟩
          dsimp only
          cases hn : nextC w0 t p.1 (lo + ((j : Nat) : Int)) with
          | none =>
            have hX : okX w0 t hs p (lo + ((j : Nat) : Int)) = true := by unfold okX; rw [hn]
            rcases step_none hn with e | e <;> rw [e]
            · fail "xs"
              exact ⟨_, _, ⟨hgo hX, _, _, _, _, rfl, rfl⟩, by fail "wk"⟩
            · fail "xs"
              exact ⟨_, _, ⟨hgo hX, _, _, _, _, rfl, rfl⟩, by fail "wk"⟩
          | some cn =>
            rw [step_some hn]
            fail "xs"
            refine rx_notInN rfl ?_
            rw [best_look, Option.isSome_map]
            cases hl2 : look hs cn with
            | none =>
              have hX : okX w0 t hs p (lo + ((j : Nat) : Int)) = false := by unfold okX; rw [hn]; show (match look hs cn with | some v => decide (p.2 + gainL w0 t p.1 0 1 ≤ v) | none => false) = false; rw [hl2]
              fail "xs"
              rw [hbad _ h1 h2 hX]
              exact ⟨trivial, rfl⟩
            | some v2 =>
              have hX : okX w0 t hs p (lo + ((j : Nat) : Int)) = decide (p.2 + gainL w0 t p.1 0 1 ≤ v2) := by unfold okX; rw [hn]; show (match look hs cn with | some v => decide (p.2 + gainL w0 t p.1 0 1 ≤ v) | none => false) = _; rw [hl2]
              fail "xs"
              refine rx_ixN rfl (x := .int v2) (by rw [best_look, hl2]; rfl) ?_
              fail "xs"
              refine rx_ixN rfl (x := .int p.2) (by rw [best_look, hlp]; rfl) ?_
              fail "xs"
              refine ⟨rfl, (runL w0 t p.1, 0, 1), rfl, trivial, ?_⟩
              rintro c rfl
              fail "xs"
              refine ⟨fun hb => ?_, fun hb => ?_⟩
              · have h3 := of_decide_eq_true hb
                fail "xs"
                rw [hbad _ h1 h2 (by rw [hX]; exact decide_eq_false (fun q => by unfold gainL at q; omega))]
                exact ⟨trivial, rfl⟩
              · have h3 := of_decide_eq_false hb
                fail "xs"
                exact ⟨_, _, ⟨hgo (by rw [hX]; exact decide_eq_true (by unfold gainL; omega)), _, _, _, _, rfl, rfl⟩, by fail "wk"⟩
    · obtain ⟨d, e1, rfl⟩ := dat_at hcc
      have hmem := List.mem_of_getElem? e1
      have hbad : hgtB w0 t d = false → bothB w0 t lo hi c0 (.tuple ds) = false := fun h => by
        have : ds.all (hgtB w0 t) = false := by
          rw [List.all_eq_false]
          exact ⟨d, hmem, by rw [h]; exact Bool.false_ne_true⟩
        show ((ds.all (hgtB w0 t) && riseB ds) && _) = false
        rw [this]
        rfl
      refine gx_name ?_
      cases d with
      | tuple es =>
        match es with
        | [] => fail "xs"; rw [hbad rfl]; exact ⟨trivial, rfl⟩
        | [_] => fail "xs"; rw [hbad rfl]; exact ⟨trivial, rfl⟩
        | [a, b] =>
          fail "xs"
          refine ⟨fun hb => ?_, fun hb => ?_⟩
          · have hw : crewB w0 t a = false := by simpa only [Bool.not_eq_true'] using hb
            have hf : hgtB w0 t (.tuple [a, b]) = false := by
              cases b with
              | int n => exact hw
              | _ => rfl
            fail "xs"
            rw [hbad hf]
            exact ⟨trivial, rfl⟩
          · have hw : crewB w0 t a = true := by simpa only [Bool.not_eq_false'] using hb
            cases b with
            | int n =>
              obtain ⟨k, rfl, hk⟩ := crew_of hw
              fail "xs"
              have hz1 : (bestT (keepH hs)).length < sizeLine := by
                rw [best_len]
                have h1 := keep_len hs []
                have h2 : hs.length ≤ i := by
                  have := congrArg List.length htk
                  rw [List.length_map, List.length_take] at this
                  omega
                rw [List.length_map] at hi1
                exact small (k := 1000) (Nat.le_trans h1 (by simp; omega)) rfl
              refine gx_subN (ex_var rfl ?_)
              fail "xs"
              refine ⟨_, _, k, _, rfl, rfl, rfl, rfl, hz1, ?_⟩
              rw [best_put, ← keep_snoc (p := (k, n))]
              fail "xs"
              refine ⟨_, _, ⟨hs ++ [(k, n)], ?_, ?_, rfl, rfl⟩, by fail "wk"⟩
              · rw [List.take_add_one, e1, htk, List.map_append]
                rfl
              · intro p hp
                rcases List.mem_append.mp hp with hp | hp
                · exact hok p hp
                · rw [List.mem_singleton.mp hp]; exact hk
            | _ =>
              fail "xs"
              rw [hbad rfl]
              exact ⟨trivial, rfl⟩
        | a :: b :: c :: r =>
          fail "xs"
          rw [hbad (by cases b <;> rfl)]
          exact ⟨trivial, rfl⟩
      | _ =>
        fail "xs"
        rw [hbad rfl]
        exact ⟨trivial, rfl⟩
  | _ =>
    fail "xs"
    exact ⟨trivial, rfl⟩
end
end Pk
/-! X5 (printed by gen/mk.py) -/
namespace Pk
open PySem PySem.Spec PyProof.Rows L2 C8

local macro_rules | `(tactic| fail "x1") => `(tactic| (first
  | (guard_target =~ EX _ _ _ _ _; first
    | ((with_reducible apply ex_var); exact rfl)
    | with_reducible refine ex_int ?_
    | with_reducible refine ex_op ?_
    | with_reducible refine ex_cb ?_
    | with_reducible refine ex_str ?_
    | with_reducible refine ex_non ?_
    | with_reducible refine ex_bl ?_
    | with_reducible refine ex_ty ?_
    | with_reducible refine ex_call1 ?_
    | with_reducible refine ex_if ?_
    | with_reducible refine ex_and ?_
    | with_reducible refine ex_or ?_
    | with_reducible refine ex_not ?_
    | with_reducible refine ex_chain ?_
    | with_reducible refine ex_tup ?_
    | with_reducible refine ex_lst ?_
    | with_reducible refine ex_append ?_
    | with_reducible refine ex_disp1N ?_
    | with_reducible refine ex_newN ?_
    | with_reducible refine ex_frzV ?_
    | with_reducible refine ex_frzDV ?_
    | with_reducible refine ex_frzL ?_
    | with_reducible refine ex_frzSl ?_
    | with_reducible refine ex_frzRev ?_
    | with_reducible refine ex_frzRg ?_
    | with_reducible refine ex_un ?_
    | with_reducible refine ex_slT ?_
    | with_reducible refine ex_slL ?_
    | fail "stop")
  | (guard_target =~ AX _ _ _ _ _; first
    | with_reducible refine ax_cons ?_
    | with_reducible refine ax_nil ?_
    | fail "stop")
  | (guard_target =~ SX _ _ _ _ _; first
    | with_reducible refine sx_seq ?_
    | with_reducible refine sx_set ?_
    | with_reducible refine sx_if ?_
    | with_reducible refine sx_ret ?_
    | with_reducible refine sx_next ?_
    | with_reducible refine sx_asg ?_
    | with_reducible refine sx_drop ?_
    | with_reducible refine sx_par ?_
    | with_reducible refine sx_par3 ?_
    | ((with_reducible apply sx_aug); exact rfl)
    | fail "stop")
  | (guard_target =~ TX _ _ _ _ _; first
    | with_reducible refine tx_b ?_
    | with_reducible refine tx_test ?_
    | with_reducible refine tx_and ?_
    | with_reducible refine tx_or ?_
    | with_reducible refine tx_not ?_
    | with_reducible refine tx_yes ?_
    | fail "stop")
  | (guard_target =~ RX _ _ _ _ _ _; first
    | with_reducible refine rx_add ?_
    | with_reducible refine rx_sub ?_
    | ((with_reducible apply rx_mod); (first | assumption | omega))
    | ((with_reducible apply rx_mul); (first | assumption | exact .inl ⟨by omega, by omega⟩))
    | with_reducible refine rx_lt ?_
    | with_reducible refine rx_le ?_
    | with_reducible refine rx_gt ?_
    | with_reducible refine rx_ge ?_
    | with_reducible refine rx_isN ?_
    | with_reducible refine rx_notN ?_
    | with_reducible refine rx_eqI ?_
    | with_reducible refine rx_neI ?_
    | with_reducible refine rx_eqRule ?_
    | with_reducible refine rx_eqS ?_
    | with_reducible refine rx_neS ?_
    | ((with_reducible apply rx_ix0); exact rfl; exact rfl)
    | ((with_reducible apply rx_ix1); exact rfl; exact rfl)
    | ((with_reducible apply rx_ix2); exact rfl; exact rfl)
    | ((with_reducible apply rx_ix3); exact rfl; exact rfl)
    | ((with_reducible apply rx_ix4); exact rfl; exact rfl)
    | ((with_reducible apply rx_ix5); exact rfl; exact rfl)
    | ((with_reducible apply rx_ix6); exact rfl; exact rfl)
    | ((with_reducible apply rx_ix7); exact rfl; exact rfl)
    | ((with_reducible apply rx_ix8); exact rfl; exact rfl)
    | ((with_reducible apply rx_ixL0); exact rfl; exact rfl)
    | ((with_reducible apply rx_ixL1); exact rfl; exact rfl)
    | fail "stop")
  | (guard_target =~ BX _ _ _ _ _; first
    | with_reducible refine bx_isInt ?_
    | with_reducible refine bx_isBool ?_
    | with_reducible refine bx_isStr ?_
    | with_reducible refine bx_isTup ?_
    | with_reducible refine bx_intI ?_
    | with_reducible refine bx_intB ?_
    | with_reducible refine bx_min2 ?_
    | with_reducible refine bx_max2 ?_
    | ((with_reducible apply bx_lenT); exact rfl)
    | ((with_reducible apply bx_lenL); exact rfl)
    | ((with_reducible apply bx_lenN); exact rfl)
    | fail "stop")
  | ((with_reducible apply gx_tup); exact rfl; exact rfl)
  | (guard_target =~ GsX _ _ _ _ _ _; first | refine gsx_cons ?_ | refine gsx_nil ?_ | fail "stop")
  | with_reducible refine gx_name ?_
  | with_reducible refine ox_some ?_
  | with_reducible refine ox_none ?_
  | with_reducible refine ux_neg ?_
  | refine ⟨_, rfl, Nat.le_of_ble_eq_true rfl, rfl, ?_⟩
  | refine ⟨_, rfl, Nat.le_of_ble_eq_true rfl, ?_⟩
  | refine ⟨_, _, rfl, rfl, rfl, ?_⟩
  | refine ⟨_, _, rfl, rfl, by assumption, ?_⟩
  | refine ⟨_, _, rfl, rfl, ?_⟩
  | refine ⟨_, _, _, rfl, ?_⟩
  | refine ⟨_, _, rfl, ?_⟩
  | refine ⟨_, rfl, ?_⟩
  | refine ⟨rfl, (_, some _, some _), rfl, trivial, ?_⟩
  | refine ⟨rfl, (_, some _, none), rfl, trivial, ?_⟩
  | refine ⟨rfl, (_, _), rfl, by assumption, ?_⟩
  | refine ⟨rfl, (_, _, _), rfl, by assumption, ?_⟩
  | refine ⟨rfl, (_, _, _, _), rfl, by assumption, ?_⟩
  | ((with_reducible intro c hc); subst hc)
  | refine ⟨fun hb => Bool.noConfusion hb, fun _ => ?_⟩
  | refine ⟨fun _ => ?_, fun hb => Bool.noConfusion hb⟩
  | dsimp only
  | fail "stop"))
local macro_rules | `(tactic| fail "xc") => `(tactic| (first | (refine ⟨fun hb => ?_, fun hb => ?_⟩ <;> first | exact Bool.noConfusion hb | skip) | fail "stop"))
local macro_rules | `(tactic| fail "xs") => `(tactic| repeat fail "x1")
local macro_rules | `(tactic| fail "xx") => `(tactic| repeat' (first | fail "x1" | fail "xc" | fail "stop"))
local macro_rules | `(tactic| fail "wk") => `(tactic| (first | (refine ⟨?_, rfl⟩; repeat (first | exact Wc.nil | refine Wc.keep (by first | exact trivial | exact Nat.le_of_ble_eq_true rfl) ?_ | refine Wc.drop ?_)) | fail "stop"))

section
variable {P : Program} {w : World} {K : PySem.W.Frag} {mg : Str → Option Value} {base : Heap}
abbrev LjA : Type := Well × Bool × Crew × Int × Int × PyData
abbrev ljA (x : LjA) : List Cl := [.dat x.1.d, .dat (ruleD x.2.1), .dat x.2.2.1.d, .dat (.int x.2.2.2.1), .dat (.int x.2.2.2.2.1), .dat x.2.2.2.2.2]
abbrev sp__law_is_endless : Spec := Sp1 (α := LjA) ljA (fun x => JudP x.1 x.2.1 x.2.2.1 x.2.2.2.1 x.2.2.2.2.1 ∧ ∃ s p1 p2, x.2.2.2.2.2 = .tuple [s, p1, p2]) fun x c => ∃ s p1 p2, x.2.2.2.2.2 = .tuple [s, p1, p2] ∧ c = .dat (.bool (endB x.1 x.2.1 x.2.2.2.1 x.2.2.2.2.1 0 1 x.2.2.1 p1 p2))
theorem cal__law_is_endless {f : Addr} {fd : FuncData} (T : Tp mg) (F : Def K mg "_law_is_endless" s__law_is_endless f fd) (B : Binds K fd ["_law_well_here", "_law_rule", "_law_crew", "_law_low", "_law_high", "_law_sheet"] []) (c__law_led : Cal P w K mg base 3 "_law_led" (spX P w K sp__law_led) []) : Cal P w K mg base 4 "_law_is_endless" (spX P w K sp__law_is_endless) [] := by
  refine cal0 F B .nil sc__law_is_endless (sp1_len fun x => rfl) (fun cdv A outer s H vs Q E hr h => ?_)
  refine ⟨_, (pss_cons (ps_if (PW.pt (pw_or (pt_not (pt_val (pe_callB (r := rIsi K) call_isi (by rfl) T.b_isinstance bo_isinstance (pa_cons (pe_ix (r := rIxU K P w) (ix_u (hu16 hr)) (pv 5) pe_int (fun _ _ => rfl)) (pa_cons (pe_bltn (v := .ty "tuple") (u := .type "tuple") (by rfl) T.b_tuple bo_tuple rfl) pa_nil))))) (pw_or1 (pt_not (pt_val (pe_callB (r := rIsi K) call_isi (by rfl) T.b_isinstance bo_isinstance (pa_cons (pe_ix (r := rIxU K P w) (ix_u (hu16 hr)) (pv 5) pe_int (fun _ _ => rfl)) (pa_cons (pe_bltn (v := .ty "tuple") (u := .type "tuple") (by rfl) T.b_tuple bo_tuple rfl) pa_nil)))))))) (pss_one (ps_ret pe_bl)) pss_nil) (pss_cons (ps_set (i := 6) sc__law_is_endless.nd rfl (Or.inl rfl) (pe_c c__law_led hr (by decide) (by rfl) (pa_cons (pv 0) (pa_cons (pv 1) (pa_cons (pv 2) (pa_cons (pe_ix (r := rIxU K P w) (ix_u (hu16 hr)) (pv 5) pe_int (fun _ _ => rfl)) (pa_cons (pv 3) (pa_cons (pv 4) (pa_cons pe_int (pa_cons pe_int pa_nil)))))))))) (pss_cons (ps_set (i := 7) sc__law_is_endless.nd rfl (Or.inl rfl) (pe_ifExp (pt_cmpR op_notN (pv 6) pe_non (nomark _)) (pe_c c__law_led hr (by decide) (by rfl) (pa_cons (pv 0) (pa_cons (pv 1) (pa_cons (pe_ix (r := rIxU K P w) (ix_u (hu16 hr)) (pv 6) pe_int (fun _ _ => rfl)) (pa_cons (pe_ix (r := rIxU K P w) (ix_u (hu16 hr)) (pv 5) pe_int (fun _ _ => rfl)) (pa_cons (pv 3) (pa_cons (pv 4) (pa_cons pe_int (pa_cons pe_int pa_nil))))))))) pe_non)) (pss_one (ps_ret (pe_and (pe_cmpR op_notN (pv 7) pe_non (nomark _)) (pe_and (pe_cmpR (r := rEqU K) (op_eqU (hu64 hr)) (pe_ix (r := rIxU K P w) (ix_u (hu16 hr)) (pv 7) pe_int (fun _ _ => rfl)) (pe_ix (r := rIxU K P w) (ix_u (hu16 hr)) (pv 6) pe_int (fun _ _ => rfl)) (nomark _)) (pe_one (pe_cmpR op_gt (pe_ix (r := rIxU K P w) (ix_u (hu16 hr)) (pv 7) pe_int (fun _ _ => rfl)) pe_int (nomark _)))))))))), ?_⟩
  try dsimp only [cxOf, L2.Cx.nox, L2.Cx.wish, L2.Cx.blk]
  refine enter1 h fun x hx => ?_
  change SX _ _ [_, _, _, _, _, _, none, none] [] _
  obtain ⟨w0, t, c0, lo, hi, paper⟩ := x
  obtain ⟨hj, s0, p1, p2, rfl⟩ := hx
  dsimp only at hj
  have ok := hj.ok
  have hc := hj.cr
  change SX _ _ [some (.dat w0.d), some (.dat (ruleD t)), some (.dat c0.d), some (.dat (.int lo)), some (.dat (.int hi)), some (.dat (.tuple [s0, p1, p2])), none, none] [] _
  have fin : ∀ b : Bool, endB w0 t lo hi 0 1 c0 p1 p2 = b → ImC (Cl.dat (.bool b)) ∧ ∃ s q1 q2, PyData.tuple [s0, p1, p2] = .tuple [s, q1, q2] ∧ Cl.dat (.bool b) = .dat (.bool (endB w0 t lo hi 0 1 c0 q1 q2)) := fun b h => ⟨trivial, s0, p1, p2, rfl, by rw [h]⟩
  cases p1 with
  | tuple r1 =>
    cases p2 with
    | tuple r2 =>
      fail "xs"
      refine ⟨rfl, (w0, t, c0, r1, lo, hi, 0, 1), rfl, ⟨ok, hc⟩, ?_⟩
      fail "xs"
      have h0 : endB w0 t lo hi 0 1 c0 (.tuple r1) (.tuple r2) = match ledF w0 t lo hi 0 1 c0 0 r1 with
        | some b => (match ledF w0 t lo hi 0 1 b.1 0 r2 with
          | some e => decide (e.1 = b.1) && decide (e.2 > 0)
          | none => false)
        | none => false := rfl
      cases hl : ledF w0 t lo hi 0 1 c0 0 r1 with
      | none =>
        rw [hl] at h0
        fail "xs"
        exact fin false h0
      | some b1 =>
        rw [hl] at h0
        obtain ⟨hb1, _⟩ := led_ok ok hc hl
        unfold ledD
        fail "xs"
        refine ⟨rfl, (w0, t, b1.1, r2, lo, hi, 0, 1), rfl, ⟨ok, hb1⟩, ?_⟩
        fail "xs"
        cases hl2 : ledF w0 t lo hi 0 1 b1.1 0 r2 with
        | none =>
          dsimp only at h0
          rw [hl2] at h0
          fail "xs"
          exact fin false h0
        | some e =>
          dsimp only at h0
          rw [hl2] at h0
          unfold ledD
          fail "xs"
          refine rx_eqD rfl rfl (shaped_crew _) (shaped_crew _) ?_
          rw [eqv_crew]
          fail "xs"
          refine ⟨fun hb => ?_, fun hb => ?_⟩
          · fail "xs"
            refine fin _ ?_
            rw [h0]
            show (decide (e.1 = b1.1) && _) = _
            rw [hb]
            rfl
          · refine fin false ?_
            rw [h0]
            show (decide (e.1 = b1.1) && _) = _
            rw [hb]
            rfl
    | _ =>
      fail "xs"
      exact fin false rfl
  | _ =>
    fail "xs"
    exact fin false rfl
end
end Pk
/-! X6 (printed by gen/mk.py) -/
namespace Pk
open PySem PySem.Spec PyProof.Rows L2 C8

local macro_rules | `(tactic| fail "x1") => `(tactic| (first
  | (guard_target =~ EX _ _ _ _ _; first
    | ((with_reducible apply ex_var); exact rfl)
    | with_reducible refine ex_int ?_
    | with_reducible refine ex_op ?_
    | with_reducible refine ex_cb ?_
    | with_reducible refine ex_str ?_
    | with_reducible refine ex_non ?_
    | with_reducible refine ex_bl ?_
    | with_reducible refine ex_ty ?_
    | with_reducible refine ex_call1 ?_
    | with_reducible refine ex_if ?_
    | with_reducible refine ex_and ?_
    | with_reducible refine ex_or ?_
    | with_reducible refine ex_not ?_
    | with_reducible refine ex_chain ?_
    | with_reducible refine ex_tup ?_
    | with_reducible refine ex_lst ?_
    | with_reducible refine ex_append ?_
    | with_reducible refine ex_disp1N ?_
    | with_reducible refine ex_newN ?_
    | with_reducible refine ex_frzV ?_
    | with_reducible refine ex_frzDV ?_
    | with_reducible refine ex_frzL ?_
    | with_reducible refine ex_frzSl ?_
    | with_reducible refine ex_frzRev ?_
    | with_reducible refine ex_frzRg ?_
    | with_reducible refine ex_un ?_
    | with_reducible refine ex_slT ?_
    | with_reducible refine ex_slL ?_
    | fail "stop")
  | (guard_target =~ AX _ _ _ _ _; first
    | with_reducible refine ax_cons ?_
    | with_reducible refine ax_nil ?_
    | fail "stop")
  | (guard_target =~ SX _ _ _ _ _; first
    | with_reducible refine sx_seq ?_
    | with_reducible refine sx_set ?_
    | with_reducible refine sx_if ?_
    | with_reducible refine sx_ret ?_
    | with_reducible refine sx_next ?_
    | with_reducible refine sx_asg ?_
    | with_reducible refine sx_drop ?_
    | with_reducible refine sx_par ?_
    | with_reducible refine sx_par3 ?_
    | ((with_reducible apply sx_aug); exact rfl)
    | fail "stop")
  | (guard_target =~ TX _ _ _ _ _; first
    | with_reducible refine tx_b ?_
    | with_reducible refine tx_test ?_
    | with_reducible refine tx_and ?_
    | with_reducible refine tx_or ?_
    | with_reducible refine tx_not ?_
    | with_reducible refine tx_yes ?_
    | fail "stop")
  | (guard_target =~ RX _ _ _ _ _ _; first
    | with_reducible refine rx_add ?_
    | with_reducible refine rx_sub ?_
    | ((with_reducible apply rx_mod); (first | assumption | omega))
    | ((with_reducible apply rx_mul); (first | assumption | exact .inl ⟨by omega, by omega⟩))
    | with_reducible refine rx_lt ?_
    | with_reducible refine rx_le ?_
    | with_reducible refine rx_gt ?_
    | with_reducible refine rx_ge ?_
    | with_reducible refine rx_isN ?_
    | with_reducible refine rx_notN ?_
    | with_reducible refine rx_eqI ?_
    | with_reducible refine rx_neI ?_
    | with_reducible refine rx_eqRule ?_
    | with_reducible refine rx_eqS ?_
    | with_reducible refine rx_neS ?_
    | ((with_reducible apply rx_ix0); exact rfl; exact rfl)
    | ((with_reducible apply rx_ix1); exact rfl; exact rfl)
    | ((with_reducible apply rx_ix2); exact rfl; exact rfl)
    | ((with_reducible apply rx_ix3); exact rfl; exact rfl)
    | ((with_reducible apply rx_ix4); exact rfl; exact rfl)
    | ((with_reducible apply rx_ix5); exact rfl; exact rfl)
    | ((with_reducible apply rx_ix6); exact rfl; exact rfl)
    | ((with_reducible apply rx_ix7); exact rfl; exact rfl)
    | ((with_reducible apply rx_ix8); exact rfl; exact rfl)
    | ((with_reducible apply rx_ixL0); exact rfl; exact rfl)
    | ((with_reducible apply rx_ixL1); exact rfl; exact rfl)
    | fail "stop")
  | (guard_target =~ BX _ _ _ _ _; first
    | with_reducible refine bx_isInt ?_
    | with_reducible refine bx_isBool ?_
    | with_reducible refine bx_isStr ?_
    | with_reducible refine bx_isTup ?_
    | with_reducible refine bx_intI ?_
    | with_reducible refine bx_intB ?_
    | with_reducible refine bx_min2 ?_
    | with_reducible refine bx_max2 ?_
    | ((with_reducible apply bx_lenT); exact rfl)
    | ((with_reducible apply bx_lenL); exact rfl)
    | ((with_reducible apply bx_lenN); exact rfl)
    | fail "stop")
  | ((with_reducible apply gx_tup); exact rfl; exact rfl)
  | (guard_target =~ GsX _ _ _ _ _ _; first | refine gsx_cons ?_ | refine gsx_nil ?_ | fail "stop")
  | with_reducible refine gx_name ?_
  | with_reducible refine ox_some ?_
  | with_reducible refine ox_none ?_
  | with_reducible refine ux_neg ?_
  | refine ⟨_, rfl, Nat.le_of_ble_eq_true rfl, rfl, ?_⟩
  | refine ⟨_, rfl, Nat.le_of_ble_eq_true rfl, ?_⟩
  | refine ⟨_, _, rfl, rfl, rfl, ?_⟩
  | refine ⟨_, _, rfl, rfl, by assumption, ?_⟩
  | refine ⟨_, _, rfl, rfl, ?_⟩
  | refine ⟨_, _, _, rfl, ?_⟩
  | refine ⟨_, _, rfl, ?_⟩
  | refine ⟨_, rfl, ?_⟩
  | refine ⟨rfl, (_, some _, some _), rfl, trivial, ?_⟩
  | refine ⟨rfl, (_, some _, none), rfl, trivial, ?_⟩
  | refine ⟨rfl, (_, _), rfl, by assumption, ?_⟩
  | refine ⟨rfl, (_, _, _), rfl, by assumption, ?_⟩
  | refine ⟨rfl, (_, _, _, _), rfl, by assumption, ?_⟩
  | ((with_reducible intro c hc); subst hc)
  | refine ⟨fun hb => Bool.noConfusion hb, fun _ => ?_⟩
  | refine ⟨fun _ => ?_, fun hb => Bool.noConfusion hb⟩
  | dsimp only
  | fail "stop"))
local macro_rules | `(tactic| fail "xc") => `(tactic| (first | (refine ⟨fun hb => ?_, fun hb => ?_⟩ <;> first | exact Bool.noConfusion hb | skip) | fail "stop"))
local macro_rules | `(tactic| fail "xs") => `(tactic| repeat fail "x1")
local macro_rules | `(tactic| fail "xx") => `(tactic| repeat' (first | fail "x1" | fail "xc" | fail "stop"))
local macro_rules | `(tactic| fail "wk") => `(tactic| (first | (refine ⟨?_, rfl⟩; repeat (first | exact Wc.nil | refine Wc.keep (by first | exact trivial | exact Nat.le_of_ble_eq_true rfl) ?_ | refine Wc.drop ?_)) | fail "stop"))

section
variable {P : Program} {w : World} {K : PySem.W.Frag} {mg : Str → Option Value} {base : Heap}
theorem max_ge {l : List Int} {v : Int} (h : v ∈ l) : v ≤ maxL l := by
  cases l with
  | nil => cases h
  | cons a l => exact (fold_max l a).2 v h
theorem bound_max {w : Well} {t : Bool} {lo hi one other : Int} {c : Crew} {hs : List (Crew × Int)} (hk : keepH hs = hs) (h : boundB w t lo hi one other c hs = true) : 0 ≤ maxL (hs.map (·.2)) := by
  unfold boundB at h
  rw [hk, Bool.and_eq_true] at h
  cases e : look hs c with
  | none => rw [e] at h; cases h.1
  | some v =>
    rw [e] at h
    have h1 := of_decide_eq_true h.1
    have h2 := max_ge (List.mem_map_of_mem (f := (·.2)) (look_mem e))
    exact Int.le_trans h1 h2
abbrev sp__law_is_lead : Spec := Sp1 (α := LjA) ljA (fun x => JudP x.1 x.2.1 x.2.2.1 x.2.2.2.1 x.2.2.2.2.1 ∧ ∃ s p1 p2 p3, x.2.2.2.2.2 = .tuple [s, p1, p2, p3] ∧ RepOk p1 ∧ (∀ row, p2 = .tuple row → row.length ≤ 250000) ∧ ∀ ds, p3 = .tuple ds → ds.length ≤ 1000) fun x c => ∃ s p1 p2 p3, x.2.2.2.2.2 = .tuple [s, p1, p2, p3] ∧ c = .dat (.bool (leadB x.1 x.2.1 x.2.2.2.1 x.2.2.2.2.1 0 1 x.2.2.1 p1 p2 p3))
theorem cal__law_is_lead {f : Addr} {fd : FuncData} (T : Tp mg) (F : Def K mg "_law_is_lead" s__law_is_lead f fd) (B : Binds K fd ["_law_well_here", "_law_rule", "_law_crew", "_law_low", "_law_high", "_law_sheet"] []) (c__law_are_heights : Cal P w K mg base 5 "_law_are_heights" (spX P w K sp__law_are_heights) []) (c__law_led : Cal P w K mg base 3 "_law_led" (spX P w K sp__law_led) []) : Cal P w K mg base 6 "_law_is_lead" (spX P w K sp__law_is_lead) [] := by
  refine cal0 F B .nil sc__law_is_lead (sp1_len fun x => rfl) (fun cdv A outer s H vs Q E hr h => ?_)
  refine ⟨_, (pss_cons (ps_if (PW.pt (pw_or (pt_not (pt_val (pe_callB (r := rIsi K) call_isi (by rfl) T.b_isinstance bo_isinstance (pa_cons (pe_ix (r := rIxU K P w) (ix_u (hu16 hr)) (pv 5) pe_int (fun _ _ => rfl)) (pa_cons (pe_bltn (v := .ty "tuple") (u := .type "tuple") (by rfl) T.b_tuple bo_tuple rfl) pa_nil))))) (pw_or1 (pt_not (pt_val (pe_c c__law_are_heights hr (by decide) (by rfl) (pa_cons (pv 0) (pa_cons (pv 1) (pa_cons (pv 2) (pa_cons (pv 3) (pa_cons (pv 4) (pa_cons (pe_ix (r := rIxU K P w) (ix_u (hu16 hr)) (pv 5) pe_int (fun _ _ => rfl)) pa_nil)))))))))))) (pss_one (ps_ret pe_bl)) pss_nil) (pss_cons (ps_set (i := 6) sc__law_is_lead.nd rfl (Or.inl rfl) (pe_c c__law_led hr (by decide) (by rfl) (pa_cons (pv 0) (pa_cons (pv 1) (pa_cons (pv 2) (pa_cons (pe_ix (r := rIxU K P w) (ix_u (hu16 hr)) (pv 5) pe_int (fun _ _ => rfl)) (pa_cons (pv 3) (pa_cons (pv 4) (pa_cons pe_int (pa_cons pe_int pa_nil)))))))))) (pss_cons (ps_if (PW.pt (pw_or (pt_cmpR op_isN (pv 6) pe_non (nomark _)) (pw_or1 (pt_cmpR (r := rNeU K) (op_neU (hu64 hr)) (pe_callB (call_rep (hu1 hr)) (by rfl) T.b_repr bo_repr (pa_cons (pe_ix (r := rIxU K P w) (ix_u (hu16 hr)) (pv 6) pe_int (fun _ _ => rfl)) pa_nil)) (pe_callB (call_rep (hu1 hr)) (by rfl) T.b_repr bo_repr (pa_cons (pe_ix (r := rIxU K P w) (ix_u (hu16 hr)) (pv 5) pe_int (fun _ _ => rfl)) pa_nil)) (nomark _))))) (pss_one (ps_ret pe_bl)) pss_nil) (pss_one (ps_ret (pe_cmpR (r := rEqU K) (op_eqU (hu64 hr)) (pe_ix (r := rIxU K P w) (ix_u (hu16 hr)) (pv 5) pe_int (fun _ _ => rfl)) (pe_callB (r := rMax K) (cr_max rfl) (by rfl) T.b_max bo_max (pa_cons (pe_frz (pe_lc (own := [("_law_pair", 7)]) (g := (gName 7)) rfl sc__law_is_lead.nd (pi_tup (pe_ix (r := rIxU K P w) (ix_u (hu16 hr)) (pv 5) pe_int (fun _ _ => rfl))) (blkOk_by (N := N__law_is_lead) (sc := fnScope s__law_is_lead) (by decide +kernel)) (fun _ _ _ _ _ => (pg_name (i := 7) sc__law_is_lead.nd rfl (Or.inl rfl))) (fun _ _ _ _ _ => pts_nil) (fun _ _ _ _ _ => (pe_ix (r := rIxU K P w) (ix_u (hu16 hr)) (pv 7) pe_int (fun _ _ => rfl))))) pa_nil)) (nomark _))))))), ?_⟩
  try dsimp only [cxOf, L2.Cx.nox, L2.Cx.wish, L2.Cx.blk]
  refine enter1 h fun x hx => ?_
  change SX _ _ [_, _, _, _, _, _, none, none] [] _
  obtain ⟨w0, t, c0, lo, hi, paper⟩ := x
  obtain ⟨hj, s0, p1, p2, p3, rfl, hrp, hrw, hz⟩ := hx
  dsimp only at hj
  have ok := hj.ok
  have hc := hj.cr
  have hsp := hj.sp
  change SX _ _ [some (.dat w0.d), some (.dat (ruleD t)), some (.dat c0.d), some (.dat (.int lo)), some (.dat (.int hi)), some (.dat (.tuple [s0, p1, p2, p3])), none, none] [] _
  have fin : ∀ b : Bool, leadB w0 t lo hi 0 1 c0 p1 p2 p3 = b → ImC (Cl.dat (.bool b)) ∧ ∃ s q1 q2 q3, PyData.tuple [s0, p1, p2, p3] = .tuple [s, q1, q2, q3] ∧ Cl.dat (.bool b) = .dat (.bool (leadB w0 t lo hi 0 1 c0 q1 q2 q3)) := fun b h => ⟨trivial, s0, p1, p2, p3, rfl, by rw [h]⟩
  cases p2 with
  | tuple row =>
    cases p3 with
    | tuple ds =>
      fail "xs"
      refine ⟨rfl, (w0, t, c0, lo, hi, .tuple ds), rfl, ⟨ok, hsp, fun es e => by cases e; exact hz ds rfl⟩, ?_⟩
      fail "xs"
      refine ⟨fun hb => ?_, fun hb => ?_⟩
      · have hh : bothB w0 t lo hi c0 (.tuple ds) = false := by simpa only [Bool.not_eq_true'] using hb
        fail "xs"
        refine fin false ?_
        by_cases h1 : heightsB w0 t (.tuple ds) = true
        · have h2 : boundB w0 t lo hi 0 1 c0 (ds.map heightOf) = false := by
            have : (heightsB w0 t (.tuple ds) && boundB w0 t lo hi 0 1 c0 (ds.map heightOf)) = false := hh
            rw [h1, Bool.true_and] at this
            exact this
          rw [lead_eq h1]
          unfold leadC
          split
          · split
            · rw [h2, Bool.and_false, Bool.false_and]
            · rfl
          · rfl
        · show (heightsB w0 t (.tuple ds) && _) = false
          rw [show heightsB w0 t (.tuple ds) = false by simpa using h1]
          rfl
      have hh : (heightsB w0 t (.tuple ds) && boundB w0 t lo hi 0 1 c0 (ds.map heightOf)) = true := by
        have : bothB w0 t lo hi c0 (.tuple ds) = true := by simpa only [Bool.not_eq_false'] using hb
        exact this
      rw [Bool.and_eq_true] at hh
      obtain ⟨hh, hbd⟩ := hh
      have hlb := lead_eq (lo := lo) (hi := hi) (one := 0) (other := 1) (c := c0) (p1 := p1) (row := row) hh
      have h3 : (ds.all (hgtB w0 t) && riseB ds) = true := hh
      rw [Bool.and_eq_true] at h3
      obtain ⟨hs, rfl, hok⟩ := hgts_of h3.1
      rw [heights_back] at hlb hbd
      have hkeep := keep_same h3.2
      have hmx := bound_max hkeep hbd
      fail "xs"
      refine ⟨rfl, (w0, t, c0, row, lo, hi, 0, 1), rfl, ⟨ok, hc⟩, ?_⟩
      fail "xs"
      cases hl : ledF w0 t lo hi 0 1 c0 0 row with
      | none =>
        rw [hl] at hlb
        fail "xs"
        exact fin false hlb
      | some e =>
        rw [hl] at hlb
        have hla := (led_ok ok hc hl).2
        have hrow := hrw row rfl
        unfold ledD
        fail "xs"
        refine bx_rep (d := .int e.2) (show e.2.natAbs.log2 < 1920 from ?_) ?_
        · have h4 : e.2.natAbs < 2 ^ 18 := by
            have : (2 : Nat) ^ 18 = 262144 := rfl
            omega
          by_cases h5 : e.2.natAbs = 0
          · rw [h5]; decide
          · have := (Nat.log2_lt h5).mpr h4
            omega
        rintro m1 rfl
        fail "xs"
        refine bx_rep hrp ?_
        rintro m2 hm2
        fail "xs"
        refine ⟨fun hb => ?_, fun hb => ?_⟩
        · fail "xs"
          refine fin false ?_
          rw [hlb]
          unfold leadC
          cases p1 with
          | int m =>
            have : ¬ e.2 = m := fun q => by
              cases hm2
              rw [q] at hb
              simp at hb
            show (decide (0 ≤ m) && decide (e.2 = m) && _ && _) = false
            rw [decide_eq_false this, Bool.and_false]
            rfl
          | _ => rfl
        · have hme : ((toString e.2 : String) : Str) = m2 := by simpa using hb
          cases p1 with
          | int m =>
            cases hm2
            have hem := int_same hme
            fail "xs"
            refine ex_lcM (tg_name (by decide)) (ix_tup ?_)
            fail "xs"
            refine ⟨rfl, onD fun d => .int (heightOf d).2, ?_, ?_, ?_⟩
            · rw [List.length_map, List.length_map]
              have := hz _ rfl
              rw [List.length_map] at this
              exact small (k := 1000) this rfl
            · refine each_dat fun i d acc e => ?_
              obtain ⟨p, hp, rfl⟩ := map_at e
              refine gx_name ?_
              unfold heightD
              fail "xs"
              exact ⟨rfl, rfl⟩
            rw [map_onD]
            fail "xs"
            have hmm : (List.map heightD hs).map (fun d => PyData.int (heightOf d).2) = (hs.map (·.2)).map .int := by
              rw [List.map_map, List.map_map]
              refine List.map_congr_left fun p _ => ?_
              show PyData.int (heightOf (heightD p)).2 = _
              rw [heightOf_d]
              rfl
            refine bx_max (ns := hs.map (·.2)) (by show some _ = some _; rw [hmm]) (by rw [List.length_map]; exact bound_look hbd) ?_
            intro z hz1 hz2
            fail "xs"
            refine fin _ ?_
            rw [hlb, maxL_eq hz1 hz2]
            show (decide (0 ≤ m) && decide (e.2 = m) && boundB w0 t lo hi 0 1 c0 hs && decide (m = maxL (hs.map (·.2)))) = _
            rw [hbd, decide_eq_true hem, Bool.and_true, Bool.and_true]
            by_cases hq : m = maxL (hs.map (·.2))
            · rw [decide_eq_true hq, decide_eq_true (by omega : 0 ≤ m)]; rfl
            · rw [decide_eq_false hq, Bool.and_false]
          | _ => exact absurd hme (rep_other hm2 fun j q => by cases q)
    | _ =>
      fail "xs"
      refine ⟨rfl, (w0, t, c0, lo, hi, _), rfl, ⟨ok, hsp, fun es e => by cases e⟩, ?_⟩
      fail "xs"
      exact fin false rfl
  | _ =>
    fail "xs"
    exact fin false rfl
end
end Pk
/-! X7 (printed by gen/mk.py) -/
namespace Pk
open PySem PySem.Spec PyProof.Rows L2 C8

local macro_rules | `(tactic| fail "x1") => `(tactic| (first
  | (guard_target =~ EX _ _ _ _ _; first
    | ((with_reducible apply ex_var); exact rfl)
    | with_reducible refine ex_int ?_
    | with_reducible refine ex_op ?_
    | with_reducible refine ex_cb ?_
    | with_reducible refine ex_str ?_
    | with_reducible refine ex_non ?_
    | with_reducible refine ex_bl ?_
    | with_reducible refine ex_ty ?_
    | with_reducible refine ex_call1 ?_
    | with_reducible refine ex_if ?_
    | with_reducible refine ex_and ?_
    | with_reducible refine ex_or ?_
    | with_reducible refine ex_not ?_
    | with_reducible refine ex_chain ?_
    | with_reducible refine ex_tup ?_
    | with_reducible refine ex_lst ?_
    | with_reducible refine ex_append ?_
    | with_reducible refine ex_disp1N ?_
    | with_reducible refine ex_newN ?_
    | with_reducible refine ex_frzV ?_
    | with_reducible refine ex_frzDV ?_
    | with_reducible refine ex_frzL ?_
    | with_reducible refine ex_frzSl ?_
    | with_reducible refine ex_frzRev ?_
    | with_reducible refine ex_frzRg ?_
    | with_reducible refine ex_un ?_
    | with_reducible refine ex_slT ?_
    | with_reducible refine ex_slL ?_
    | fail "stop")
  | (guard_target =~ AX _ _ _ _ _; first
    | with_reducible refine ax_cons ?_
    | with_reducible refine ax_nil ?_
    | fail "stop")
  | (guard_target =~ SX _ _ _ _ _; first
    | with_reducible refine sx_seq ?_
    | with_reducible refine sx_set ?_
    | with_reducible refine sx_if ?_
    | with_reducible refine sx_ret ?_
    | with_reducible refine sx_next ?_
    | with_reducible refine sx_asg ?_
    | with_reducible refine sx_drop ?_
    | with_reducible refine sx_par ?_
    | with_reducible refine sx_par3 ?_
    | ((with_reducible apply sx_aug); exact rfl)
    | fail "stop")
  | (guard_target =~ TX _ _ _ _ _; first
    | with_reducible refine tx_b ?_
    | with_reducible refine tx_test ?_
    | with_reducible refine tx_and ?_
    | with_reducible refine tx_or ?_
    | with_reducible refine tx_not ?_
    | with_reducible refine tx_yes ?_
    | fail "stop")
  | (guard_target =~ RX _ _ _ _ _ _; first
    | with_reducible refine rx_add ?_
    | with_reducible refine rx_sub ?_
    | ((with_reducible apply rx_mod); (first | assumption | omega))
    | ((with_reducible apply rx_mul); (first | assumption | exact .inl ⟨by omega, by omega⟩))
    | with_reducible refine rx_lt ?_
    | with_reducible refine rx_le ?_
    | with_reducible refine rx_gt ?_
    | with_reducible refine rx_ge ?_
    | with_reducible refine rx_isN ?_
    | with_reducible refine rx_notN ?_
    | with_reducible refine rx_eqI ?_
    | with_reducible refine rx_neI ?_
    | with_reducible refine rx_eqRule ?_
    | with_reducible refine rx_eqS ?_
    | with_reducible refine rx_neS ?_
    | ((with_reducible apply rx_ix0); exact rfl; exact rfl)
    | ((with_reducible apply rx_ix1); exact rfl; exact rfl)
    | ((with_reducible apply rx_ix2); exact rfl; exact rfl)
    | ((with_reducible apply rx_ix3); exact rfl; exact rfl)
    | ((with_reducible apply rx_ix4); exact rfl; exact rfl)
    | ((with_reducible apply rx_ix5); exact rfl; exact rfl)
    | ((with_reducible apply rx_ix6); exact rfl; exact rfl)
    | ((with_reducible apply rx_ix7); exact rfl; exact rfl)
    | ((with_reducible apply rx_ix8); exact rfl; exact rfl)
    | ((with_reducible apply rx_ixL0); exact rfl; exact rfl)
    | ((with_reducible apply rx_ixL1); exact rfl; exact rfl)
    | fail "stop")
  | (guard_target =~ BX _ _ _ _ _; first
    | with_reducible refine bx_isInt ?_
    | with_reducible refine bx_isBool ?_
    | with_reducible refine bx_isStr ?_
    | with_reducible refine bx_isTup ?_
    | with_reducible refine bx_intI ?_
    | with_reducible refine bx_intB ?_
    | with_reducible refine bx_min2 ?_
    | with_reducible refine bx_max2 ?_
    | ((with_reducible apply bx_lenT); exact rfl)
    | ((with_reducible apply bx_lenL); exact rfl)
    | ((with_reducible apply bx_lenN); exact rfl)
    | fail "stop")
  | ((with_reducible apply gx_tup); exact rfl; exact rfl)
  | (guard_target =~ GsX _ _ _ _ _ _; first | refine gsx_cons ?_ | refine gsx_nil ?_ | fail "stop")
  | with_reducible refine gx_name ?_
  | with_reducible refine ox_some ?_
  | with_reducible refine ox_none ?_
  | with_reducible refine ux_neg ?_
  | refine ⟨_, rfl, Nat.le_of_ble_eq_true rfl, rfl, ?_⟩
  | refine ⟨_, rfl, Nat.le_of_ble_eq_true rfl, ?_⟩
  | refine ⟨_, _, rfl, rfl, rfl, ?_⟩
  | refine ⟨_, _, rfl, rfl, by assumption, ?_⟩
  | refine ⟨_, _, rfl, rfl, ?_⟩
  | refine ⟨_, _, _, rfl, ?_⟩
  | refine ⟨_, _, rfl, ?_⟩
  | refine ⟨_, rfl, ?_⟩
  | refine ⟨rfl, (_, some _, some _), rfl, trivial, ?_⟩
  | refine ⟨rfl, (_, some _, none), rfl, trivial, ?_⟩
  | refine ⟨rfl, (_, _), rfl, by assumption, ?_⟩
  | refine ⟨rfl, (_, _, _), rfl, by assumption, ?_⟩
  | refine ⟨rfl, (_, _, _, _), rfl, by assumption, ?_⟩
  | ((with_reducible intro c hc); subst hc)
  | refine ⟨fun hb => Bool.noConfusion hb, fun _ => ?_⟩
  | refine ⟨fun _ => ?_, fun hb => Bool.noConfusion hb⟩
  | dsimp only
  | fail "stop"))
local macro_rules | `(tactic| fail "xc") => `(tactic| (first | (refine ⟨fun hb => ?_, fun hb => ?_⟩ <;> first | exact Bool.noConfusion hb | skip) | fail "stop"))
local macro_rules | `(tactic| fail "xs") => `(tactic| repeat fail "x1")
local macro_rules | `(tactic| fail "xx") => `(tactic| repeat' (first | fail "x1" | fail "xc" | fail "stop"))
local macro_rules | `(tactic| fail "wk") => `(tactic| (first | (refine ⟨?_, rfl⟩; repeat (first | exact Wc.nil | refine Wc.keep (by first | exact trivial | exact Nat.le_of_ble_eq_true rfl) ?_ | refine Wc.drop ?_)) | fail "stop"))

section
variable {P : Program} {w : World} {K : PySem.W.Frag} {mg : Str → Option Value} {base : Heap}
def verdD : Verd → PyData
  | .good s => .str s
  | .bad s => .list [.str s]
/-- what is asked of a sheet by the law's own judge -/
structure SheetP (d : PyData) : Prop where
  rep : ∀ s p1 p2 p3, d = .tuple [s, p1, p2, p3] → RepOk p1
  row : ∀ s p1 p2 p3 row, d = .tuple [s, p1, p2, p3] → p2 = .tuple row → row.length ≤ 250000
  hgt : ∀ s p1 p2 p3 ds, d = .tuple [s, p1, p2, p3] → p3 = .tuple ds → ds.length ≤ 1000
  few : ∀ es, d = .tuple es → es.length ≤ 1000
theorem any34 (n : Nat) : ([PyData.int 3, .int 4].any fun z => PyData.eqv z (.int (n : Nat))) = decide (n = 3 ∨ n = 4) := by
  simp only [List.any_cons, List.any_nil, Bool.or_false, PyData.eqv, Bool.decide_or]
  congr 1
  · rw [Bool.eq_iff_iff]; simp; omega
  · rw [Bool.eq_iff_iff]; simp; omega
abbrev sp__law_due : Spec := Sp1 (α := LjA) ljA (fun x => JudP x.1 x.2.1 x.2.2.1 x.2.2.2.1 x.2.2.2.2.1 ∧ SheetP x.2.2.2.2.2) fun x c => c = .dat (verdD (judge x.1 x.2.1 x.2.2.2.1 x.2.2.2.2.1 0 1 x.2.2.1 x.2.2.2.2.2))
theorem cal__law_due {f : Addr} {fd : FuncData} (T : Tp mg) (F : Def K mg "_law_due" s__law_due f fd) (B : Binds K fd ["_law_well_here", "_law_rule", "_law_crew", "_law_low", "_law_high", "_law_sheet"] []) (c__law_is_lead : Cal P w K mg base 6 "_law_is_lead" (spX P w K sp__law_is_lead) []) (c__law_is_endless : Cal P w K mg base 4 "_law_is_endless" (spX P w K sp__law_is_endless) []) : Cal P w K mg base 7 "_law_due" (spX P w K sp__law_due) [] := by
  refine cal0 F B .nil sc__law_due (sp1_len fun x => rfl) (fun cdv A outer s H vs Q E hr h => ?_)
  refine ⟨_, (pss_cons (ps_if (PW.pt (pw_or (pt_not (pt_val (pe_callB (r := rIsi K) call_isi (by rfl) T.b_isinstance bo_isinstance (pa_cons (pv 5) (pa_cons (pe_bltn (v := .ty "tuple") (u := .type "tuple") (by rfl) T.b_tuple bo_tuple rfl) pa_nil))))) (pw_or (pt_cmpR (r := rInU K P w true) (op_notInU (hu65 hr)) (pe_callB (r := rLenU K P w) call_lenU (by rfl) T.b_len bo_len (pa_cons (pv 5) pa_nil)) (pe_tupP (pa_cons pe_int (pa_cons pe_int pa_nil))) (by rfl)) (pw_or1 (pt_not (pt_val (pe_callB (r := rIsi K) call_isi (by rfl) T.b_isinstance bo_isinstance (pa_cons (pe_ix (r := rIxU K P w) (ix_u (hu16 hr)) (pv 5) pe_int (fun _ _ => rfl)) (pa_cons (pe_bltn (v := .ty "str") (u := .type "str") (by rfl) T.b_str bo_str rfl) pa_nil))))))))) (pss_one (ps_ret (pe_frz (pe_lst (pa_cons pe_str pa_nil))))) pss_nil) (pss_cons (ps_if (pt_cmpR (r := rNeU K) (op_neU (hu64 hr)) (pe_ix (r := rIxU K P w) (ix_u (hu16 hr)) (pv 5) pe_int (fun _ _ => rfl)) (pe_ifExp (pt_cmpR (r := rEqU K) (op_eqU (hu64 hr)) (pe_callB (r := rLenU K P w) call_lenU (by rfl) T.b_len bo_len (pa_cons (pv 5) pa_nil)) pe_int (nomark _)) pe_str pe_str) (nomark _)) (pss_one (ps_ret (pe_frz (pe_lst (pa_cons pe_str pa_nil))))) pss_nil) (pss_cons (ps_if (pt_cmpR (r := rEqU K) (op_eqU (hu64 hr)) (pe_ix (r := rIxU K P w) (ix_u (hu16 hr)) (pv 5) pe_int (fun _ _ => rfl)) pe_str (nomark _)) (pss_one (ps_ret (pe_ifExp (pt_val (pe_c c__law_is_lead hr (by decide) (by rfl) (pa_cons (pv 0) (pa_cons (pv 1) (pa_cons (pv 2) (pa_cons (pv 3) (pa_cons (pv 4) (pa_cons (pv 5) pa_nil)))))))) pe_str (pe_frz (pe_lst (pa_cons pe_str pa_nil)))))) pss_nil) (pss_one (ps_ret (pe_ifExp (pt_val (pe_c c__law_is_endless hr (by decide) (by rfl) (pa_cons (pv 0) (pa_cons (pv 1) (pa_cons (pv 2) (pa_cons (pv 3) (pa_cons (pv 4) (pa_cons (pv 5) pa_nil)))))))) pe_str (pe_frz (pe_lst (pa_cons pe_str pa_nil))))))))), ?_⟩
  try dsimp only [cxOf, L2.Cx.nox, L2.Cx.wish, L2.Cx.blk]
  refine enter1 h fun x hx => ?_
  change SX _ _ [_, _, _, _, _, _] [] _
  obtain ⟨w0, t, c0, lo, hi, sheet⟩ := x
  obtain ⟨hj, hs⟩ := hx
  dsimp only at hj hs
  change SX _ _ [some (.dat w0.d), some (.dat (ruleD t)), some (.dat c0.d), some (.dat (.int lo)), some (.dat (.int hi)), some (.dat sheet)] [] _
  cases sheet with
  | tuple es =>
    have hsh : ∀ n : Int, SeqAt.shaped (.int n) = true := fun n => by simp [SeqAt.shaped, PyData.canLay0, PyData.depth]
    have bad : es.length ≠ 3 → es.length ≠ 4 → judge w0 t lo hi 0 1 c0 (.tuple es) = .bad "form" := fun h1 h2 => by
      match es, h1, h2 with
      | [], _, _ => rfl
      | [a], _, _ => cases a <;> rfl
      | [a, b], _, _ => cases a <;> rfl
      | [a, b, c], h1, _ => exact absurd rfl h1
      | [a, b, c, d], _, h2 => exact absurd rfl h2
      | a :: b :: c :: d :: e :: r, _, _ => cases a <;> rfl
    fail "xs"
    refine rx_notInT rfl rfl (hsh _) (by decide +kernel) ?_
    rw [any34]
    by_cases h34 : es.length = 3 ∨ es.length = 4
    · rw [decide_eq_true h34]
      match es, h34, hs with
      | [a, b, c], _, hs =>
        cases a with
        | str s =>
          fail "xs"
          refine ⟨fun hb => ?_, fun hb => ?_⟩
          · fail "xs"
            refine ⟨trivial, ?_⟩
            have : ¬ s = "endless" := fun e => by rw [e] at hb; exact Bool.noConfusion hb
            show _ = Cl.dat (verdD (if s = "endless" then _ else _))
            rw [if_neg this]
            rfl
          · have : s = "endless" := by simpa using hb
            subst this
            fail "xs"
            refine ⟨rfl, (w0, t, c0, lo, hi, .tuple [.str "endless", b, c]), rfl, ⟨hj, _, _, _, rfl⟩, ?_⟩
            rintro c' ⟨s1, q1, q2, e, rfl⟩
            cases e
            have hJ : judge w0 t lo hi 0 1 c0 (.tuple [.str "endless", b, c]) = if endB w0 t lo hi 0 1 c0 b c then .good "endless" else .bad "endless" := rfl
            rw [hJ]
            cases endB w0 t lo hi 0 1 c0 b c with
            | true => fail "xs"; exact ⟨trivial, rfl⟩
            | false => fail "xs"; exact ⟨trivial, rfl⟩
        | _ =>
          fail "xs"
          exact ⟨trivial, rfl⟩
      | [a, b, c, d], _, hs =>
        cases a with
        | str s =>
          fail "xs"
          refine ⟨fun hb => ?_, fun hb => ?_⟩
          · fail "xs"
            refine ⟨trivial, ?_⟩
            have : ¬ s = "lead" := fun e => by rw [e] at hb; exact Bool.noConfusion hb
            show _ = Cl.dat (verdD (if s = "lead" then _ else _))
            rw [if_neg this]
            rfl
          · have : s = "lead" := by simpa using hb
            subst this
            fail "xs"
            refine ⟨rfl, (w0, t, c0, lo, hi, .tuple [.str "lead", b, c, d]), rfl, ⟨hj, _, _, _, _, rfl, hs.rep _ _ _ _ rfl, fun row e => hs.row _ _ _ _ row rfl e, fun ds e => hs.hgt _ _ _ _ ds rfl e⟩, ?_⟩
            rintro c' ⟨s1, q1, q2, q3, e, rfl⟩
            cases e
            have hJ : judge w0 t lo hi 0 1 c0 (.tuple [.str "lead", b, c, d]) = if leadB w0 t lo hi 0 1 c0 b c d then .good "lead" else .bad "lead" := rfl
            rw [hJ]
            cases leadB w0 t lo hi 0 1 c0 b c d with
            | true => fail "xs"; exact ⟨trivial, rfl⟩
            | false => fail "xs"; exact ⟨trivial, rfl⟩
        | _ =>
          fail "xs"
          exact ⟨trivial, rfl⟩
    · rw [decide_eq_false h34]
      fail "xs"
      rw [bad (fun h => h34 (.inl h)) (fun h => h34 (.inr h))]
      exact ⟨trivial, rfl⟩
  | _ =>
    fail "xs"
    exact ⟨trivial, rfl⟩
end
end Pk
/-! E, part 2: a def that may raise BadPaper, by its judgement; a local that holds a def; try .. except BadPaper as e. -/
namespace Pk
open PySem PySem.Spec PyProof.Rows L2 C8

theorem im_of_imB {cs : List Cl} (h : imB cs = true) : ∀ c ∈ cs, ImC c := imB_of h
/-- the promise: a word is told, or BadPaper of a word is raised -/
def spCk (P : Program) (w : World) (K : PySem.W.Frag) (Cc : Addr) {α : Type} (a : α → List Cl) (pre : α → Prop) (J : α → Verd) : Sp := fun vs H Q E => ∃ x, pre x ∧ Paired (Cv ⟨P, w, K, H⟩ [] H) (a x) vs ∧ imB (a x) = true ∧
  (∀ s, J x = .good s → ∀ H', Same H H' → Q (.str s) H') ∧ (∀ s, J x = .bad s → ∀ H' d, Same H H' → H' d = none → E (.ref Cc) (some d) (upd H' d (.xd [(("part" : Str), .str s)])))
theorem spCk_len {α : Type} {a : α → List Cl} {pre : α → Prop} {J : α → Verd} {P : Program} {w : World} {K : PySem.W.Frag} {Cc : Addr} {n : Nat} (h : ∀ x, (a x).length = n) : ∀ vs H Q E, spCk P w K Cc a pre J vs H Q E → vs.length = n := fun vs H Q E ⟨x, _, p, _⟩ => by
  rw [← Paired.length p]; exact h x
/-- its body -/
theorem enterC {α : Type} {a : α → List Cl} {pre : α → Prop} {J : α → Verd} {P : Program} {w : World} {K : PySem.W.Frag} {Cc : Addr} {N : List Str} {vs : List V} {H : Hp} {Q : VK} {E : XK} {t : TS} (h : spCk P w K Cc a pre J vs H Q E)
    (b : ∀ x, pre x → (∀ s, J x = .bad s → ∀ H' d, Same H H' → H' d = none → E (.ref Cc) (some d) (upd H' d (.xd [(("part" : Str), .str s)]))) →
      SX ⟨P, w, K, H⟩ t ((a x).map some ++ List.replicate (N.length - (a x).length) none) [] { nx := fun _ _ => False, rt := fun c _ => ∃ s, c = .dat (.str s) ∧ J x = .good s }) : t { nx := fun _ H' => Q .non H', rt := Q } (L2.start N vs) H := by
  obtain ⟨x, hp, hv, hi, hg, hb⟩ := h
  have e1 : spX P w K (fun cs R => cs = a x ∧ R = fun c => ∃ s, c = .dat (.str s) ∧ J x = .good s) vs H Q E := by
    refine ⟨a x, _, hv, imB_of hi, ⟨rfl, rfl⟩, fun c v H' sm ic hc ⟨s, e, q⟩ => ?_⟩
    subst e
    rw [cv_strE hc]
    exact hg s q H' sm
  refine enter e1 fun cs R ⟨e, eR⟩ => ?_
  subst e eR
  intro as H' σ D r s kn kr kb kc
  exact b x hp hb as H' σ D r s (fun _ _ _ _ _ _ _ _ h => h.elim) (fun c os' as' H' v r' x' hc ⟨s, e, q⟩ => kr c os' as' H' v r' x' hc ⟨by rw [e]; trivial, s, e, q⟩) (fun _ _ _ _ _ _ _ _ h => h.elim) fun _ _ _ _ _ _ _ _ h => h.elim
section
variable {C : Kx} {os : List OV} {γ : List (Option Cl)} {R : Cl → List OV → Prop} {t : TA} {En : En}
theorem sx_raise {Cc : Addr} {W : WX} (h : AX C t γ os fun cs os1 => ∃ s, cs = [.dat (.str s)] ∧ ∀ σ H' d, Same C.H0 H' → H' d = none → W (.ref Cc) (some d) σ (upd H' d (.xd [(("part" : Str), .str s)]))) : SX C (tRaisePart Cc W t) γ os En := fun as H σ D r s kn kr kb kc =>
  h as H σ _ r s fun cs os1 as1 H1 vs r1 l1 hv ⟨s, e, q⟩ => by
    subst e
    obtain ⟨x, rfl, hx⟩ := paired1 hv
    exact ⟨x, rfl, fun d hd => by rw [cv_strE hx]; exact q σ H1 d r1.same hd⟩
theorem ex_cv1 {i : Nat} {f1 f2 : Addr} {sp1 sp2 : Sp} (e : γ[i]? = some (some (.fn f1))) (h : EX C (tCall sp1 [] C8.E0 t) γ os R) : EX C (tCallV i f1 f2 sp1 sp2 t) γ os R := fun as H σ Q r s k => by
  obtain ⟨v, h1, h2⟩ := s.at_ i _ e
  rw [show v = .ref f1 from h2] at h1
  refine .inl ⟨h1, ?_⟩
  have z := h as H σ Q r s k
  have e0 : (fun (vs : List V) (H1 : Hp) => sp1 (vs ++ []) H1 Q C8.E0) = fun vs H1 => sp1 vs H1 Q C8.E0 := by
    funext vs H1
    rw [List.append_nil]
  have z : t σ H (fun (vs : List V) (H1 : Hp) => sp1 (vs ++ []) H1 Q C8.E0) := z
  rw [e0] at z
  exact z
theorem ex_cv2 {i : Nat} {f1 f2 : Addr} {sp1 sp2 : Sp} (e : γ[i]? = some (some (.fn f2))) (h : EX C (tCall sp2 [] C8.E0 t) γ os R) : EX C (tCallV i f1 f2 sp1 sp2 t) γ os R := fun as H σ Q r s k => by
  obtain ⟨v, h1, h2⟩ := s.at_ i _ e
  rw [show v = .ref f2 from h2] at h1
  refine .inr ⟨h1, ?_⟩
  have z := h as H σ Q r s k
  have e0 : (fun (vs : List V) (H1 : Hp) => sp2 (vs ++ []) H1 Q C8.E0) = fun vs H1 => sp2 vs H1 Q C8.E0 := by
    funext vs H1
    rw [List.append_nil]
  have z : t σ H (fun (vs : List V) (H1 : Hp) => sp2 (vs ++ []) H1 Q C8.E0) := z
  rw [e0] at z
  exact z
/-- the suite: slot i = [e.part] -/
def tSuite (Cc : Addr) (i j : Nat) : Addr → Value → Option Addr → TS := fun a cls d => tAsg (tFrz (tLst (tCons (tByPart Cc a cls d (tVar j)) tNil))) (gName i)
/-- try: slot i = f(..) except BadPaper as slot j: slot i = [e.part] -/
theorem sx_try {Cc : Addr} {i j : Nat} {α : Type} {a : α → List Cl} {pre : α → Prop} {J : α → Verd} (te : PySem.W.exmOne C.K (.ref Cc) (.ref Cc) = some true) (hij : i ≠ j) (hi : i < γ.length) (hj : γ[j]? = some none)
    (h : AX C t γ os fun cs os1 => imB cs = true ∧ ∃ x, cs = a x ∧ pre x ∧ En.nx (γ.set i (some (.dat (verdD (J x))))) os1) :
    SX C (fun D σ H => tAsg (tCallS (spCk C.P C.w C.K Cc a pre J) (WE (wAs C.K (.ref Cc) j (tSuite Cc i j) (fun _ _ _ _ => False) D)) t) (gName i) D σ H) γ os En := fun as H σ D r s kn kr kb kc =>
  h as H σ _ r s fun cs os1 as1 H1 vs r1 l1 hv ⟨him, x, e, hp, q⟩ => by
    subst e
    have s1 := s.mono l1
    refine ⟨x, hp, paired_imp (F := Cv C as1 H1) (G := Cv ⟨C.P, C.w, C.K, H1⟩ [] H1) (fun c hc v hv => im_at (C := C) (C' := ⟨C.P, C.w, C.K, H1⟩) rfl rfl rfl (imB_of him c hc) hv) hv, him, fun w hw H' sm => ?_, fun w hw H' d sm hd => ?_⟩
    · have l2 := l1.trans (Le.same sm)
      refine kn _ os1 as1 H' _ (r1.grow sm) l2.ex ((s1.mono (Le.same sm)).set (i := i) (c := .dat (.str w)) cv_str) ?_
      rw [hw] at q
      exact q
    · refine ⟨true, te, fun _ b hb => ?_, fun z => nomatch z⟩
      have sm2 : Same H1 (upd H' d (.xd [(("part" : Str), .str w)])) := sm.trans (same_new hd)
      have hjl : j < σ.length := by rw [s.len]; exact (List.getElem?_eq_some_iff.mp hj).1
      have hil : i < σ.length := by rw [s.len]; exact hi
      refine ⟨.ref b, List.getElem?_set_self hjl, rfl, rfl, d, .str w, rfl, upd_same, ?_⟩
      refine ⟨Nat.le_of_ble_eq_true rfl, fun p hp2 => ⟨p, [.str w], rfl, upd_same, fun o => ?_⟩⟩
      have sm3 : Same (upd H' d (.xd [(("part" : Str), .str w)])) (upd (upd (upd H' d (.xd [(("part" : Str), .str w)])) p (.lst [.str w])) p (.frz o (.lst [.str w]))) := fun y u e => by
        have hy : y ≠ p := ne_of_none e hp2
        rw [upd_ne hy, upd_ne hy]
        exact e
      have sm4 := sm2.trans sm3
      have l2 := l1.trans (Le.same sm4)
      refine kn (γ.set i (some (.dat (verdD (J x))))) os1 as1 _ _ (r1.grow sm4) l2.ex ⟨?_, fun m c hm => ?_⟩ q
      · simp [s.len]
      · by_cases e1 : m = i
        · subst e1
          rw [List.getElem?_set_self hi] at hm
          cases hm
          refine ⟨.ref p, ?_, ?_⟩
          · rw [List.getElem?_set_ne (Ne.symm hij), List.getElem?_set_self (by rw [List.length_set]; exact hil)]
          · rw [hw]
            show Dd _ (.list [.str w]) (.ref p)
            exact dd_lst.mpr ⟨p, o, [.str w], rfl, upd_same, DdAll.cons (dd_str.mpr rfl) DdAll.nil⟩
        · rw [List.getElem?_set_ne (Ne.symm e1)] at hm
          have e2 : m ≠ j := fun z => by rw [z, hj] at hm; cases hm
          obtain ⟨v, g1, g2⟩ := s1.at_ m c hm
          refine ⟨v, ?_, g2.mono (Le.same sm4)⟩
          rw [List.getElem?_set_ne (Ne.symm e2), List.getElem?_set_ne (Ne.symm e1), List.getElem?_set_ne (Ne.symm e2)]
          exact g1
end
/-- a def of the module that may raise -/
structure CalX (P : Program) (w : World) (K : PySem.W.Frag) (mg : Str → Option Value) (base : Heap) (k : Nat) (x : Str) (sp : Sp) : Prop where
  ex : ∃ (f : Addr) (fd : FuncData) (ps : List Str), FnOk P w K mg base (L2.CX P w) k f fd ps sp ∧ mg x = some (.ref f) ∧ PySem.W.keepIn K (.ref f) = true ∧ Binds K fd ps []
theorem calX {P : Program} {w : World} {K : PySem.W.Frag} {mg : Str → Option Value} {base : Heap} {x : Str} {st : Stmt} {f : Addr} {fd : FuncData} {N ps : List Str} {k : Nat} {sp : Sp} (F : Def K mg x st f fd) (b : Binds K fd ps []) (S : FnScope N ps (fnScope st)) (len : ∀ vs H Q E, sp vs H Q E → vs.length = ps.length)
    (hbody : ∀ (cdv : Value) (A : Around) (outer : List Env) (s : Shared) (H : Hp) (vs : List V) (Q : VK) (E : XK), Room k (A.deeper (envOfC x (fnScope st) s.heap.objs.size f cdv)) → sp vs H Q E →
      ∃ t, PSs (cxOf (L2.CX P w) P w K mg base N x (fnScope st) f cdv A outer s H E) (fnBody st) t ∧ t { nx := fun _ H' => Q .non H', rt := Q } (start N vs) H) : CalX P w K mg base (k + 1) x sp := by
  obtain ⟨oc, od, dV, kV, doc, pm, an, cdv, ct, osl, rfl, lk, hcd⟩ := F.fn.ex
  exact ⟨f, _, ps, fn_of lk hcd S len fun A outer s H vs Q E hr hsp => hbody cdv A outer s H vs Q E hr hsp, F.mgf, F.kp, b⟩
theorem pe_cX {X : Cx} {k j : Nat} {x : Str} {sp : Sp} {E : L2.St → XK} {p pos : Pos} {e : Expr} {es : List Expr} {t : TA} (c : CalX X.prog X.w X.K X.mg X.base k x sp) (hr : Room j X.A) (hk : k ≤ j) (hg : Gl X x) (hx : ∀ σ, PassesAt (L2.CX X.prog X.w) X σ (E σ)) (ha : PA X (e :: es) t)
    (hdb : (x == ("__debug__" : Str)) = false := by decide) (he : starEach (e :: es) X.env = (false, eval e X.env) :: starEach es X.env := by rfl) (hpl : (backTo pos (starEach es X.env)).any (·.1) = false := by rfl) :
    PE X (.Call (.Name x p) (e :: es) [] pos) (tCallS sp E t) := by
  obtain ⟨f, fd, ps, F, hm, kp, b⟩ := c.ex
  exact pe_callS F (hr.mono hk) hg hm kp b hx ha hdb he hpl
theorem calAt {P : Program} {w : World} {K : PySem.W.Frag} {mg : Str → Option Value} {base : Heap} {k : Nat} {x : Str} {sp : Sp} {f : Addr} (hm : mg x = some (.ref f)) (c : Cal P w K mg base k x sp []) : CalAt P w K mg base k f sp := by
  obtain ⟨f', fd, ps, ds, F, hm', kp, b, d⟩ := c.ex
  rw [hm] at hm'
  cases hm'
  cases d
  exact ⟨fd, ps, F, kp, b⟩
end Pk
/-! E3 (printed by gen/e3.py): check_lead, _law_outcome -/
namespace Pk
open PySem PySem.Spec PyProof.Rows L2 C8

local macro_rules | `(tactic| fail "x1") => `(tactic| (first
  | (guard_target =~ EX _ _ _ _ _; first
    | ((with_reducible apply ex_var); exact rfl)
    | with_reducible refine ex_int ?_
    | with_reducible refine ex_op ?_
    | with_reducible refine ex_cb ?_
    | with_reducible refine ex_str ?_
    | with_reducible refine ex_non ?_
    | with_reducible refine ex_bl ?_
    | with_reducible refine ex_ty ?_
    | with_reducible refine ex_call1 ?_
    | with_reducible refine ex_if ?_
    | with_reducible refine ex_and ?_
    | with_reducible refine ex_or ?_
    | with_reducible refine ex_not ?_
    | with_reducible refine ex_chain ?_
    | with_reducible refine ex_tup ?_
    | with_reducible refine ex_lst ?_
    | with_reducible refine ex_append ?_
    | with_reducible refine ex_disp1N ?_
    | with_reducible refine ex_newN ?_
    | with_reducible refine ex_frzV ?_
    | with_reducible refine ex_frzDV ?_
    | with_reducible refine ex_frzL ?_
    | with_reducible refine ex_frzSl ?_
    | with_reducible refine ex_frzRev ?_
    | with_reducible refine ex_frzRg ?_
    | with_reducible refine ex_un ?_
    | with_reducible refine ex_slT ?_
    | with_reducible refine ex_slL ?_
    | fail "stop")
  | (guard_target =~ AX _ _ _ _ _; first
    | with_reducible refine ax_cons ?_
    | with_reducible refine ax_nil ?_
    | fail "stop")
  | (guard_target =~ SX _ _ _ _ _; first
    | with_reducible refine sx_seq ?_
    | with_reducible refine sx_set ?_
    | with_reducible refine sx_if ?_
    | with_reducible refine sx_ret ?_
    | with_reducible refine sx_next ?_
    | with_reducible refine sx_asg ?_
    | with_reducible refine sx_drop ?_
    | with_reducible refine sx_par ?_
    | with_reducible refine sx_par3 ?_
    | ((with_reducible apply sx_aug); exact rfl)
    | fail "stop")
  | (guard_target =~ TX _ _ _ _ _; first
    | with_reducible refine tx_b ?_
    | with_reducible refine tx_test ?_
    | with_reducible refine tx_and ?_
    | with_reducible refine tx_or ?_
    | with_reducible refine tx_not ?_
    | with_reducible refine tx_yes ?_
    | fail "stop")
  | (guard_target =~ RX _ _ _ _ _ _; first
    | with_reducible refine rx_add ?_
    | with_reducible refine rx_sub ?_
    | ((with_reducible apply rx_mod); (first | assumption | omega))
    | ((with_reducible apply rx_mul); (first | assumption | exact .inl ⟨by omega, by omega⟩))
    | with_reducible refine rx_lt ?_
    | with_reducible refine rx_le ?_
    | with_reducible refine rx_gt ?_
    | with_reducible refine rx_ge ?_
    | with_reducible refine rx_isN ?_
    | with_reducible refine rx_notN ?_
    | with_reducible refine rx_eqI ?_
    | with_reducible refine rx_neI ?_
    | with_reducible refine rx_eqRule ?_
    | with_reducible refine rx_eqS ?_
    | with_reducible refine rx_neS ?_
    | ((with_reducible apply rx_ix0); exact rfl; exact rfl)
    | ((with_reducible apply rx_ix1); exact rfl; exact rfl)
    | ((with_reducible apply rx_ix2); exact rfl; exact rfl)
    | ((with_reducible apply rx_ix3); exact rfl; exact rfl)
    | ((with_reducible apply rx_ix4); exact rfl; exact rfl)
    | ((with_reducible apply rx_ix5); exact rfl; exact rfl)
    | ((with_reducible apply rx_ix6); exact rfl; exact rfl)
    | ((with_reducible apply rx_ix7); exact rfl; exact rfl)
    | ((with_reducible apply rx_ix8); exact rfl; exact rfl)
    | ((with_reducible apply rx_ixL0); exact rfl; exact rfl)
    | ((with_reducible apply rx_ixL1); exact rfl; exact rfl)
    | fail "stop")
  | (guard_target =~ BX _ _ _ _ _; first
    | with_reducible refine bx_isInt ?_
    | with_reducible refine bx_isBool ?_
    | with_reducible refine bx_isStr ?_
    | with_reducible refine bx_isTup ?_
    | with_reducible refine bx_intI ?_
    | with_reducible refine bx_intB ?_
    | with_reducible refine bx_min2 ?_
    | with_reducible refine bx_max2 ?_
    | ((with_reducible apply bx_lenT); exact rfl)
    | ((with_reducible apply bx_lenL); exact rfl)
    | ((with_reducible apply bx_lenN); exact rfl)
    | fail "stop")
  | ((with_reducible apply gx_tup); exact rfl; exact rfl)
  | (guard_target =~ GsX _ _ _ _ _ _; first | refine gsx_cons ?_ | refine gsx_nil ?_ | fail "stop")
  | with_reducible refine gx_name ?_
  | with_reducible refine ox_some ?_
  | with_reducible refine ox_none ?_
  | with_reducible refine ux_neg ?_
  | refine ⟨_, rfl, Nat.le_of_ble_eq_true rfl, rfl, ?_⟩
  | refine ⟨_, rfl, Nat.le_of_ble_eq_true rfl, ?_⟩
  | refine ⟨_, _, rfl, rfl, rfl, ?_⟩
  | refine ⟨_, _, rfl, rfl, by assumption, ?_⟩
  | refine ⟨_, _, rfl, rfl, ?_⟩
  | refine ⟨_, _, _, rfl, ?_⟩
  | refine ⟨_, _, rfl, ?_⟩
  | refine ⟨_, rfl, ?_⟩
  | refine ⟨rfl, (_, some _, some _), rfl, trivial, ?_⟩
  | refine ⟨rfl, (_, some _, none), rfl, trivial, ?_⟩
  | refine ⟨rfl, (_, _), rfl, by assumption, ?_⟩
  | refine ⟨rfl, (_, _, _), rfl, by assumption, ?_⟩
  | refine ⟨rfl, (_, _, _, _), rfl, by assumption, ?_⟩
  | ((with_reducible intro c hc); subst hc)
  | refine ⟨fun hb => Bool.noConfusion hb, fun _ => ?_⟩
  | refine ⟨fun _ => ?_, fun hb => Bool.noConfusion hb⟩
  | dsimp only
  | fail "stop"))
local macro_rules | `(tactic| fail "xc") => `(tactic| (first | (refine ⟨fun hb => ?_, fun hb => ?_⟩ <;> first | exact Bool.noConfusion hb | skip) | fail "stop"))
local macro_rules | `(tactic| fail "xs") => `(tactic| repeat fail "x1")
local macro_rules | `(tactic| fail "xx") => `(tactic| repeat' (first | fail "x1" | fail "xc" | fail "stop"))
local macro_rules | `(tactic| fail "wk") => `(tactic| (first | (refine ⟨?_, rfl⟩; repeat (first | exact Wc.nil | refine Wc.keep (by first | exact trivial | exact Nat.le_of_ble_eq_true rfl) ?_ | refine Wc.drop ?_)) | fail "stop"))

theorem takes0 {X : Cx} : Takes X (fun _ _ _ _ => False) := fun _ _ x => by
  obtain ⟨_, _, _, _, _, _, _, _, _, _, _, _, _, _, _, _, z⟩ := x
  exact z.elim
theorem form_bad {w : Well} {t : Bool} {lo hi one other : Int} {c : Crew} {es : List PyData} (h1 : es.length ≠ 3) (h2 : es.length ≠ 4) : judge w t lo hi one other c (.tuple es) = .bad "form" := by
  match es, h1, h2 with
  | [], _, _ => rfl
  | [a], _, _ => cases a <;> rfl
  | [a, b], _, _ => cases a <;> rfl
  | [a, b, c], h1, _ => exact absurd rfl h1
  | [a, b, c, d], _, h2 => exact absurd rfl h2
  | a :: b :: c :: d :: e :: r, _, _ => cases a <;> rfl
abbrev CkA : Type := LeadA × PyData
abbrev ckA (x : CkA) : List Cl := [.dat x.1.1.d, .dat (ruleD x.1.2.1), .dat x.1.2.2.1.d, .dat (.int x.1.2.2.2.1), .dat (.int x.1.2.2.2.2.1), .dat (.int x.1.2.2.2.2.2.1), .dat (.int x.1.2.2.2.2.2.2), .dat x.2]
abbrev ckP (x : CkA) : Prop := leadP x.1 ∧ ∀ s p1 p2 p3 ds, x.2 = .tuple [s, p1, p2, p3] → p3 = .tuple ds → ds.length ≤ 1000
abbrev ckJ (x : CkA) : Verd := judge x.1.1 x.1.2.1 x.1.2.2.2.1 x.1.2.2.2.2.1 x.1.2.2.2.2.2.1 x.1.2.2.2.2.2.2 x.1.2.2.1 x.2
section
variable {P : Program} {w : World} {K : PySem.W.Frag} {mg : Str → Option Value} {base : Heap} {Cc fI : Addr}
theorem cal_check_lead {f f_is_lead f_is_endless : Addr} {fd : FuncData} (T : Tp mg) (TP : PySem.PartX.PartTxt P K mg Cc fI) (F : Def K mg "check_lead" s_check_lead f fd) (B : Binds K fd ["well", "rule", "crew", "low", "high", "one", "other", "paper"] [])
    (c_need_lead : Cal P w K mg base 5 "need_lead" (spX P w K sp_need_lead) []) (m_is_lead : mg "is_lead" = some (.ref f_is_lead)) (m_is_endless : mg "is_endless" = some (.ref f_is_endless))
    (ca_is_lead : CalAt P w K mg base 7 f_is_lead (spX P w K sp_is_lead)) (ca_is_endless : CalAt P w K mg base 7 f_is_endless (spX P w K sp_is_endless)) : CalX P w K mg base 8 "check_lead" (spCk P w K Cc ckA ckP ckJ) := by
  refine calX F B sc_check_lead (spCk_len fun x => rfl) (fun cdv A outer s H vs Q E hr h => ?_)
  refine ⟨_, (pss_cons (ps_expr (pe_c c_need_lead hr (by decide) (by rfl) (pa_cons (pv 0) (pa_cons (pv 1) (pa_cons (pv 2) (pa_cons (pv 3) (pa_cons (pv 4) (pa_cons (pv 5) (pa_cons (pv 6) pa_nil))))))))) (pss_cons (ps_if (PW.pt (pw_or (pt_not (pt_val (pe_callB (r := rIsi K) call_isi (by rfl) T.b_isinstance bo_isinstance (pa_cons (pv 7) (pa_cons (pe_bltn (v := .ty "tuple") (u := .type "tuple") (by rfl) T.b_tuple bo_tuple rfl) pa_nil))))) (pw_or (pt_cmpR (r := rInU K P w true) (op_notInU (hu65 hr)) (pe_callB (r := rLenU K P w) call_lenU (by rfl) T.b_len bo_len (pa_cons (pv 7) pa_nil)) (pe_tupP (pa_cons pe_int (pa_cons pe_int pa_nil))) (by rfl)) (pw_or1 (pt_not (pt_val (pe_callB (r := rIsi K) call_isi (by rfl) T.b_isinstance bo_isinstance (pa_cons (pe_ix (r := rIxU K P w) (ix_u (hu16 hr)) (pv 7) pe_int (fun _ _ => rfl)) (pa_cons (pe_bltn (v := .ty "str") (u := .type "str") (by rfl) T.b_str bo_str rfl) pa_nil))))))))) (pss_one (ps_raisePart rfl TP hr (takes_of rfl rfl rfl rfl) (pa_cons pe_str pa_nil))) pss_nil) (pss_cons (ps_if (pt_cmpR (r := rNeU K) (op_neU (hu64 hr)) (pe_ix (r := rIxU K P w) (ix_u (hu16 hr)) (pv 7) pe_int (fun _ _ => rfl)) (pe_ifExp (pt_cmpR (r := rEqU K) (op_eqU (hu64 hr)) (pe_callB (r := rLenU K P w) call_lenU (by rfl) T.b_len bo_len (pa_cons (pv 7) pa_nil)) pe_int (nomark _)) (pe_gc (by rfl) T.g_LEAD) (pe_gc (by rfl) T.g_ENDLESS)) (nomark _)) (pss_one (ps_raisePart rfl TP hr (takes_of rfl rfl rfl rfl) (pa_cons pe_str pa_nil))) pss_nil) (pss_cons (ps_set (i := 8) sc_check_lead.nd rfl (Or.inl rfl) (pe_ifExp (pt_cmpR (r := rEqU K) (op_eqU (hu64 hr)) (pe_ix (r := rIxU K P w) (ix_u (hu16 hr)) (pv 7) pe_int (fun _ _ => rfl)) (pe_gc (by rfl) T.g_LEAD) (nomark _)) (pe_glob (v := .ref f_is_lead) (by rfl) m_is_lead rfl) (pe_glob (v := .ref f_is_endless) (by rfl) m_is_endless rfl))) (pss_cons (ps_if (pt_not (pt_val (pe_cv ca_is_lead ca_is_endless hr (by decide) (by decide) (i := 8) rfl (Or.inl rfl) (pa_cons (pv 0) (pa_cons (pv 1) (pa_cons (pv 2) (pa_cons (pe_tupP (pa_cons (pv 3) (pa_cons (pv 4) pa_nil))) (pa_cons (pv 7) (pa_cons (pv 5) (pa_cons (pv 6) pa_nil)))))))))) (pss_one (ps_raisePart rfl TP hr (takes_of rfl rfl rfl rfl) (pa_cons (pe_ix (r := rIxU K P w) (ix_u (hu16 hr)) (pv 7) pe_int (fun _ _ => rfl)) pa_nil))) pss_nil) (pss_one (ps_ret (pe_ix (r := rIxU K P w) (ix_u (hu16 hr)) (pv 7) pe_int (fun _ _ => rfl))))))))), ?_⟩
  try dsimp only [cxOf, L2.Cx.nox, L2.Cx.wish, L2.Cx.blk]
  refine enterC h fun x hx hbad => ?_
  change SX _ _ [_, _, _, _, _, _, _, _, none] [] _
  obtain ⟨⟨w0, t, c0, lo, hi, o1, o2⟩, sheet⟩ := x
  obtain ⟨hl, hs⟩ := hx
  have hj : JudP w0 t c0 lo hi := ⟨hl.ok, hl.cr, hl.sp⟩
  dsimp only at hs
  change SX _ _ [some (.dat w0.d), some (.dat (ruleD t)), some (.dat c0.d), some (.dat (.int lo)), some (.dat (.int hi)), some (.dat (.int o1)), some (.dat (.int o2)), some (.dat sheet), none] [] _
  have rz : ∀ {C : Kx} {γ : List (Option Cl)} {os : List OV} {s : Str} {En : En}, C.H0 = H → (∀ H' d, Same H H' → H' d = none → E (.ref Cc) (some d) (upd H' d (.xd [(("part" : Str), .str s)]))) → SX C (tRaisePart Cc (fun cls d _ H => E cls d H) (tCons (tC (.str s)) tNil)) γ os En := fun e0 e => sx_raise (ax_cons (ex_str (ax_nil ⟨_, rfl, fun σ H' d sm hd => e H' d (by rw [← e0]; exact sm) hd⟩)))
  cases sheet with
  | tuple es =>
    have hsh : ∀ n : Int, SeqAt.shaped (.int n) = true := fun n => by simp [SeqAt.shaped, PyData.canLay0, PyData.depth]
    fail "xs"
    refine rx_notInT rfl rfl (hsh _) (by decide +kernel) ?_
    rw [any34]
    by_cases h34 : es.length = 3 ∨ es.length = 4
    · rw [decide_eq_true h34]
      match es, h34, hs, hbad with
      | [a, b, c], _, hs, hbad =>
        cases a with
        | str s =>
          fail "xs"
          refine ⟨fun hb => ?_, fun hb => ?_⟩
          · refine rz rfl (hbad _ ?_)
            have : ¬ s = "endless" := fun e => by rw [e] at hb; exact Bool.noConfusion hb
            show (if s = "endless" then _ else _) = _
            rw [if_neg this]
          · have : s = "endless" := by simpa using hb
            subst this
            fail "xs"
            refine ex_fn ?_
            fail "xs"
            refine ex_cv2 rfl ?_
            fail "xs"
            refine ⟨rfl, (w0, t, c0, lo, hi, .tuple [.str "endless", b, c], o1, o2), rfl, ⟨hj, _, _, _, rfl⟩, ?_⟩
            rintro c' ⟨s1, q1, q2, e, rfl⟩
            cases e
            have hJ : judge w0 t lo hi o1 o2 c0 (.tuple [.str "endless", b, c]) = if endB w0 t lo hi o1 o2 c0 b c then .good "endless" else .bad "endless" := rfl
            cases hE : endB w0 t lo hi o1 o2 c0 b c with
            | true =>
              rw [hE] at hJ
              fail "xs"
              exact hJ
            | false =>
              rw [hE] at hJ
              fail "xs"
              refine sx_raise ?_
              fail "xs"
              exact fun σ H' d sm hd => hbad _ hJ H' d sm hd
        | _ =>
          fail "xs"
          exact rz rfl (hbad _ rfl)
      | [a, b, c, d], _, hs, hbad =>
        cases a with
        | str s =>
          fail "xs"
          refine ⟨fun hb => ?_, fun hb => ?_⟩
          · refine rz rfl (hbad _ ?_)
            have : ¬ s = "lead" := fun e => by rw [e] at hb; exact Bool.noConfusion hb
            show (if s = "lead" then _ else _) = _
            rw [if_neg this]
          · have : s = "lead" := by simpa using hb
            subst this
            fail "xs"
            refine ex_fn ?_
            fail "xs"
            refine ex_cv1 rfl ?_
            fail "xs"
            refine ⟨rfl, (w0, t, c0, lo, hi, .tuple [.str "lead", b, c, d], o1, o2), rfl, ⟨hj, _, _, _, _, rfl, fun ds e => hs _ _ _ _ ds rfl e⟩, ?_⟩
            rintro c' ⟨s1, q1, q2, q3, e, rfl⟩
            cases e
            have hJ : judge w0 t lo hi o1 o2 c0 (.tuple [.str "lead", b, c, d]) = if leadB w0 t lo hi o1 o2 c0 b c d then .good "lead" else .bad "lead" := rfl
            cases hE : leadB w0 t lo hi o1 o2 c0 b c d with
            | true =>
              rw [hE] at hJ
              fail "xs"
              exact hJ
            | false =>
              rw [hE] at hJ
              fail "xs"
              refine sx_raise ?_
              fail "xs"
              exact fun σ H' d sm hd => hbad _ hJ H' d sm hd
        | _ =>
          fail "xs"
          exact rz rfl (hbad _ rfl)
    · rw [decide_eq_false h34]
      fail "xs"
      exact rz rfl (hbad _ (form_bad (fun h => h34 (.inl h)) fun h => h34 (.inr h)))
  | _ =>
    fail "xs"
    exact rz rfl (hbad _ rfl)
abbrev sp__law_outcome : Spec := Sp1 (α := LjA) ljA (fun x => (JudP x.1 x.2.1 x.2.2.1 x.2.2.2.1 x.2.2.2.2.1 ∧ 2 ≤ x.2.2.1.ages.length) ∧ SheetP x.2.2.2.2.2) fun x c => c = .dat (verdD (judge x.1 x.2.1 x.2.2.2.1 x.2.2.2.2.1 0 1 x.2.2.1 x.2.2.2.2.2))
theorem cal__law_outcome {f : Addr} {fd : FuncData} (T : Tp mg) (TP : PySem.PartX.PartTxt P K mg Cc fI) (F : Def K mg "_law_outcome" s__law_outcome f fd) (B : Binds K fd ["_law_well_here", "_law_rule", "_law_crew", "_law_low", "_law_high", "_law_sheet"] [])
    (c_check_lead : CalX P w K mg base 8 "check_lead" (spCk P w K Cc ckA ckP ckJ)) : Cal P w K mg base 9 "_law_outcome" (spX P w K sp__law_outcome) [] := by
  refine cal0 F B .nil sc__law_outcome (sp1_len fun x => rfl) (fun cdv A outer s H vs Q E hr h => ?_)
  refine ⟨_, (pss_cons (ps_set (i := 6) sc__law_outcome.nd rfl (Or.inl rfl) pe_non) (pss_cons (ps_try_as (i := 7) (tb := fun W => tAsg (tCallS (spCk P w K Cc ckA ckP ckJ) (WE W) (tCons (tVar 0) (tCons (tVar 1) (tCons (tVar 2) (tCons (tVar 3) (tCons (tVar 4) (tCons (tC (.int 0)) (tCons (tC (.int 1)) (tCons (tVar 5) tNil))))))))) (gName 6)) (ts := tSuite Cc 6 7) (Wout := fun _ _ _ _ => False) rfl rfl sc__law_outcome.nd rfl rfl ⟨rfl, by decide, Or.inl TP.gC⟩ takes0 (fun W pn xe tk _ => (pss_one (ps_set (i := 6) sc__law_outcome.nd rfl (Or.inl rfl) (by exact (pe_cX c_check_lead hr (by decide) (by rfl) (fun σ => passAt tk σ) (by exact (pa_cons (pv 0) (pa_cons (pv 1) (pa_cons (pv 2) (pa_cons (pv 3) (pa_cons (pv 4) (pa_cons pe_int (pa_cons pe_int (pa_cons (pv 5) pa_nil)))))))))))))) (fun a oe cls d pn hz hf => (pss_one (ps_set (i := 6) sc__law_outcome.nd rfl (Or.inl rfl) (by exact (pe_frz (pe_lst (pa_cons (pe_byPart TP hz hf (pv 7)) pa_nil)))))))) (pss_one (ps_ret (pv 6))))), ?_⟩
  try dsimp only [cxOf, L2.Cx.nox, L2.Cx.wish, L2.Cx.blk]
  refine enter1 h fun x hx => ?_
  change SX _ _ [_, _, _, _, _, _, none, none] [] _
  obtain ⟨w0, t, c0, lo, hi, sheet⟩ := x
  obtain ⟨⟨hj, h2⟩, hs⟩ := hx
  dsimp only at hj h2 hs
  change SX _ _ [some (.dat w0.d), some (.dat (ruleD t)), some (.dat c0.d), some (.dat (.int lo)), some (.dat (.int hi)), some (.dat sheet), none, none] [] _
  have hl : LeadOk w0 t c0 lo hi 0 1 := ⟨hj.ok, hj.cr, hj.sp, ⟨by omega, by omega⟩, ⟨by omega, by omega⟩, by decide⟩
  fail "xs"
  refine sx_try (pre := ckP) TP.te (by decide) (Nat.le_of_ble_eq_true rfl) rfl ?_
  fail "xs"
  refine ⟨rfl, ((w0, t, c0, lo, hi, 0, 1), sheet), rfl, ⟨hl, hs.hgt⟩, ?_⟩
  fail "xs"
  exact ⟨by trivial, rfl⟩
end
end Pk
/-! E4 (printed by gen/e4.py): the record of the draws: _law_begun, _law_next -/
namespace Pk
open PySem PySem.Spec PyProof.Rows L2 C8

abbrev rk (c f : Addr) (k : Int) : List (Key × V) := [(.inr "cells", .ref c), (.inr "left", .ref f), (.inr "at", .int k)]
theorem rk_cells {c f : Addr} {k : Int} : valV (rk c f k) (.inr "cells") = some (.ref c) := by simp [rk, valV, List.find?_cons]
theorem rk_left {c f : Addr} {k : Int} : valV (rk c f k) (.inr "left") = some (.ref f) := by
  have h : ¬ (("cells" : Str) = "left") := by decide
  simp [rk, valV, List.find?_cons, h]
theorem rk_at {c f : Addr} {k : Int} : valV (rk c f k) (.inr "at") = some (.int k) := by
  have h : ¬ (("cells" : Str) = "at") := by decide
  have h2 : ¬ (("left" : Str) = "at") := by decide
  simp [rk, valV, List.find?_cons, h, h2]
theorem rk_putL {c f g : Addr} {k : Int} : putK (rk c f k) (.inr "left") (.ref g) = rk c g k := by
  have h : ¬ (("cells" : Str) = "left") := by decide
  have h2 : ¬ (("at" : Str) = "left") := by decide
  simp [rk, putK, h, h2]
theorem rk_putA {c f : Addr} {k j : Int} : putK (rk c f k) (.inr "at") (.int j) = rk c f j := by
  have h : ¬ (("cells" : Str) = "at") := by decide
  have h2 : ¬ (("left" : Str) = "at") := by decide
  simp [rk, putK, h, h2]
/-- the record while a def runs: at the entry the heap was H0 with the list f0 -/
structure Rec (H0 : Hp) (p c f0 : Addr) (cs : List Int) (H : Hp) (f : Addr) (fs : List Int) (k : Int) : Prop where
  pc : p ≠ c
  pf : p ≠ f
  cf : c ≠ f
  hp : H p = some (.dK (rk c f k))
  hc : H c = some (.lst (cs.map V.int))
  hf : H f = some (.lst (fs.map V.int))
  keep : ∀ x o, x ∉ [p, c, f0] → H0 x = some o → H x = some o
  old : f = f0 ∨ H0 f = none
  has : H f0 ≠ none
section
variable {H0 H : Hp} {p c f0 f q : Addr} {cs fs gs : List Int} {k j : Int} {o : HO}
theorem Rec.new (r : Rec H0 p c f0 cs H f fs k) (hq : H q = none) : Rec H0 p c f0 cs (upd H q o) f fs k := by
  have n1 : p ≠ q := ne_of_none r.hp hq
  have n2 : c ≠ q := ne_of_none r.hc hq
  have n3 : f ≠ q := ne_of_none r.hf hq
  have n4 : f0 ≠ q := fun e => r.has (by rw [e]; exact hq)
  exact ⟨r.pc, r.pf, r.cf, by rw [upd_ne n1]; exact r.hp, by rw [upd_ne n2]; exact r.hc, by rw [upd_ne n3]; exact r.hf, fun x u h e => by
    have z := r.keep x u h e
    rw [upd_ne (ne_of_none z hq)]; exact z, r.old, by rw [upd_ne n4]; exact r.has⟩
theorem Rec.none_of (r : Rec H0 p c f0 cs H f fs k) (hq : H q = none) : H0 q = none := by
  cases e : H0 q with
  | none => rfl
  | some u =>
    by_cases h : q ∈ [p, c, f0]
    · simp only [List.mem_cons, List.not_mem_nil, or_false] at h
      rcases h with rfl | rfl | rfl
      · rw [r.hp] at hq; cases hq
      · rw [r.hc] at hq; cases hq
      · exact absurd hq r.has
    · rw [r.keep q u h e] at hq; cases hq
/-- another list -/
theorem Rec.left (r : Rec H0 p c f0 cs H f fs k) (hq : H q = none) : Rec H0 p c f0 cs (upd (upd H q (.lst (gs.map V.int))) p (.dK (rk c q k))) q gs k := by
  have n1 : p ≠ q := ne_of_none r.hp hq
  have n2 : c ≠ q := ne_of_none r.hc hq
  have n4 : f0 ≠ q := fun e => r.has (by rw [e]; exact hq)
  refine ⟨r.pc, n1, n2, upd_same, ?_, ?_, fun x u h e => ?_, .inr (r.none_of hq), ?_⟩
  · rw [upd_ne (Ne.symm r.pc), upd_ne n2]; exact r.hc
  · rw [upd_ne (Ne.symm n1)]; exact upd_same
  · have z := r.keep x u h e
    have hx : x ≠ p := fun q => h (by rw [q]; exact List.mem_cons_self)
    rw [upd_ne hx, upd_ne (ne_of_none z hq)]; exact z
  · by_cases e : f0 = p
    · rw [e, upd_same]; simp
    · rw [upd_ne e, upd_ne n4]; exact r.has
/-- the list is changed -/
theorem Rec.list (r : Rec H0 p c f0 cs H f fs k) : Rec H0 p c f0 cs (upd H f (.lst (gs.map V.int))) f gs k := by
  refine ⟨r.pc, r.pf, r.cf, by rw [upd_ne r.pf]; exact r.hp, by rw [upd_ne r.cf]; exact r.hc, upd_same, fun x u h e => ?_, r.old, ?_⟩
  · have z := r.keep x u h e
    have hx : x ≠ f := by
      rintro rfl
      rcases r.old with rfl | e2
      · exact h (by simp)
      · rw [e] at e2; cases e2
    rw [upd_ne hx]; exact z
  · by_cases e : f0 = f
    · rw [e, upd_same]; simp
    · rw [upd_ne e]; exact r.has
/-- the counter -/
theorem Rec.count (r : Rec H0 p c f0 cs H f fs k) : Rec H0 p c f0 cs (upd H p (.dK (rk c f j))) f fs j := by
  refine ⟨r.pc, r.pf, r.cf, upd_same, by rw [upd_ne (Ne.symm r.pc)]; exact r.hc, by rw [upd_ne (Ne.symm r.pf)]; exact r.hf, fun x u h e => ?_, r.old, ?_⟩
  · have hx : x ≠ p := fun q => h (by rw [q]; exact List.mem_cons_self)
    rw [upd_ne hx]; exact r.keep x u h e
  · by_cases e : f0 = p
    · rw [e, upd_same]; simp
    · rw [upd_ne e]; exact r.has
theorem Rec.law {n : Nat} (r : Rec H0 p c f0 cs H f fs k) (h0 : 0 ≤ k) (hk : k ≤ n) (hn : ∀ z ∈ fs, 0 ≤ z) (h1 : cs.length ≤ 63) (h2 : fs.length ≤ 63) : LawM H [p, c, f] n :=
  ⟨p, c, f, cs, fs, k, rfl, r.pc, r.pf, r.cf, r.hp, r.hc, r.hf, h0, hk, hn, h1, h2⟩
/-- what the dict holds -/
theorem Rec.gL (r : Rec H0 p c f0 cs H f fs k) : DGet H p (.str "left") (some (.ref f)) := by rw [← rk_left (c := c) (f := f) (k := k)]; exact DGet.k (k := .inr "left") r.hp
theorem Rec.gC (r : Rec H0 p c f0 cs H f fs k) : DGet H p (.str "cells") (some (.ref c)) := by rw [← rk_cells (c := c) (f := f) (k := k)]; exact DGet.k (k := .inr "cells") r.hp
theorem Rec.gA (r : Rec H0 p c f0 cs H f fs k) : DGet H p (.str "at") (some (.int k)) := by rw [← rk_at (c := c) (f := f) (k := k)]; exact DGet.k (k := .inr "at") r.hp
end
theorem dp_ints {K : PySem.W.Frag} {H : Hp} {a : Addr} {ns : List Int} (h : H a = some (.lst (ns.map V.int))) : Dp K H (.ref a) (.list (ns.map .int)) := by
  have key : ∀ l : List Int, DpAll K H (l.map V.int) (l.map .int) := fun l => by
    induction l with
    | nil => exact .nil
    | cons x l ih => exact .cons (.int x) ih
  exact .lst (.inl (.inl h)) (key ns)
section
variable {P : Program} {w : World} {K : PySem.W.Frag} {mg : Str → Option Value} {base : Heap}
abbrev sp__law_next : SpecM := SpM1 (α := Int) (fun x => [.dat (.int x)]) (fun x n => (1 ≤ x ∧ x ≤ 200000) ∧ n ≤ 1000) fun x n c n' => n' = n + 1 ∧ ∃ j : Int, (0 ≤ j ∧ j < x) ∧ c = .dat (.int j)
theorem cal__law_next {f : Addr} {fd : FuncData} (T : Tp mg) (F : Def K mg "_law_next" s__law_next f fd) (B : Binds K fd ["_law_m", "_law_total"] []) : Cal P w K mg base 1 "_law_next" (spM P w K sp__law_next) [] := by
  refine cal0 F B .nil sc__law_next (spM1_len fun x => rfl) (fun cdv A outer s H vs Q E hr h => ?_)
  refine ⟨_, (pss_cut (ps_while PassesOwn.never (PW.pt (pw_and (pt_cmpR (r := rNeU K) (op_neU (hu64 hr)) (pe_ix (r := rIxU K P w) (ix_u (hu16 hr)) (pv 0) pe_str (fun _ _ => rfl)) (pe_lst pa_nil) (nomark _)) (pw_and1 (pt_cmpR (r := rEqU K) (op_eqU (hu64 hr)) (pe_ix (r := rIxU K P w) (ix_u (hu16 hr)) (pe_ix (r := rIxU K P w) (ix_u (hu16 hr)) (pv 0) pe_str (fun _ _ => rfl)) pe_int (fun _ _ => rfl)) pe_int (nomark _))))) (pss_one (ps_asg (pe_slice (r := rSlL K) sl_list (pe_ix (r := rIxU K P w) (ix_u (hu16 hr)) (pv 0) pe_str (fun _ _ => rfl)) (po_some pe_int) po_none) (pg_sub (pv 0) pe_str (set_u (hu16 hr)))))) (pss_cons (ps_if (pt_cmpR (r := rNeU K) (op_neU (hu64 hr)) (pe_ix (r := rIxU K P w) (ix_u (hu16 hr)) (pv 0) pe_str (fun _ _ => rfl)) (pe_lst pa_nil) (nomark _)) (pss_cons (ps_set (i := 2) sc__law_next.nd rfl (Or.inl rfl) (pe_callTy call_int1 (by rfl) T.b_int bo_int (pa_cons (pe_ix (r := rIxU K P w) (ix_u (hu16 hr)) (pe_ix (r := rIxU K P w) (ix_u (hu16 hr)) (pv 0) pe_str (fun _ _ => rfl)) pe_int (fun _ _ => rfl)) pa_nil))) (pss_cons (ps_asg (pe_op op_fdivW (pv 2) (pv 1)) (pg_sub (pe_ix (r := rIxU K P w) (ix_u (hu16 hr)) (pv 0) pe_str (fun _ _ => rfl)) pe_int (set_u (hu16 hr)))) (pss_one (ps_ret (pe_op op_mod (pv 2) (pv 1)))))) pss_nil) (pss_cons (ps_set (i := 3) sc__law_next.nd rfl (Or.inl rfl) (pe_op op_add (pe_ix (r := rIxU K P w) (ix_u (hu16 hr)) (pv 0) pe_str (fun _ _ => rfl)) pe_int)) (pss_cons (ps_asg (pv 3) (pg_sub (pv 0) pe_str (set_u (hu16 hr)))) (pss_cut (ps_set (i := 4) sc__law_next.nd rfl (Or.inl rfl) (pe_ifExp (pt_cmpR (r := rNeU K) (op_neU (hu64 hr)) (pe_ix (r := rIxU K P w) (ix_u (hu16 hr)) (pv 0) pe_str (fun _ _ => rfl)) (pe_lst pa_nil) (nomark _)) (pe_ix (r := rIxU K P w) (ix_u (hu16 hr)) (pe_ix (r := rIxU K P w) (ix_u (hu16 hr)) (pv 0) pe_str (fun _ _ => rfl)) (pe_op op_mod (pe_callTy call_int1 (by rfl) T.b_int bo_int (pa_cons (pv 3) pa_nil)) (pe_callB (r := rLenU K P w) call_lenU (by rfl) T.b_len bo_len (pa_cons (pe_ix (r := rIxU K P w) (ix_u (hu16 hr)) (pv 0) pe_str (fun _ _ => rfl)) pa_nil))) (fun _ _ => rfl)) pe_int)) (pss_cons (ps_set (i := 5) sc__law_next.nd rfl (Or.inl rfl) (pe_op op_mul (pe_callTy call_int1 (by rfl) T.b_int bo_int (pa_cons (pe_op op_add (pe_op op_add (pe_op op_mod (pe_callTy call_int1 (by rfl) T.b_int bo_int (pa_cons (pv 4) pa_nil)) pe_int) (pe_op op_mul pe_int (pv 3))) (pe_op op_mul (pe_op op_mul pe_int (pv 3)) (pv 3))) pa_nil)) pe_int)) (pss_cons (ps_set (i := 5) sc__law_next.nd rfl (Or.inl rfl) (pe_op op_mul (pe_callTy call_int1 (by rfl) T.b_int bo_int (pa_cons (pe_op op_add (pe_op op_mod (pe_callTy call_int1 (by rfl) T.b_int bo_int (pa_cons (pv 5) pa_nil)) pe_int) (pe_op op_mul pe_int (pv 3))) pa_nil)) pe_int)) (pss_one (ps_ret (pe_op op_mod (pe_callTy call_int1 (by rfl) T.b_int bo_int (pa_cons (pe_op op_fdivW (pe_op op_mod (pe_callTy call_int1 (by rfl) T.b_int bo_int (pa_cons (pv 5) pa_nil)) pe_int) pe_int) pa_nil)) (pv 1))))))))))), ?_⟩
  try dsimp only [cxOf, L2.Cx.nox, L2.Cx.wish, L2.Cx.blk]
  obtain ⟨p, l, n, us, cs0, R, rfl, hm, hpd, hi, ⟨tot, hpre, rfl, hR⟩, hq⟩ := h
  obtain ⟨p', c, f0, cs, fs0, k0, e1, d1, d2, d3, h1, h2, h3, hk0, hkn, hnn, hl1, hl2⟩ := hm
  cases e1
  obtain ⟨u, rfl, hu⟩ := paired1 hpd
  have hu := cv_intE hu
  subst hu
  have ht := hpre.1
  have hn := hpre.2
  have r0 : Rec H p c f0 cs H f0 fs0 k0 := ⟨d1, d2, d3, h1, h2, h3, fun x o _ e => e, .inl rfl, by rw [h3]; simp⟩
  have fin : ∀ {H' : Hp} {f : Addr} {fs : List Int} {k z : Int}, Rec H p c f0 cs H' f fs k → 0 ≤ k → k ≤ n + 1 → (∀ z ∈ fs, 0 ≤ z) → fs.length ≤ 63 → 0 ≤ z → z < tot → Q (.int z) H' := fun {H' f fs k z} r g1 g2 g3 g4 g5 g6 => by
    refine hq (.dat (.int z)) _ H' [c, f] (n + 1) (fun x o hx e => r.keep x o hx e) (r.law g1 (by omega) g3 hl1 g4) (fun x hx => ?_) trivial cv_int (hR _ _ ⟨rfl, z, ⟨g5, g6⟩, rfl⟩)
    simp only [List.mem_cons, List.not_mem_nil, or_false] at hx ⊢
    rcases hx with rfl | rfl
    · exact .inl (.inl rfl)
    · rcases r.old with rfl | e
      · exact .inl (.inr rfl)
      · exact .inr e
  have shL : ∀ ns : List Int, SeqAt.shaped (.list (ns.map .int)) = true := shaped_ints
  -- the zeros ahead go
  refine ⟨fun σ H' => σ = [some (.ref p), some (.int tot), none, none, none, none] ∧ ∃ f fs, Rec H p c f0 cs H' f fs k0 ∧ (∀ z ∈ fs, 0 ≤ z) ∧ fs.length ≤ 63, ?_, ?_⟩
  · refine ⟨fun m σ H' => σ = [some (.ref p), some (.int tot), none, none, none, none] ∧ ∃ f fs, Rec H p c f0 cs H' f fs k0 ∧ (∀ z ∈ fs, 0 ≤ z) ∧ fs.length ≤ 63 ∧ fs.length = m, ⟨_, rfl, f0, fs0, r0, hnn, hl2, rfl⟩, ?_⟩
    rintro m σ H1 ⟨rfl, f, fs, r, g1, g2, rfl⟩
    refine ⟨_, rfl, .inr (.inr ⟨p, _, rfl, r.gL, ?_⟩)⟩
    refine ⟨Nat.zero_le _, fun q2 hq2 => ?_⟩
    have r2 := r.new (o := .lst []) hq2
    refine .inr ⟨_, _, dp_ints r2.hf, dp_ints (ns := []) upd_same, shL _, shaped_nil, _, rfl, ?_⟩
    rw [show PyData.eqv (.list (fs.map .int)) (.list (([] : List Int).map .int)) = fs.isEmpty by rw [List.map_nil, eqv_nil]; cases fs <;> rfl]
    generalize upd H1 q2 (.lst []) = H2 at r2
    cases fs with
    | nil =>
      refine ite2 (fun e => nomatch e) (fun _ => ?_)
      exact ⟨rfl, f, [], r2, g1, g2⟩
    | cons z fs =>
      refine ite2 (fun _ => ?_) (fun e => absurd rfl e)
      refine ⟨_, rfl, .inr (.inr ⟨p, _, rfl, r2.gL, ?_⟩)⟩
      refine .inl (.inl ⟨f, _, 0, .int z, rfl, rfl, .inl (.inl r2.hf), atI_at (j := 0) rfl, ?_⟩)
      refine .inl ⟨rfl, _, rfl, ?_⟩
      rw [dec_int]
      by_cases hz : z = 0
      · refine ite2 (fun _ => ?_) (fun e => absurd (by simp [hz]) e)
        refine ⟨fun σ' H' => σ' = [some (.ref p), some (.int tot), none, none, none, none] ∧ ∃ f fs', Rec H p c f0 cs H' f fs' k0 ∧ (∀ z ∈ fs', 0 ≤ z) ∧ fs'.length ≤ 63 ∧ fs'.length < (z :: fs).length, fun σ' H' ⟨a1, f', fs', a2, a3, a4, a5⟩ => ⟨_, a5, a1, f', fs', a2, a3, a4, rfl⟩, ?_⟩
        refine ⟨_, rfl, .inr (.inr ⟨p, _, rfl, r2.gL, ?_⟩)⟩
        refine ⟨1, rfl, ?_⟩
        refine ⟨f, _, rfl, .inl (.inl r2.hf), fun q4 hq4 => ?_⟩
        have ecut : cutV ((z :: fs).map V.int) (some 1) none = fs.map V.int := by
          unfold cutV
          rw [show (1 : Int) = ((1 : Nat) : Int) from rfl, HT.sIx_none, HT.sIx_nat, List.map_cons, Nat.min_eq_left (by simp), List.take_of_length_le (by simp)]
          rfl
        rw [ecut]
        have r4 := r2.left (q := q4) (gs := fs) hq4
        refine ⟨_, rfl, .inr (.inr ⟨p, _, rfl, DPut.k (k := .inr "left") (by rw [upd_ne (ne_of_none r2.hp hq4)]; exact r2.hp) (by show 3 < sizeLine; decide), ?_⟩)⟩
        rw [rk_putL]
        exact ⟨rfl, q4, fs, r4, fun y hy => g1 y (List.mem_cons_of_mem _ hy), by rw [List.length_cons] at g2; omega, by simp⟩
      · refine ite2 (fun e => absurd e (by simp [hz])) (fun _ => ?_)
        exact ⟨rfl, f, z :: fs, r2, g1, g2⟩
  rintro σ H' ⟨rfl, f, fs, r, g1, g2⟩
  refine ⟨_, rfl, .inr (.inr ⟨p, _, rfl, r.gL, ?_⟩)⟩
  refine ⟨Nat.zero_le _, fun q3 hq3 => ?_⟩
  have r3 := r.new (o := .lst []) hq3
  refine .inr ⟨_, _, dp_ints r3.hf, dp_ints (ns := []) upd_same, shL _, shaped_nil, _, rfl, ?_⟩
  rw [show PyData.eqv (.list (fs.map .int)) (.list (([] : List Int).map .int)) = fs.isEmpty by rw [List.map_nil, eqv_nil]; cases fs <;> rfl]
  generalize upd H' q3 (.lst []) = H3 at r3
  cases fs with
  | cons z fs =>
    refine ite2 (fun _ => ?_) (fun e => absurd rfl e)
    refine ⟨_, rfl, .inr (.inr ⟨p, _, rfl, r3.gL, ?_⟩)⟩
    refine .inl (.inl ⟨f, _, 0, .int z, rfl, rfl, .inl (.inl r3.hf), atI_at (j := 0) rfl, ?_⟩)
    refine .inl ⟨z, rfl, ?_⟩
    refine ⟨_, rfl, _, rfl, z, tot, rfl, rfl, wide_div (b := 30) (by omega) (by have : (2:Nat) ^ 30 = 1073741824 := rfl; omega) (by decide) (by decide), ?_⟩
    refine ⟨_, rfl, .inr (.inr ⟨p, _, rfl, r3.gL, ?_⟩)⟩
    refine .inl ⟨f, _, 0, 0, rfl, rfl, r3.hf, ixN_nat (j := 0) (by simp), ?_⟩
    refine ⟨_, rfl, _, rfl, z, tot, rfl, rfl, by omega, ?_⟩
    have r4 : Rec H p c f0 cs (upd H3 f (.lst (((z :: fs).map V.int).set 0 (.int (z / tot))))) f ((z / tot) :: fs) k0 := r3.list (gs := (z / tot) :: fs)
    refine fin r4 hk0 (by omega) (fun y hy => ?_) g2 (Int.emod_nonneg _ (by omega)) (Int.emod_lt_of_pos _ (by omega))
    rcases List.mem_cons.mp hy with rfl | hy
    · exact Int.ediv_nonneg (g1 z List.mem_cons_self) (by omega)
    · exact g1 y (List.mem_cons_of_mem _ hy)
  | nil =>
    refine ite2 (fun e => nomatch e) (fun _ => ?_)
    refine ⟨_, rfl, .inr (.inr ⟨p, _, rfl, r3.gA, ?_⟩)⟩
    refine ⟨k0, 1, rfl, rfl, ?_⟩
    refine ⟨_, rfl, _, rfl, .inr (.inr ⟨p, _, rfl, DPut.k (k := .inr "at") r3.hp (by show 3 < sizeLine; decide), ?_⟩)⟩
    rw [rk_putA]
    have r4 := r3.count (j := k0 + 1)
    generalize upd H3 p (.dK (rk c f (k0 + 1))) = H4 at r4
    refine ⟨fun σ H' => ∃ ce : Int, σ = [some (.ref p), some (.int tot), none, some (.int (k0 + 1)), some (.int ce), none] ∧ Rec H p c f0 cs H' f [] (k0 + 1), ?_, ?_⟩
    · refine ⟨_, rfl, .inr (.inr ⟨p, _, rfl, r4.gC, ?_⟩)⟩
      refine ⟨Nat.zero_le _, fun q5 hq5 => ?_⟩
      have r5 := r4.new (o := .lst []) hq5
      refine .inr ⟨_, _, dp_ints r5.hc, dp_ints (ns := []) upd_same, shL _, shaped_nil, _, rfl, ?_⟩
      rw [show PyData.eqv (.list (cs.map .int)) (.list (([] : List Int).map .int)) = cs.isEmpty by rw [List.map_nil, eqv_nil]; cases cs <;> rfl]
      generalize upd H4 q5 (.lst []) = H5 at r5
      by_cases hce : cs = []
      · subst hce
        refine ite2 (fun e => nomatch e) (fun _ => ?_)
        exact ⟨3, rfl, r5⟩
      · have hpos : 0 < cs.length := List.length_pos_iff.mpr hce
        refine ite2 (fun _ => ?_) (fun e => absurd (by cases cs <;> simp_all) e)
        refine ⟨_, rfl, .inr (.inr ⟨p, _, rfl, r5.gC, ?_⟩)⟩
        refine ⟨_, rfl, .inl ⟨_, rfl, ?_⟩⟩
        refine ⟨_, rfl, .inr (.inr ⟨p, _, rfl, r5.gC, ?_⟩)⟩
        refine .inl ⟨c, _, rfl, .inl (.inl (.inl r5.hc)), ?_⟩
        rw [List.length_map]
        refine ⟨_, _, rfl, rfl, by omega, ?_⟩
        have i0 : 0 ≤ (k0 + 1) % (cs.length : Int) := Int.emod_nonneg _ (by omega)
        have i1 : (k0 + 1) % (cs.length : Int) < cs.length := Int.emod_lt_of_pos _ (by omega)
        obtain ⟨j, hj⟩ := Int.eq_ofNat_of_zero_le i0
        have hj2 : j < cs.length := by omega
        refine .inl (.inl ⟨c, _, _, .int cs[j], rfl, rfl, .inl (.inl r5.hc), ?_, ?_⟩)
        · rw [hj]
          exact atI_at (by rw [List.getElem?_map, List.getElem?_eq_getElem hj2]; rfl)
        · exact ⟨cs[j], rfl, r5⟩
    rintro σ H6 ⟨ce, rfl, r6⟩
    have hk64 : k0 + 1 < 2 ^ 20 := by have : (2 : Int) ^ 20 = 1048576 := rfl; omega
    refine ⟨_, rfl, .inl ⟨ce, rfl, ?_⟩⟩
    refine ⟨ce, 2147483629, rfl, rfl, (by show (0 : Int) < _; decide), ?_⟩
    refine ⟨_, rfl, 7919, k0 + 1, rfl, rfl, .inl ⟨by decide, by decide⟩, _, _, rfl, rfl, ?_⟩
    refine ⟨_, rfl, 19, k0 + 1, rfl, rfl, .inl ⟨by decide, by decide⟩, _, rfl, _, _, rfl, rfl, .inr ⟨by omega, by have : (2 : Int) ^ 64 = 18446744073709551616 := rfl; omega⟩, _, _, rfl, rfl, ?_⟩
    refine .inl ⟨_, rfl, _, _, rfl, rfl, .inr ⟨by decide, by decide⟩, ?_⟩
    refine ⟨_, rfl, .inl ⟨_, rfl, _, _, rfl, rfl, (by show (0 : Int) < _; decide), ?_⟩⟩
    refine ⟨_, rfl, 104729, k0 + 1, rfl, rfl, .inl ⟨by decide, by decide⟩, _, _, rfl, rfl, ?_⟩
    refine .inl ⟨_, rfl, _, _, rfl, rfl, .inr ⟨by decide, by decide⟩, ?_⟩
    refine ⟨_, rfl, .inl ⟨_, rfl, _, _, rfl, rfl, (by show (0 : Int) < _; decide), ?_⟩⟩
    refine ⟨_, 11, rfl, rfl, wide_div (b := 30) (by decide) (by decide) (by decide) (by decide), ?_⟩
    refine .inl ⟨_, rfl, _, rfl, _, tot, rfl, rfl, by omega, ?_⟩
    exact fin r6 (by omega) (by omega) (fun y hy => nomatch hy) (by decide) (Int.emod_nonneg _ (by omega)) (Int.emod_lt_of_pos _ (by omega))
theorem rk_merge {c f : Addr} {k : Int} : mergeK [] (rk c f k) = rk c f k := by
  have h1 : ¬ (("cells" : Str) = "left") := by decide
  have h2 : ¬ (("cells" : Str) = "at") := by decide
  have h3 : ¬ (("left" : Str) = "at") := by decide
  simp [mergeK, putK, h1, h2, h3]
/-- the record's making -/
def spBeg (K : PySem.W.Frag) : Sp := fun vs H Q _ => ∃ (a : Addr) (ns : List Int), vs = [.ref a] ∧ SqL K H a (ns.map V.int) ∧ ns.length ≤ 63 ∧ ∀ H' p l, Same H H' → LawM H' (p :: l) 0 → (∀ x ∈ p :: l, H x = none) → Q (.ref p) H'
theorem cal__law_begun {f : Addr} {fd : FuncData} (T : Tp mg) (F : Def K mg "_law_begun" s__law_begun f fd) (B : Binds K fd ["_law_script"] []) : Cal P w K mg base 1 "_law_begun" (spBeg K) [] := by
  refine cal0 F B .nil sc__law_begun (fun vs H Q E ⟨a, ns, e, _⟩ => by rw [e]; rfl) (fun cdv A outer s H vs Q E hr h => ?_)
  refine ⟨_, (pss_one (ps_ret (pe_disp (pps_cons pe_str (pe_callTy call_list_of (by rfl) T.b_list bo_list (pa_cons (pv 0) pa_nil)) (pps_cons pe_str (pe_lc (own := [("_law_cell", 1)]) (g := (gName 1)) rfl sc__law_begun.nd (pi_list (pv 0)) (blkOk_by (N := N__law_begun) (sc := fnScope s__law_begun) (by decide +kernel)) (fun _ _ _ _ _ => (pg_name (i := 1) sc__law_begun.nd rfl (Or.inl rfl))) (fun _ _ _ _ _ => (pts_one (pt_cmpR op_ge (pv 1) (pe_op op_pow pe_int pe_int) (nomark _)))) (fun _ _ _ _ _ => (pv 1))) (pps_cons pe_str pe_int pps_nil))) (by rfl) (by rfl) (by decide) (by decide)))), ?_⟩
  try dsimp only [cxOf, L2.Cx.nox, L2.Cx.wish, L2.Cx.blk]
  obtain ⟨a, ns, rfl, hS, hl, hq⟩ := h
  intro p hp
  have s1 : Same H (upd H p (.dK [])) := same_new hp
  refine ⟨_, rfl, a, _, rfl, .inl (s1.seq hS), fun c hc => ?_⟩
  have hpc : p ≠ c := fun e => by rw [e, upd_same] at hc; cases hc
  have hc0 : H c = none := by rw [upd_ne (Ne.symm hpc)] at hc; exact hc
  have s2 : Same H (upd (upd H p (.dK [])) c (.lst (ns.map V.int))) := s1.trans (same_new hc)
  refine ⟨_, rfl, a, rfl, ⟨_, s2.seq hS⟩, fun D hD => ?_⟩
  have hDc : D ≠ c := fun e => by rw [e, upd_same] at hD; cases hD
  have hD1 : upd H p (.dK []) D = none := by rw [upd_ne hDc] at hD; exact hD
  have hDp : D ≠ p := fun e => by rw [e, upd_same] at hD1; cases hD1
  have hD0 : H D = none := by rw [upd_ne hDp] at hD1; exact hD1
  generalize hH2 : upd (upd H p (.dK [])) c (.lst (ns.map V.int)) = H2 at s2 hD
  have h2p : H2 p = some (.dK []) := by rw [← hH2, upd_ne hpc, upd_same]
  have h2c : H2 c = some (.lst (ns.map V.int)) := by rw [← hH2, upd_same]
  have e18 : (0 : Int) ≤ 10 ^ (18 : Int).toNat := by decide
  refine lc_list (K := K) (a := a) (xs := ns.map V.int) (fun i H' => ∃ fs : List Int, H' = upd H2 D (.lst (fs.map V.int)) ∧ (∀ z ∈ fs, 0 ≤ z) ∧ fs.length ≤ i) ⟨([] : List Int), rfl, (by intro z h; cases h), Nat.le_refl _⟩ (fun i H' _ ⟨fs, e, _⟩ => by rw [e]; exact (s2.trans (same_new hD)).seq hS) ?_ ?_
  · rintro i x H' hx ⟨fs, rfl, g1, g2⟩
    obtain ⟨z, hz, rfl⟩ : ∃ z, ns[i]? = some z ∧ x = .int z := by
      rw [List.getElem?_map] at hx
      obtain ⟨z, e1, e2⟩ := Option.map_eq_some_iff.mp hx
      exact ⟨z, e1, e2.symm⟩
    have hi : i < ns.length := (List.getElem?_eq_some_iff.mp hz).1
    refine ⟨rfl, ⟨.int z, rfl, 10, 18, rfl, rfl, ⟨by decide, by decide, by decide⟩, z, _, rfl, rfl, _, rfl, ite2 (fun hb => ?_) (fun _ => ?_)⟩⟩
    · have hz0 : 0 ≤ z := Int.le_trans e18 (of_decide_eq_true hb)
      refine ⟨.int z, rfl, _, upd_same, ?_, fs ++ [z], ?_, fun y hy => ?_, by simp; omega⟩
      · rw [List.length_map]
        exact Nat.lt_of_le_of_lt (by omega : fs.length ≤ 63) (by decide)
      · rw [List.map_append]
        funext b
        by_cases hb : b = D
        · rw [hb, upd_same, upd_same]; rfl
        · rw [upd_ne hb, upd_ne hb, upd_ne hb]
      · rcases List.mem_append.mp hy with hy | hy
        · exact g1 y hy
        · rw [List.mem_singleton.mp hy]; exact hz0
    · exact ⟨fs, rfl, g1, by omega⟩
  · rintro H' ⟨fs, rfl, g1, g2⟩
    rw [List.length_map] at g2
    have n1 : upd H2 D (.lst (fs.map V.int)) p = some (.dK []) := by rw [upd_ne (Ne.symm hDp)]; exact h2p
    refine ⟨n1, rk c D 0, rfl, (by show 3 ≤ 15; decide), ?_⟩
    rw [rk_merge]
    refine hq _ p [c, D] (fun x o e => ?_) ⟨p, c, D, ns, fs, 0, rfl, hpc, Ne.symm hDp, Ne.symm hDc, upd_same, ?_, ?_, by decide, by decide, g1, hl, by omega⟩ (fun x hx => ?_)
    · have hxp : x ≠ p := ne_of_none e hp
      rw [upd_ne hxp]
      exact (s2.trans (same_new hD)) x o e
    · rw [upd_ne (Ne.symm hpc), upd_ne (Ne.symm hDc)]; exact h2c
    · rw [upd_ne hDp]; exact upd_same
    · simp only [List.mem_cons, List.not_mem_nil, or_false] at hx
      rcases hx with rfl | rfl | rfl
      · exact hp
      · exact hc0
      · exact hD0
end
end Pk
/-! E5 (printed by gen/mk.py) -/
namespace Pk
open PySem PySem.Spec PyProof.Rows L2 C8

local macro_rules | `(tactic| fail "x1") => `(tactic| (first
  | (guard_target =~ EX _ _ _ _ _; first
    | ((with_reducible apply ex_var); exact rfl)
    | with_reducible refine ex_int ?_
    | with_reducible refine ex_op ?_
    | with_reducible refine ex_cb ?_
    | with_reducible refine ex_str ?_
    | with_reducible refine ex_non ?_
    | with_reducible refine ex_bl ?_
    | with_reducible refine ex_ty ?_
    | with_reducible refine ex_call1 ?_
    | with_reducible refine ex_if ?_
    | with_reducible refine ex_and ?_
    | with_reducible refine ex_or ?_
    | with_reducible refine ex_not ?_
    | with_reducible refine ex_chain ?_
    | with_reducible refine ex_tup ?_
    | with_reducible refine ex_lst ?_
    | with_reducible refine ex_append ?_
    | with_reducible refine ex_disp1N ?_
    | with_reducible refine ex_newN ?_
    | with_reducible refine ex_frzV ?_
    | with_reducible refine ex_frzDV ?_
    | with_reducible refine ex_frzL ?_
    | with_reducible refine ex_frzSl ?_
    | with_reducible refine ex_frzRev ?_
    | with_reducible refine ex_frzRg ?_
    | with_reducible refine ex_un ?_
    | with_reducible refine ex_slT ?_
    | with_reducible refine ex_slL ?_
    | fail "stop")
  | (guard_target =~ AX _ _ _ _ _; first
    | with_reducible refine ax_cons ?_
    | with_reducible refine ax_nil ?_
    | fail "stop")
  | (guard_target =~ SX _ _ _ _ _; first
    | with_reducible refine sx_seq ?_
    | with_reducible refine sx_set ?_
    | with_reducible refine sx_if ?_
    | with_reducible refine sx_ret ?_
    | with_reducible refine sx_next ?_
    | with_reducible refine sx_asg ?_
    | with_reducible refine sx_drop ?_
    | with_reducible refine sx_par ?_
    | with_reducible refine sx_par3 ?_
    | ((with_reducible apply sx_aug); exact rfl)
    | fail "stop")
  | (guard_target =~ TX _ _ _ _ _; first
    | with_reducible refine tx_b ?_
    | with_reducible refine tx_test ?_
    | with_reducible refine tx_and ?_
    | with_reducible refine tx_or ?_
    | with_reducible refine tx_not ?_
    | with_reducible refine tx_yes ?_
    | fail "stop")
  | (guard_target =~ RX _ _ _ _ _ _; first
    | with_reducible refine rx_add ?_
    | with_reducible refine rx_sub ?_
    | ((with_reducible apply rx_mod); (first | assumption | omega))
    | ((with_reducible apply rx_mul); (first | assumption | exact .inl ⟨by omega, by omega⟩))
    | with_reducible refine rx_lt ?_
    | with_reducible refine rx_le ?_
    | with_reducible refine rx_gt ?_
    | with_reducible refine rx_ge ?_
    | with_reducible refine rx_isN ?_
    | with_reducible refine rx_notN ?_
    | with_reducible refine rx_eqI ?_
    | with_reducible refine rx_neI ?_
    | with_reducible refine rx_eqRule ?_
    | with_reducible refine rx_eqS ?_
    | with_reducible refine rx_neS ?_
    | ((with_reducible apply rx_ix0); exact rfl; exact rfl)
    | ((with_reducible apply rx_ix1); exact rfl; exact rfl)
    | ((with_reducible apply rx_ix2); exact rfl; exact rfl)
    | ((with_reducible apply rx_ix3); exact rfl; exact rfl)
    | ((with_reducible apply rx_ix4); exact rfl; exact rfl)
    | ((with_reducible apply rx_ix5); exact rfl; exact rfl)
    | ((with_reducible apply rx_ix6); exact rfl; exact rfl)
    | ((with_reducible apply rx_ix7); exact rfl; exact rfl)
    | ((with_reducible apply rx_ix8); exact rfl; exact rfl)
    | ((with_reducible apply rx_ixL0); exact rfl; exact rfl)
    | ((with_reducible apply rx_ixL1); exact rfl; exact rfl)
    | fail "stop")
  | (guard_target =~ BX _ _ _ _ _; first
    | with_reducible refine bx_isInt ?_
    | with_reducible refine bx_isBool ?_
    | with_reducible refine bx_isStr ?_
    | with_reducible refine bx_isTup ?_
    | with_reducible refine bx_intI ?_
    | with_reducible refine bx_intB ?_
    | with_reducible refine bx_min2 ?_
    | with_reducible refine bx_max2 ?_
    | ((with_reducible apply bx_lenT); exact rfl)
    | ((with_reducible apply bx_lenL); exact rfl)
    | ((with_reducible apply bx_lenN); exact rfl)
    | fail "stop")
  | ((with_reducible apply gx_tup); exact rfl; exact rfl)
  | (guard_target =~ GsX _ _ _ _ _ _; first | refine gsx_cons ?_ | refine gsx_nil ?_ | fail "stop")
  | with_reducible refine gx_name ?_
  | with_reducible refine ox_some ?_
  | with_reducible refine ox_none ?_
  | with_reducible refine ux_neg ?_
  | refine ⟨_, rfl, Nat.le_of_ble_eq_true rfl, rfl, ?_⟩
  | refine ⟨_, rfl, Nat.le_of_ble_eq_true rfl, ?_⟩
  | refine ⟨_, _, rfl, rfl, rfl, ?_⟩
  | refine ⟨_, _, rfl, rfl, by assumption, ?_⟩
  | refine ⟨_, _, rfl, rfl, ?_⟩
  | refine ⟨_, _, _, rfl, ?_⟩
  | refine ⟨_, _, rfl, ?_⟩
  | refine ⟨_, rfl, ?_⟩
  | refine ⟨rfl, (_, some _, some _), rfl, trivial, ?_⟩
  | refine ⟨rfl, (_, some _, none), rfl, trivial, ?_⟩
  | refine ⟨rfl, (_, _), rfl, by assumption, ?_⟩
  | refine ⟨rfl, (_, _, _), rfl, by assumption, ?_⟩
  | refine ⟨rfl, (_, _, _, _), rfl, by assumption, ?_⟩
  | ((with_reducible intro c hc); subst hc)
  | refine ⟨fun hb => Bool.noConfusion hb, fun _ => ?_⟩
  | refine ⟨fun _ => ?_, fun hb => Bool.noConfusion hb⟩
  | dsimp only
  | fail "stop"))
local macro_rules | `(tactic| fail "xc") => `(tactic| (first | (refine ⟨fun hb => ?_, fun hb => ?_⟩ <;> first | exact Bool.noConfusion hb | skip) | fail "stop"))
local macro_rules | `(tactic| fail "xs") => `(tactic| repeat fail "x1")
local macro_rules | `(tactic| fail "xx") => `(tactic| repeat' (first | fail "x1" | fail "xc" | fail "stop"))
local macro_rules | `(tactic| fail "wk") => `(tactic| (first | (refine ⟨?_, rfl⟩; repeat (first | exact Wc.nil | refine Wc.keep (by first | exact trivial | exact Nat.le_of_ble_eq_true rfl) ?_ | refine Wc.drop ?_)) | fail "stop"))
local macro_rules | `(tactic| fail "nx") => `(tactic| (refine ex_callM1 ?_; fail "xs"; refine ⟨0, _, _, _, rfl, rfl, rfl, _, rfl, ⟨⟨by omega, by omega⟩, by omega⟩, ?_⟩))

section
variable {P : Program} {w : World} {K : PySem.W.Frag} {mg : Str → Option Value} {base : Heap}
theorem rep_flat {α : Type} (a : α) : ∀ n : Nat, (List.replicate n [a]).flatten = List.replicate n a
  | 0 => rfl
  | n + 1 => by rw [List.replicate_succ, List.flatten_cons, rep_flat a n]; rfl
def firstC (w : Well) (l : Int) : Crew := ⟨l, List.replicate w.lag.toNat l, [0 - w.rest, 0 - w.rest], 0⟩
abbrev sp__law_first : Spec := Sp1 (α := Well × Int) (fun x => [.dat x.1.d, .dat (.int 2), .dat (.int x.2)]) (fun x => x.1.Ok) fun x c => c = .dat (firstC x.1 x.2).d
theorem cal__law_first {f : Addr} {fd : FuncData} (T : Tp mg) (F : Def K mg "_law_first" s__law_first f fd) (B : Binds K fd ["_law_well_here", "_law_total", "_law_level"] [])  : Cal P w K mg base 1 "_law_first" (spX P w K sp__law_first) [] := by
  refine cal0 F B .nil sc__law_first (sp1_len fun x => rfl) (fun cdv A outer s H vs Q E hr h => ?_)
  refine ⟨_, (pss_one (ps_ret (pe_tupP (pa_cons (pv 2) (pa_cons (pe_op (r := rRepP K) op_repP (pe_tupP (pa_cons (pv 2) pa_nil)) (pe_ix (r := rIxU K P w) (ix_u (hu16 hr)) (pv 0) pe_int (fun _ _ => rfl))) (pa_cons (pe_op (r := rRepP K) op_repP (pe_tupP (pa_cons (pe_op op_sub pe_int (pe_ix (r := rIxU K P w) (ix_u (hu16 hr)) (pv 0) pe_int (fun _ _ => rfl))) pa_nil)) (pv 1)) (pa_cons pe_int pa_nil))))))), ?_⟩
  try dsimp only [cxOf, L2.Cx.nox, L2.Cx.wish, L2.Cx.blk]
  refine enter1 h fun x hx => ?_
  change SX _ _ [_, _, _] [] _
  obtain ⟨w0, l⟩ := x
  have ok : w0.Ok := hx
  have hlag := ok.lag
  change SX _ _ [some (.dat w0.d), some (.dat (.int 2)), some (.dat (.int l))] [] _
  unfold Well.d
  fail "xs"
  refine rx_rep (by omega) (by omega) (Nat.le_of_ble_eq_true rfl) (by simp) ?_
  fail "xs"
  refine rx_rep (by decide) (by decide) (Nat.le_of_ble_eq_true rfl) (by simp) ?_
  fail "xs"
  refine ⟨trivial, ?_⟩
  rw [rep_flat]
  unfold firstC Crew.d
  rw [List.map_replicate]
  rfl
abbrev sp__law_well : SpecM := SpM1 (α := Unit) (fun _ => [.dat (.int 4)]) (fun _ n => n ≤ 900) fun _ n c n' => n' = n + 9 ∧ ∃ w : Well, (w.Ok ∧ w.lag ≤ 2) ∧ c = .dat w.d
theorem cal__law_well {f : Addr} {fd : FuncData} (T : Tp mg) (F : Def K mg "_law_well" s__law_well f fd) (B : Binds K fd ["_law_m", "_law_top"] []) (c__law_next : Cal P w K mg base 1 "_law_next" (spM P w K sp__law_next) []) : Cal P w K mg base 2 "_law_well" (spM P w K sp__law_well) [] := by
  refine cal0 F B .nil sc__law_well (spM1_len fun x => rfl) (fun cdv A outer s H vs Q E hr h => ?_)
  refine ⟨_, (pss_cons (ps_set (i := 2) sc__law_well.nd rfl (Or.inl rfl) (pe_op op_add pe_int (pe_c c__law_next hr (by decide) (by rfl) (pa_cons (pv 0) (pa_cons (pe_op op_sub (pv 1) pe_int) pa_nil))))) (pss_cons (ps_set (i := 3) sc__law_well.nd rfl (Or.inl rfl) (pe_op op_add pe_int (pe_c c__law_next hr (by decide) (by rfl) (pa_cons (pv 0) (pa_cons (pv 2) pa_nil))))) (pss_cons (ps_set (i := 4) sc__law_well.nd rfl (Or.inl rfl) (pe_c c__law_next hr (by decide) (by rfl) (pa_cons (pv 0) (pa_cons (pv 3) pa_nil)))) (pss_cons (ps_set (i := 5) sc__law_well.nd rfl (Or.inl rfl) (pe_tupP (pa_cons (pe_op op_add pe_int (pe_c c__law_next hr (by decide) (by rfl) (pa_cons (pv 0) (pa_cons pe_int pa_nil)))) (pa_cons (pe_op op_add pe_int (pe_c c__law_next hr (by decide) (by rfl) (pa_cons (pv 0) (pa_cons pe_int pa_nil)))) (pa_cons (pe_op op_add pe_int (pe_c c__law_next hr (by decide) (by rfl) (pa_cons (pv 0) (pa_cons pe_int pa_nil)))) (pa_cons (pe_op op_add pe_int (pe_c c__law_next hr (by decide) (by rfl) (pa_cons (pv 0) (pa_cons pe_int pa_nil)))) (pa_cons (pe_c c__law_next hr (by decide) (by rfl) (pa_cons (pv 0) (pa_cons pe_int pa_nil))) pa_nil))))))) (pss_one (ps_ret (pe_op (r := rCatP K) op_catP (pe_tupP (pa_cons (pv 2) (pa_cons (pe_op op_add pe_int (pe_c c__law_next hr (by decide) (by rfl) (pa_cons (pv 0) (pa_cons pe_int pa_nil)))) (pa_cons (pv 3) (pa_cons (pv 4) pa_nil))))) (pv 5)))))))), ?_⟩
  try dsimp only [cxOf, L2.Cx.nox, L2.Cx.wish, L2.Cx.blk]
  refine enterM1 h fun p l n x hx => ?_
  change SX _ _ [_, _, none, none, none, none] [.mm p n] _
  have hn : n ≤ 900 := hx
  change SX _ _ [some (.own 0), some (.dat (.int 4)), none, none, none, none] [.mm p n] _
  fail "xs"
  fail "nx"
  rintro _ _ ⟨rfl, a1, h1, rfl⟩
  fail "xs"
  fail "nx"
  rintro _ _ ⟨rfl, a2, h2, rfl⟩
  fail "xs"
  fail "nx"
  rintro _ _ ⟨rfl, a3, h3, rfl⟩
  fail "xs"
  fail "nx"
  rintro _ _ ⟨rfl, a4, h4, rfl⟩
  fail "xs"
  fail "nx"
  rintro _ _ ⟨rfl, a5, h5, rfl⟩
  fail "xs"
  fail "nx"
  rintro _ _ ⟨rfl, a6, h6, rfl⟩
  fail "xs"
  fail "nx"
  rintro _ _ ⟨rfl, a7, h7, rfl⟩
  fail "xs"
  fail "nx"
  rintro _ _ ⟨rfl, a8, h8, rfl⟩
  fail "xs"
  fail "nx"
  rintro _ _ ⟨rfl, a9, h9, rfl⟩
  fail "xs"
  refine rx_cat rfl rfl rfl rfl (Nat.le_of_ble_eq_true rfl) ?_
  fail "xs"
  refine ⟨trivial, _, rfl, rfl, ⟨2 + a1, 1 + a9, 1 + a2, a3, 1 + a4, 1 + a5, 1 + a6, 1 + a7, a8⟩, ⟨⟨?_, ?_, ?_, ?_, ?_, ?_, ?_, ?_, ?_⟩, ?_⟩, rfl⟩ <;> dsimp only <;> omega
end
end Pk
/-! E6 (printed by gen/mk.py) -/
namespace Pk
open PySem PySem.Spec PyProof.Rows L2 C8

local macro_rules | `(tactic| fail "x1") => `(tactic| (first
  | (guard_target =~ EX _ _ _ _ _; first
    | ((with_reducible apply ex_var); exact rfl)
    | with_reducible refine ex_int ?_
    | with_reducible refine ex_op ?_
    | with_reducible refine ex_cb ?_
    | with_reducible refine ex_str ?_
    | with_reducible refine ex_non ?_
    | with_reducible refine ex_bl ?_
    | with_reducible refine ex_ty ?_
    | with_reducible refine ex_call1 ?_
    | with_reducible refine ex_if ?_
    | with_reducible refine ex_and ?_
    | with_reducible refine ex_or ?_
    | with_reducible refine ex_not ?_
    | with_reducible refine ex_chain ?_
    | with_reducible refine ex_tup ?_
    | with_reducible refine ex_lst ?_
    | with_reducible refine ex_append ?_
    | with_reducible refine ex_disp1N ?_
    | with_reducible refine ex_newN ?_
    | with_reducible refine ex_frzV ?_
    | with_reducible refine ex_frzDV ?_
    | with_reducible refine ex_frzL ?_
    | with_reducible refine ex_frzSl ?_
    | with_reducible refine ex_frzRev ?_
    | with_reducible refine ex_frzRg ?_
    | with_reducible refine ex_un ?_
    | with_reducible refine ex_slT ?_
    | with_reducible refine ex_slL ?_
    | fail "stop")
  | (guard_target =~ AX _ _ _ _ _; first
    | with_reducible refine ax_cons ?_
    | with_reducible refine ax_nil ?_
    | fail "stop")
  | (guard_target =~ SX _ _ _ _ _; first
    | with_reducible refine sx_seq ?_
    | with_reducible refine sx_set ?_
    | with_reducible refine sx_if ?_
    | with_reducible refine sx_ret ?_
    | with_reducible refine sx_next ?_
    | with_reducible refine sx_asg ?_
    | with_reducible refine sx_drop ?_
    | with_reducible refine sx_par ?_
    | with_reducible refine sx_par3 ?_
    | ((with_reducible apply sx_aug); exact rfl)
    | fail "stop")
  | (guard_target =~ TX _ _ _ _ _; first
    | with_reducible refine tx_b ?_
    | with_reducible refine tx_test ?_
    | with_reducible refine tx_and ?_
    | with_reducible refine tx_or ?_
    | with_reducible refine tx_not ?_
    | with_reducible refine tx_yes ?_
    | fail "stop")
  | (guard_target =~ RX _ _ _ _ _ _; first
    | with_reducible refine rx_add ?_
    | with_reducible refine rx_sub ?_
    | ((with_reducible apply rx_mod); (first | assumption | omega))
    | ((with_reducible apply rx_mul); (first | assumption | exact .inl ⟨by omega, by omega⟩))
    | with_reducible refine rx_lt ?_
    | with_reducible refine rx_le ?_
    | with_reducible refine rx_gt ?_
    | with_reducible refine rx_ge ?_
    | with_reducible refine rx_isN ?_
    | with_reducible refine rx_notN ?_
    | with_reducible refine rx_eqI ?_
    | with_reducible refine rx_neI ?_
    | with_reducible refine rx_eqRule ?_
    | with_reducible refine rx_eqS ?_
    | with_reducible refine rx_neS ?_
    | ((with_reducible apply rx_ix0); exact rfl; exact rfl)
    | ((with_reducible apply rx_ix1); exact rfl; exact rfl)
    | ((with_reducible apply rx_ix2); exact rfl; exact rfl)
    | ((with_reducible apply rx_ix3); exact rfl; exact rfl)
    | ((with_reducible apply rx_ix4); exact rfl; exact rfl)
    | ((with_reducible apply rx_ix5); exact rfl; exact rfl)
    | ((with_reducible apply rx_ix6); exact rfl; exact rfl)
    | ((with_reducible apply rx_ix7); exact rfl; exact rfl)
    | ((with_reducible apply rx_ix8); exact rfl; exact rfl)
    | ((with_reducible apply rx_ixL0); exact rfl; exact rfl)
    | ((with_reducible apply rx_ixL1); exact rfl; exact rfl)
    | fail "stop")
  | (guard_target =~ BX _ _ _ _ _; first
    | with_reducible refine bx_isInt ?_
    | with_reducible refine bx_isBool ?_
    | with_reducible refine bx_isStr ?_
    | with_reducible refine bx_isTup ?_
    | with_reducible refine bx_intI ?_
    | with_reducible refine bx_intB ?_
    | with_reducible refine bx_min2 ?_
    | with_reducible refine bx_max2 ?_
    | ((with_reducible apply bx_lenT); exact rfl)
    | ((with_reducible apply bx_lenL); exact rfl)
    | ((with_reducible apply bx_lenN); exact rfl)
    | fail "stop")
  | ((with_reducible apply gx_tup); exact rfl; exact rfl)
  | (guard_target =~ GsX _ _ _ _ _ _; first | refine gsx_cons ?_ | refine gsx_nil ?_ | fail "stop")
  | with_reducible refine gx_name ?_
  | with_reducible refine ox_some ?_
  | with_reducible refine ox_none ?_
  | with_reducible refine ux_neg ?_
  | refine ⟨_, rfl, Nat.le_of_ble_eq_true rfl, rfl, ?_⟩
  | refine ⟨_, rfl, Nat.le_of_ble_eq_true rfl, ?_⟩
  | refine ⟨_, _, rfl, rfl, rfl, ?_⟩
  | refine ⟨_, _, rfl, rfl, by assumption, ?_⟩
  | refine ⟨_, _, rfl, rfl, ?_⟩
  | refine ⟨_, _, _, rfl, ?_⟩
  | refine ⟨_, _, rfl, ?_⟩
  | refine ⟨_, rfl, ?_⟩
  | refine ⟨rfl, (_, some _, some _), rfl, trivial, ?_⟩
  | refine ⟨rfl, (_, some _, none), rfl, trivial, ?_⟩
  | refine ⟨rfl, (_, _), rfl, by assumption, ?_⟩
  | refine ⟨rfl, (_, _, _), rfl, by assumption, ?_⟩
  | refine ⟨rfl, (_, _, _, _), rfl, by assumption, ?_⟩
  | ((with_reducible intro c hc); subst hc)
  | refine ⟨fun hb => Bool.noConfusion hb, fun _ => ?_⟩
  | refine ⟨fun _ => ?_, fun hb => Bool.noConfusion hb⟩
  | dsimp only
  | fail "stop"))
local macro_rules | `(tactic| fail "xc") => `(tactic| (first | (refine ⟨fun hb => ?_, fun hb => ?_⟩ <;> first | exact Bool.noConfusion hb | skip) | fail "stop"))
local macro_rules | `(tactic| fail "xs") => `(tactic| repeat fail "x1")
local macro_rules | `(tactic| fail "xx") => `(tactic| repeat' (first | fail "x1" | fail "xc" | fail "stop"))
local macro_rules | `(tactic| fail "wk") => `(tactic| (first | (refine ⟨?_, rfl⟩; repeat (first | exact Wc.nil | refine Wc.keep (by first | exact trivial | exact Nat.le_of_ble_eq_true rfl) ?_ | refine Wc.drop ?_)) | fail "stop"))
local macro_rules | `(tactic| fail "nx") => `(tactic| (refine ex_callM1 ?_; fail "xs"; refine ⟨0, _, _, _, rfl, rfl, rfl, _, rfl, ⟨⟨by omega, by omega⟩, by omega⟩, ?_⟩))

section
variable {P : Program} {w : World} {K : PySem.W.Frag} {mg : Str → Option Value} {base : Heap}
theorem log_small {m : Nat} (h : m ≤ 2000002) : m.log2 < 1920 := by
  have h4 : m < 2 ^ 21 := by
    have : (2 : Nat) ^ 21 = 2097152 := rfl
    omega
  by_cases h5 : m = 0
  · rw [h5]; decide
  · have := (Nat.log2_lt h5).mpr h4
    omega
theorem rep_str {m : Int} (h : m.natAbs.log2 < 1920) : RepOk (.str ((toString m : String) : Str)) := by
  show (reprText ((toString m : String) : Str)).length ≤ sizeLine
  have h1 : (((toString m : String) : Str)).length ≤ 1921 := int_text_len_1921 h
  have h2 := StrLaws.reprText_len ((toString m : String) : Str) fun c hc => by
    have z := int_text_free' c (i := m)
    have e : (16 : Nat) ^ 8 = 4294967296 := rfl
    by_cases q : c ≠ 45 ∧ (c < 48 ∨ 57 < c)
    · exact absurd hc (z q)
    · omega
  rw [sizeLine_eq]
  omega
theorem rep_tup {m : Int} (h : m.natAbs.log2 < 1920) : RepOk (.tuple [.int m]) := by
  refine ⟨h, ?_⟩
  have h1 : (((toString m : String) : Str)).length ≤ 1921 := int_text_len_1921 h
  show (("(" : Str) ++ ((toString m : String) : Str) ++ (",)" : Str)).length ≤ sizeLine
  rw [strLen_append, strLen_append, sizeLine_eq]
  have e1 : (("(" : String) : Str).length = 1 := rfl
  have e2 : ((",)" : String) : Str).length = 2 := rfl
  omega
/-- a part of a paper that is told -/
def PtOk (part : PyData) : Prop := (∃ m : Int, part = .int m ∧ m.natAbs ≤ 2000000) ∨ (∃ row : List Int, part = .tuple (row.map .int) ∧ row.length ≤ 100000) ∨ (∃ hs : List (Crew × Int), part = .tuple (hs.map heightD) ∧ hs.length ≤ 60)
/-- what may stand in its place -/
def Fresh (part x : PyData) : Prop := match part with
  | .int _ => RepOk x
  | .tuple ps => (∃ qs, x = .tuple qs ∧ qs.length ≤ 2 * ps.length + 1) ∨ x = .list ps
  | _ => False
theorem told_parts {w : Well} {t : Bool} {es : List PyData} (h : Told w t (.tuple es)) : (es.length = 3 ∨ es.length = 4) ∧ ∀ j part, 1 ≤ j → es[j]? = some part → PtOk part := by
  generalize hd : PyData.tuple es = d at h
  cases h with
  | lead m row hs hm hr hh ho =>
    cases hd
    refine ⟨.inr rfl, fun j part h1 e => ?_⟩
    match j, h1, e with
    | 1, _, e => cases e; exact .inl ⟨m, rfl, hm⟩
    | 2, _, e => cases e; exact .inr (.inl ⟨row, rfl, hr⟩)
    | 3, _, e => cases e; exact .inr (.inr ⟨hs, rfl, hh⟩)
    | k + 4, _, e => simp at e
  | endless r1 r2 h1 h2 =>
    cases hd
    refine ⟨.inl rfl, fun j part h3 e => ?_⟩
    match j, h3, e with
    | 1, _, e => cases e; exact .inr (.inl ⟨r1, rfl, h1⟩)
    | 2, _, e => cases e; exact .inr (.inl ⟨r2, rfl, h2⟩)
    | k + 3, _, e => simp at e
theorem sheet3 {a b c : PyData} : SheetP (.tuple [a, b, c]) := ⟨fun _ _ _ _ e => (by cases e), fun _ _ _ _ _ e => (by cases e), fun _ _ _ _ _ e => (by cases e), fun es e => (by cases e; exact Nat.le_of_ble_eq_true rfl)⟩
theorem sheet4 {s p1 p2 p3 : PyData} (h1 : RepOk p1) (h2 : ∀ row, p2 = .tuple row → row.length ≤ 250000) (h3 : ∀ ds, p3 = .tuple ds → ds.length ≤ 1000) : SheetP (.tuple [s, p1, p2, p3]) :=
  ⟨fun _ _ _ _ e => by cases e; exact h1, fun _ _ _ _ row e q => by cases e; exact h2 row q, fun _ _ _ _ ds e q => by cases e; exact h3 ds q, fun es e => by cases e; exact Nat.le_of_ble_eq_true rfl⟩
theorem fresh_len {ps : List PyData} {x : PyData} (f : Fresh (.tuple ps) x) : ∀ qs, x = .tuple qs → qs.length ≤ 2 * ps.length + 1 := fun qs e => by
  rcases f with ⟨rs, rfl, h⟩ | rfl
  · cases e; exact h
  · cases e
theorem told_bent {w : Well} {t : Bool} {es : List PyData} (h : Told w t (.tuple es)) {j : Nat} {part x : PyData} (h1 : 1 ≤ j) (e : es[j]? = some part) (f : Fresh part x) : SheetP (.tuple (es.take j ++ [x] ++ es.drop (j + 1))) := by
  generalize hd : PyData.tuple es = d at h
  cases h with
  | lead m row hs hm hr hh ho =>
    cases hd
    have hm2 : RepOk (.int m) := log_small (by omega)
    match j, h1, e with
    | 1, _, e =>
      cases e
      exact sheet4 f (fun r q => by cases q; rw [List.length_map]; omega) (fun r q => by cases q; rw [List.length_map]; omega)
    | 2, _, e =>
      cases e
      exact sheet4 hm2 (fun r q => by have := fresh_len f r q; rw [List.length_map] at this; omega) (fun r q => by cases q; rw [List.length_map]; omega)
    | 3, _, e =>
      cases e
      exact sheet4 hm2 (fun r q => by cases q; rw [List.length_map]; omega) (fun r q => by have := fresh_len f r q; rw [List.length_map] at this; omega)
    | k + 4, _, e => simp at e
  | endless r1 r2 h1 h2 =>
    cases hd
    match j, h1, e with
    | 1, _, e => exact sheet3
    | 2, _, e => exact sheet3
    | k + 3, _, e => simp at e
theorem lay_heights : ∀ hs : List (Crew × Int), PyData.canLayAll0 (hs.map heightD) = true
  | [] => by simp [PyData.canLayAll0]
  | p :: hs => by
    rw [List.map_cons, PyData.canLayAll0, lay_heights hs]
    simp [heightD, PyData.canLay0, PyData.canLayAll0, lay_crew]
theorem dep_heights : ∀ hs : List (Crew × Int), PyData.depthAll (hs.map heightD) ≤ 3
  | [] => by simp [PyData.depthAll]
  | p :: hs => by
    have := dep_heights hs
    rw [List.map_cons, PyData.depthAll, dep_height]
    omega
theorem shaped_heights (hs : List (Crew × Int)) : SeqAt.shaped (.tuple (hs.map heightD)) = true := by
  have := dep_heights hs
  simp [SeqAt.shaped, PyData.canLay0, PyData.depth, lay_heights]
  omega
theorem pt_split {part : PyData} (h : PtOk part) : (∃ m : Int, part = .int m ∧ m.natAbs ≤ 2000000) ∨ (∃ ps, part = .tuple ps ∧ ps.length ≤ 100000 ∧ SeqAt.shaped (.tuple ps) = true ∧ (ps = [] ∨ (∃ i r, ps = .int i :: r) ∨ (∃ c i r, ps = .tuple [c, .int i] :: r))) := by
  rcases h with ⟨m, rfl, hm⟩ | ⟨row, rfl, hr⟩ | ⟨hs, rfl, hh⟩
  · exact .inl ⟨m, rfl, hm⟩
  · refine .inr ⟨_, rfl, by rw [List.length_map]; exact hr, shaped_intsT row, ?_⟩
    cases row with
    | nil => exact .inl rfl
    | cons i r => exact .inr (.inl ⟨i, _, rfl⟩)
  · refine .inr ⟨_, rfl, by rw [List.length_map]; omega, shaped_heights hs, ?_⟩
    cases hs with
    | nil => exact .inl rfl
    | cons i r => exact .inr (.inr ⟨_, _, _, rfl⟩)
theorem cutD_len (ds : List PyData) (lo hi : Option Int) : (cutD ds lo hi).length ≤ ds.length := by
  unfold cutD
  rw [List.length_take, List.length_drop]
  omega
/-- a statement, then the rest, with a word between them -/
theorem sx_mid {C : Kx} {t u : TS} {γ : List (Option Cl)} {os : List OV} {E : En} (Mid : List (Option Cl) → List OV → Prop) (h : SX C t γ os { nx := Mid, rt := fun _ _ => False }) (k : ∀ γ1 os1, Mid γ1 os1 → SX C u γ1 os1 E) : SX C (tSeq t u) γ os E :=
  sx_seq fun as H σ D r s kn kr kb kc => h as H σ D r s (fun γ' os' as' H' σ' r' x' s' q => kn γ' os' as' H' σ' r' x' s' (k _ _ q)) (fun _ _ _ _ _ _ _ _ h => h.elim) (fun _ _ _ _ _ _ _ _ h => h.elim) fun _ _ _ _ _ _ _ _ h => h.elim
theorem szLe {n k : Nat} (h : n ≤ k) (hk : Nat.ble k sizeLine = true) : n ≤ sizeLine := Nat.le_trans h (Nat.le_of_ble_eq_true hk)
theorem at_some {ds : List PyData} {j : Nat} (h : j < ds.length) : ∃ y, ds[j]? = some y := ⟨_, List.getElem?_eq_getElem h⟩
abbrev sp__law_bent : SpecM := SpM1 (α := Well × Bool × List PyData) (fun x => [.dat (.tuple x.2.2)]) (fun x n => n ≤ 900 ∧ Told x.1 x.2.1 (.tuple x.2.2)) fun _ n c n' => n' ≤ n + 4 ∧ ∃ d, SheetP d ∧ c = .dat d
theorem cal__law_bent {f : Addr} {fd : FuncData} (T : Tp mg) (F : Def K mg "_law_bent" s__law_bent f fd) (B : Binds K fd ["_law_m", "_law_sheet"] []) (c__law_next : Cal P w K mg base 1 "_law_next" (spM P w K sp__law_next) []) : Cal P w K mg base 2 "_law_bent" (spM P w K sp__law_bent) [] := by
  refine cal0 F B .nil sc__law_bent (spM1_len fun x => rfl) (fun cdv A outer s H vs Q E hr h => ?_)
  refine ⟨_, (pss_cons (ps_set (i := 2) sc__law_bent.nd rfl (Or.inl rfl) (pe_op op_add pe_int (pe_c c__law_next hr (by decide) (by rfl) (pa_cons (pv 0) (pa_cons (pe_op op_sub (pe_callB (r := rLenU K P w) call_lenU (by rfl) T.b_len bo_len (pa_cons (pv 1) pa_nil)) pe_int) pa_nil))))) (pss_cons (ps_set (i := 3) sc__law_bent.nd rfl (Or.inl rfl) (pe_ix (r := rIxU K P w) (ix_u (hu16 hr)) (pv 1) (pv 2) (fun _ _ => rfl))) (pss_cons (ps_if (pt_val (pe_callB (r := rIsi K) call_isi (by rfl) T.b_isinstance bo_isinstance (pa_cons (pv 3) (pa_cons (pe_bltn (v := .ty "tuple") (u := .type "tuple") (by rfl) T.b_tuple bo_tuple rfl) pa_nil)))) (pss_cons (ps_set (i := 4) sc__law_bent.nd rfl (Or.inl rfl) (pe_c c__law_next hr (by decide) (by rfl) (pa_cons (pv 0) (pa_cons (pe_op op_add (pe_callB (r := rLenU K P w) call_lenU (by rfl) T.b_len bo_len (pa_cons (pv 3) pa_nil)) pe_int) pa_nil)))) (pss_cons (ps_set (i := 5) sc__law_bent.nd rfl (Or.inl rfl) (pe_ifExp (PW.pt (pw_and (pt_cmpR (r := rNeU K) (op_neU (hu64 hr)) (pv 3) (pe_tupP pa_nil) (nomark _)) (pw_and1 (pt_val (pe_callB (r := rIsi K) call_isi (by rfl) T.b_isinstance bo_isinstance (pa_cons (pe_ix (r := rIxU K P w) (ix_u (hu16 hr)) (pv 3) pe_int (fun _ _ => rfl)) (pa_cons (pe_bltn (v := .ty "tuple") (u := .type "tuple") (by rfl) T.b_tuple bo_tuple rfl) pa_nil))))))) (pe_tupP (pa_cons (pe_ix (r := rIxU K P w) (ix_u (hu16 hr)) (pe_ix (r := rIxU K P w) (ix_u (hu16 hr)) (pv 3) pe_int (fun _ _ => rfl)) pe_int (fun _ _ => rfl)) (pa_cons (pe_op op_add (pe_ix (r := rIxU K P w) (ix_u (hu16 hr)) (pe_ix (r := rIxU K P w) (ix_u (hu16 hr)) (pv 3) pe_int (fun _ _ => rfl)) pe_int (fun _ _ => rfl)) pe_int) pa_nil))) pe_int)) (pss_cons (ps_set (i := 6) sc__law_bent.nd rfl (Or.inl rfl) (pe_ix (r := rIxU K P w) (ix_u (hu16 hr)) (pe_frz (pe_lst (pa_cons pe_non (pa_cons pe_int (pa_cons pe_int (pa_cons pe_bl (pa_cons (pe_tupP pa_nil) (pa_cons pe_str (pa_cons (pv 5) pa_nil))))))))) (pe_c c__law_next hr (by decide) (by rfl) (pa_cons (pv 0) (pa_cons pe_int pa_nil))) (fun _ _ => rfl))) (pss_cons (ps_set (i := 7) sc__law_bent.nd rfl (Or.inl rfl) (pe_lst (pa_cons (pe_op (r := rCatP K) op_catP (pe_slice (r := rSlP K) sl_tupP (pv 3) po_none (po_some (pv 4))) (pe_slice (r := rSlP K) sl_tupP (pv 3) (po_some (pe_op op_add (pv 4) pe_int)) po_none)) (pa_cons (pe_op (r := rCatP K) op_catP (pe_op (r := rCatP K) op_catP (pe_slice (r := rSlP K) sl_tupP (pv 3) po_none (po_some (pv 4))) (pe_tupP (pa_cons (pv 6) pa_nil))) (pe_slice (r := rSlP K) sl_tupP (pv 3) (po_some (pv 4)) po_none)) (pa_cons (pe_revU (pv 3)) (pa_cons (pe_op (r := rCatP K) op_catP (pv 3) (pv 3)) pa_nil)))))) (pss_one (ps_set (i := 8) sc__law_bent.nd rfl (Or.inl rfl) (pe_ix (r := rIxU K P w) (ix_u (hu16 hr)) (pe_frz (pe_op op_cat (pv 7) (pe_lst (pa_cons (pe_frz (pe_callTy call_list_of (by rfl) T.b_list bo_list (pa_cons (pv 3) pa_nil))) (pa_cons (pe_tupP pa_nil) pa_nil))))) (pe_c c__law_next hr (by decide) (by rfl) (pa_cons (pv 0) (pa_cons pe_int pa_nil))) (fun _ _ => rfl)))))))) (pss_one (ps_set (i := 8) sc__law_bent.nd rfl (Or.inl rfl) (pe_ix (r := rIxU K P w) (ix_u (hu16 hr)) (pe_frz (pe_lst (pa_cons (pe_op op_add (pv 3) pe_int) (pa_cons (pe_op op_sub (pv 3) pe_int) (pa_cons pe_non (pa_cons pe_bl (pa_cons (pe_callTy call_str_int (by rfl) T.b_str bo_str (pa_cons (pv 3) pa_nil)) (pa_cons (pe_tupP (pa_cons (pv 3) pa_nil)) pa_nil)))))))) (pe_c c__law_next hr (by decide) (by rfl) (pa_cons (pv 0) (pa_cons pe_int pa_nil))) (fun _ _ => rfl))))) (pss_one (ps_ret (pe_op (r := rCatP K) op_catP (pe_op (r := rCatP K) op_catP (pe_slice (r := rSlP K) sl_tupP (pv 1) po_none (po_some (pv 2))) (pe_tupP (pa_cons (pv 8) pa_nil))) (pe_slice (r := rSlP K) sl_tupP (pv 1) (po_some (pe_op op_add (pv 2) pe_int)) po_none))))))), ?_⟩
  try dsimp only [cxOf, L2.Cx.nox, L2.Cx.wish, L2.Cx.blk]
  refine enterM1 h fun p l n x hx => ?_
  change SX _ _ [_, _, none, none, none, none, none, none, none] [.mm p n] _
  obtain ⟨w0, t, es⟩ := x
  obtain ⟨hn, htold⟩ := hx
  dsimp only at hn htold
  obtain ⟨hlen, hparts⟩ := told_parts htold
  change SX _ _ [some (.own 0), some (.dat (.tuple es)), none, none, none, none, none, none, none] [.mm p n] _
  fail "xs"
  fail "nx"
  rintro _ _ ⟨rfl, j, hj, rfl⟩
  obtain ⟨j, rfl⟩ := Int.eq_ofNat_of_zero_le hj.1
  fail "xs"
  obtain ⟨part, hpart⟩ := at_some (ds := es) (j := j + 1) (by omega)
  refine rx_ixTk (j + 1) (by omega) rfl hpart ?_
  have hp := pt_split (hparts _ _ (by omega) hpart)
  refine sx_mid (fun γ1 os1 => ∃ n' x g4 g5 g6 g7, γ1 = [some (.own 0), some (.dat (.tuple es)), some (.dat (.int (1 + (j : Int)))), some (.dat part), g4, g5, g6, g7, some (.dat x)] ∧ os1[0]? = some (.mm p n') ∧ n' ≤ n + 4 ∧ Fresh part x) ?_ ?_
  · rcases hp with ⟨m, rfl, hm⟩ | ⟨ps, rfl, hl, hsh, hc⟩
    · have hlog : m.natAbs.log2 < 1920 := log_small (by omega)
      fail "xs"
      refine bx_str hlog ?_
      fail "xs"
      fail "nx"
      rintro _ _ ⟨rfl, q, hq, rfl⟩
      obtain ⟨q, rfl⟩ := Int.eq_ofNat_of_zero_le hq.1
      have hq6 : q < 6 := by omega
      obtain ⟨y, hy⟩ := at_some (ds := [.int (m + 1), .int (m - 1), .none, .bool true, .str ((toString m : String) : Str), .tuple [.int m]]) (j := q) (by exact hq6)
      refine rx_ixLk q rfl rfl hy ?_
      refine ⟨_, y, _, _, _, _, rfl, rfl, by omega, ?_⟩
      show RepOk y
      have hy := List.mem_of_getElem? hy
      simp only [List.mem_cons, List.not_mem_nil, or_false] at hy
      rcases hy with rfl | rfl | rfl | rfl | rfl | rfl
      · exact log_small (by omega)
      · exact log_small (by omega)
      · trivial
      · trivial
      · exact rep_str hlog
      · exact rep_tup hlog
    · fail "xs"
      fail "nx"
      rintro _ _ ⟨rfl, a, ha, rfl⟩
      refine sx_seq (sx_set (EX.imp (R' := fun c os1 => ∃ mo, c = .dat mo ∧ os1 = [.mm p (n + 1 + 1)]) ?_ ?_))
      · rcases hc with rfl | ⟨i, r, rfl⟩ | ⟨c, i, r, rfl⟩
        · fail "xs"
          refine rx_neD rfl rfl hsh shaped_nilT ?_
          rw [eqv_nilT]
          fail "xs"
          exact rfl
        · fail "xs"
          refine rx_neD rfl rfl hsh shaped_nilT ?_
          rw [eqv_nilT]
          fail "xs"
          exact rfl
        · fail "xs"
          refine rx_neD rfl rfl hsh shaped_nilT ?_
          rw [eqv_nilT]
          fail "xs"
          exact rfl
      rintro _ _ ⟨mo, rfl, rfl⟩
      fail "xs"
      fail "nx"
      rintro _ _ ⟨rfl, k, hk, rfl⟩
      obtain ⟨k, rfl⟩ := Int.eq_ofNat_of_zero_le hk.1
      have hk7 : k < 7 := by omega
      obtain ⟨odd, hodd⟩ := at_some (ds := [.none, .int 0, .int 1, .bool true, .tuple [], .str "x", mo]) (j := k) (by exact hk7)
      refine rx_ixLk k rfl rfl hodd ?_
      have c1 := cutD_len ps none (some a)
      have c2 := cutD_len ps (some (a + 1)) none
      have c3 := cutD_len ps (some a) none
      have e1 : cutD ps none (some a) = ps.take a.toNat := cut_to ha.1
      have e3 : cutD ps (some a) none = ps.drop a.toNat := cut_from ha.1
      fail "xs"
      refine rx_cat rfl rfl rfl rfl (szLe (k := 200000) (by omega) rfl) ?_
      fail "xs"
      refine rx_cat rfl rfl rfl rfl (szLe (k := 200000) (by show _ + 1 ≤ _; omega) rfl) ?_
      fail "xs"
      refine rx_cat rfl rfl rfl rfl (szLe (k := 300000) (by rw [List.length_append]; show _ + 1 + _ ≤ _; omega) rfl) ?_
      fail "xs"
      refine ex_revT ?_
      fail "xs"
      refine rx_cat rfl rfl rfl rfl (szLe (k := 200000) (by omega) rfl) ?_
      fail "xs"
      refine ex_frz ?_
      fail "xs"
      refine ex_frzB ?_
      fail "xs"
      refine ⟨rfl, fun ds => ds = ps, bx_listT rfl ⟨ps, rfl, rfl, rfl⟩, ?_⟩
      rintro ds hds
      have hds : ps = ds := hds.symm
      subst hds
      fail "xs"
      refine rx_catL (k1 := 1) (k2 := 2) rfl rfl (Nat.le_of_ble_eq_true rfl) ?_
      fail "xs"
      fail "nx"
      rintro _ _ ⟨rfl, q, hq, rfl⟩
      obtain ⟨q, rfl⟩ := Int.eq_ofNat_of_zero_le hq.1
      have hq6 : q < 6 := by omega
      obtain ⟨y, hy⟩ := at_some (ds := [.tuple (cutD ps none (some a) ++ cutD ps (some (a + 1)) none), .tuple (cutD ps none (some a) ++ [odd] ++ cutD ps (some a) none), .tuple ps.reverse, .tuple (ps ++ ps), .list ps, .tuple []]) (j := q) (by exact hq6)
      refine rx_ixLk q rfl rfl hy ?_
      refine ⟨_, y, _, _, _, _, rfl, rfl, by omega, ?_⟩
      have hy := List.mem_of_getElem? hy
      simp only [List.mem_cons, List.not_mem_nil, or_false] at hy
      rcases hy with rfl | rfl | rfl | rfl | rfl | rfl
      · exact .inl ⟨_, rfl, by rw [List.length_append]; omega⟩
      · exact .inl ⟨_, rfl, by
          rw [List.length_append, List.length_append, e1, e3, List.length_take, List.length_drop]
          show _ + 1 + _ ≤ _
          omega⟩
      · exact .inl ⟨_, rfl, by rw [List.length_reverse]; omega⟩
      · exact .inl ⟨_, rfl, by rw [List.length_append]; omega⟩
      · exact .inr rfl
      · exact .inl ⟨_, rfl, Nat.zero_le _⟩
  · rintro γ1 os1 ⟨n', x, g4, g5, g6, g7, rfl, h0, hle, hf⟩
    have c1 := cutD_len es none (some (1 + (j : Int)))
    have c2 := cutD_len es (some (1 + (j : Int) + 1)) none
    have e1 : cutD es none (some (1 + (j : Int))) = es.take (j + 1) := by
      rw [cut_to (by omega)]; congr 1; omega
    have e2 : cutD es (some (1 + (j : Int) + 1)) none = es.drop (j + 1 + 1) := by
      rw [cut_from (by omega)]; congr 1; omega
    fail "xs"
    refine rx_cat rfl rfl rfl rfl (szLe (k := 200000) (by show _ + 1 ≤ _; omega) rfl) ?_
    fail "xs"
    refine rx_cat rfl rfl rfl rfl (szLe (k := 300000) (by rw [List.length_append]; show _ + 1 + _ ≤ _; omega) rfl) ?_
    rw [e1, e2]
    exact ⟨trivial, n', h0, by omega, _, told_bent htold (by omega) hpart hf, rfl⟩
end
end Pk
/-! E7: repr of a verdict where no repr is under way; a law's def at the top, with what is known of the guards. -/
namespace Pk
open PySem PySem.Spec PyProof.Rows L2 C8

/-! ### repr of a text, of a list of one text -/
def rRepV (K : PySem.W.Frag) : List V → Hp → VK → Prop := fun xs H Q =>
  (∃ t, xs = [.str t] ∧ (reprText t).length ≤ sizeLine ∧ Q (.str (reprText t)) H) ∨
  (∃ p t, xs = [.ref p] ∧ SqL K H p [.str t] ∧ (reprText t).length ≤ 1000 ∧ (listText [reprText t]).length ≤ sizeLine ∧ Q (.str (listText [reprText t])) H)
theorem call_repV {X : Cx} (hu : X.A.units + 1 < cLine) (hg : X.A.guards = some []) : CallR X (.builtin "repr") (rRepV X.K) := by
  intro pins s σ H xs us Q I r h
  rcases h with ⟨a, rfl, hz, q⟩ | ⟨p, a, rfl, hq, hz, hz2, q⟩
  · obtain ⟨u, rfl, t, rfl⟩ := vals1 r
    exact PySem.P.repr_of_str ⟨.str _, H, I.tok _, ⟨_, rfl⟩, q⟩ hz
  · obtain ⟨u, rfl, rx⟩ := vals1 r
    cases rx
    obtain ⟨its, r1, ht, _⟩ := I.list hq
    obtain ⟨v, rfl, tk, rfl⟩ := vals1 r1
    have hl := ht.isList
    obtain ⟨o, h1, h2, n, h3⟩ := hl
    refine call_repr_slot hu ⟨o, h1, h2⟩ F.slot_list_repr.toG ?_
    refine call_list_repr (g := []) (na := n) (x := .str a tk) (l := []) (ts := [reprText a]) ⟨o, h1, h2⟩ hg (fun _ _ _ h => nomatch h) h1 h3 rfl (fun i y hy => ?_) (fun h' u tk' k => ?_) hz2
    · match i, hy with
      | 0, hy =>
        cases hy
        exact ⟨_, rfl, ReprIs.str a tk (by rw [sizeLine_eq]; omega)⟩
      | k + 1, hy => simp at hy
    · exact ⟨_, _, rfl, .str (listText [reprText a]), H, I.kept (h' := h') (t' := tk') k, ⟨_, rfl⟩, q⟩
def repV : Verd → Str
  | .good s => reprText s
  | .bad s => listText [reprText s]
def VOk : Verd → Prop
  | .good s => s = "form" ∨ s = "lead" ∨ s = "endless"
  | .bad s => s = "form" ∨ s = "lead" ∨ s = "endless"
theorem judge_ok {w : Well} {t : Bool} {lo hi one other : Int} {c : Crew} {d : PyData} : VOk (judge w t lo hi one other c d) := by
  unfold judge
  split
  · split
    · split
      · exact .inr (.inr rfl)
      · exact .inr (.inr rfl)
    · exact .inl rfl
  · split
    · split
      · exact .inr (.inl rfl)
      · exact .inr (.inl rfl)
    · exact .inl rfl
  · exact .inl rfl
theorem bx_repV {C : Kx} {os : List OV} {R : Cl → List OV → Prop} {v : Verd} (hv : VOk v) (h : R (.dat (.str (repV v))) os) : BX C (rRepV C.K) [.dat (verdD v)] os R := fun as H xs Q r hx q => by
  obtain ⟨u, rfl, h1⟩ := paired1 hx
  cases v with
  | good s =>
    refine .inl ⟨s, by rw [cv_strE h1], ?_, Kt.here q r (c := .dat (.str _)) cv_str h⟩
    rcases hv with rfl | rfl | rfl <;> decide +kernel
  | bad s =>
    obtain ⟨a, ys, rfl, h2, h3⟩ := ls_of r h1 rfl
    obtain ⟨y, rr, rfl, hy, h4⟩ := da_cons.mp h3
    rw [da_nil.mp h4, dd_str.mp hy] at h2
    refine .inr ⟨a, s, rfl, h2, ?_, ?_, Kt.here q r (c := .dat (.str _)) cv_str h⟩
    · rcases hv with rfl | rfl | rfl <;> decide +kernel
    · rcases hv with rfl | rfl | rfl <;> decide +kernel

/-! ### the top's call -/
/-- a def called with these activations around it -/
theorem run_here {P : Program} {w : World} {K : PySem.W.Frag} {mg : Str → Option Value} {base : Heap} {A : Around} {k : Nat} {x : Str} {st : Stmt} {f : Addr} {fd : FuncData} {N ps : List Str} {outer : List Env} {s : Shared} {H : Hp} {args : Args} {us : List Value} {vs : List V} {Q : VK} {E : XK}
    (F : Def K mg x st f fd) (S : FnScope N ps (fnScope st)) (hr : Room (k + 1) A) (e0 : Env0 P w K mg base A outer s H) (hb : BindsTo s fd args (ps.zip us)) (r : Vals vs us) (hl : vs.length = ps.length)
    (hbody : ∀ cdv : Value, ∃ t, PSs (cxOf C8.CX0 P w K mg base N x (fnScope st) f cdv A outer s H E).nox (fnBody st) t ∧ t { nx := fun _ H' => Q .non H', rt := Q } (L2.start N vs) H) :
    codeAny (model P w) A (.call (.ref f) args) (fun r s' => ∃ u, r = .ok (.ret u) ∧ CE outer P w H s Q u s') s := by
  obtain ⟨oc, od, dV, kV, doc, pm, an, cdv, ct, osl, rfl, lk, hcd⟩ := F.fn.ex
  have old : ∀ b o, base.get? b = some o → s.heap.get? b = some o := fun b o e => (e0.bs b o e).1
  have KX : K.In s.heap := e0.mod.kin.keeps old
  have bound : ∀ y ∈ ps.zip us, (fnScope st).names.lookup y.1 = some .local ∨ ((fnScope st).names.lookup y.1 = some .cell ∧ ((cellsFrom (s.heap.objs.size + 1) (fnScope st).names []).lookup y.1).isSome = true) := by
    rintro ⟨y, v⟩ hy
    rcases S.par y (List.of_mem_zip hy).1 with z | z
    · exact Or.inl z
    · exact Or.inr ⟨z, PySem.W.cellsFrom_some _ _ _ (Or.inl z)⟩
  refine codeAny_call_function hr.depth (KX f _ lk) rfl S.co S.gen rfl (PySem.W.codeRec_of KX hcd) (hb _ _ _ _ (wpAny_newFunctionEnv_cells S.kind bound ?_))
  rintro _ rfl s1 z
  obtain ⟨t, ht, hq⟩ := hbody cdv
  have I := inv_start (CX := C8.CX0) (E := E) S hr.hd e0 hl r z
  refine ⟨(e0.mod.nolimit.keeps old).keeps z.toInCall.keep, codeAny_func (wpAny_mono (ht.nox.run [] s1 _ H _ I hq) ?_ ?_)⟩
  · intro fl s' hs
    cases fl with
    | next =>
      obtain ⟨_, H', J, q⟩ := hs
      exact ⟨_, rfl, .non, H', J.os, J.bare, J.base, J.hok, rfl, q⟩
    | ret u =>
      obtain ⟨v, _, H', J, rv, q⟩ := hs
      exact ⟨_, rfl, v, H', J.os, J.bare, J.base, J.hok, rv, q⟩
    | brk =>
      obtain ⟨_, _, _, q⟩ := hs
      exact q.elim
    | cont =>
      obtain ⟨_, _, _, q⟩ := hs
      exact q.elim
  · intro e s' hs
    refine wpAny_mono hs (fun _ _ z => ?_) fun _ _ z => ?_
    · exact False.elim z
    · exact False.elim z
end Pk
/-! E8 (printed by gen/e8.py): law -/
namespace Pk
open PySem PySem.Spec PyProof.Rows L2 C8

local macro_rules | `(tactic| fail "x1") => `(tactic| (first
  | (guard_target =~ EX _ _ _ _ _; first
    | ((with_reducible apply ex_var); exact rfl)
    | with_reducible refine ex_int ?_
    | with_reducible refine ex_op ?_
    | with_reducible refine ex_cb ?_
    | with_reducible refine ex_str ?_
    | with_reducible refine ex_non ?_
    | with_reducible refine ex_bl ?_
    | with_reducible refine ex_ty ?_
    | with_reducible refine ex_call1 ?_
    | with_reducible refine ex_if ?_
    | with_reducible refine ex_and ?_
    | with_reducible refine ex_or ?_
    | with_reducible refine ex_not ?_
    | with_reducible refine ex_chain ?_
    | with_reducible refine ex_tup ?_
    | with_reducible refine ex_lst ?_
    | with_reducible refine ex_append ?_
    | with_reducible refine ex_disp1N ?_
    | with_reducible refine ex_newN ?_
    | with_reducible refine ex_frzV ?_
    | with_reducible refine ex_frzDV ?_
    | with_reducible refine ex_frzL ?_
    | with_reducible refine ex_frzSl ?_
    | with_reducible refine ex_frzRev ?_
    | with_reducible refine ex_frzRg ?_
    | with_reducible refine ex_un ?_
    | with_reducible refine ex_slT ?_
    | with_reducible refine ex_slL ?_
    | fail "stop")
  | (guard_target =~ AX _ _ _ _ _; first
    | with_reducible refine ax_cons ?_
    | with_reducible refine ax_nil ?_
    | fail "stop")
  | (guard_target =~ SX _ _ _ _ _; first
    | with_reducible refine sx_seq ?_
    | with_reducible refine sx_set ?_
    | with_reducible refine sx_if ?_
    | with_reducible refine sx_ret ?_
    | with_reducible refine sx_next ?_
    | with_reducible refine sx_asg ?_
    | with_reducible refine sx_drop ?_
    | with_reducible refine sx_par ?_
    | with_reducible refine sx_par3 ?_
    | ((with_reducible apply sx_aug); exact rfl)
    | fail "stop")
  | (guard_target =~ TX _ _ _ _ _; first
    | with_reducible refine tx_b ?_
    | with_reducible refine tx_test ?_
    | with_reducible refine tx_and ?_
    | with_reducible refine tx_or ?_
    | with_reducible refine tx_not ?_
    | with_reducible refine tx_yes ?_
    | fail "stop")
  | (guard_target =~ RX _ _ _ _ _ _; first
    | with_reducible refine rx_add ?_
    | with_reducible refine rx_sub ?_
    | ((with_reducible apply rx_mod); (first | assumption | omega))
    | ((with_reducible apply rx_mul); (first | assumption | exact .inl ⟨by omega, by omega⟩))
    | with_reducible refine rx_lt ?_
    | with_reducible refine rx_le ?_
    | with_reducible refine rx_gt ?_
    | with_reducible refine rx_ge ?_
    | with_reducible refine rx_isN ?_
    | with_reducible refine rx_notN ?_
    | with_reducible refine rx_eqI ?_
    | with_reducible refine rx_neI ?_
    | with_reducible refine rx_eqRule ?_
    | with_reducible refine rx_eqS ?_
    | with_reducible refine rx_neS ?_
    | ((with_reducible apply rx_ix0); exact rfl; exact rfl)
    | ((with_reducible apply rx_ix1); exact rfl; exact rfl)
    | ((with_reducible apply rx_ix2); exact rfl; exact rfl)
    | ((with_reducible apply rx_ix3); exact rfl; exact rfl)
    | ((with_reducible apply rx_ix4); exact rfl; exact rfl)
    | ((with_reducible apply rx_ix5); exact rfl; exact rfl)
    | ((with_reducible apply rx_ix6); exact rfl; exact rfl)
    | ((with_reducible apply rx_ix7); exact rfl; exact rfl)
    | ((with_reducible apply rx_ix8); exact rfl; exact rfl)
    | ((with_reducible apply rx_ixL0); exact rfl; exact rfl)
    | ((with_reducible apply rx_ixL1); exact rfl; exact rfl)
    | fail "stop")
  | (guard_target =~ BX _ _ _ _ _; first
    | with_reducible refine bx_isInt ?_
    | with_reducible refine bx_isBool ?_
    | with_reducible refine bx_isStr ?_
    | with_reducible refine bx_isTup ?_
    | with_reducible refine bx_intI ?_
    | with_reducible refine bx_intB ?_
    | with_reducible refine bx_min2 ?_
    | with_reducible refine bx_max2 ?_
    | ((with_reducible apply bx_lenT); exact rfl)
    | ((with_reducible apply bx_lenL); exact rfl)
    | ((with_reducible apply bx_lenN); exact rfl)
    | fail "stop")
  | ((with_reducible apply gx_tup); exact rfl; exact rfl)
  | (guard_target =~ GsX _ _ _ _ _ _; first | refine gsx_cons ?_ | refine gsx_nil ?_ | fail "stop")
  | with_reducible refine gx_name ?_
  | with_reducible refine ox_some ?_
  | with_reducible refine ox_none ?_
  | with_reducible refine ux_neg ?_
  | refine ⟨_, rfl, Nat.le_of_ble_eq_true rfl, rfl, ?_⟩
  | refine ⟨_, rfl, Nat.le_of_ble_eq_true rfl, ?_⟩
  | refine ⟨_, _, rfl, rfl, rfl, ?_⟩
  | refine ⟨_, _, rfl, rfl, by assumption, ?_⟩
  | refine ⟨_, _, rfl, rfl, ?_⟩
  | refine ⟨_, _, _, rfl, ?_⟩
  | refine ⟨_, _, rfl, ?_⟩
  | refine ⟨_, rfl, ?_⟩
  | refine ⟨rfl, (_, some _, some _), rfl, trivial, ?_⟩
  | refine ⟨rfl, (_, some _, none), rfl, trivial, ?_⟩
  | refine ⟨rfl, (_, _), rfl, by assumption, ?_⟩
  | refine ⟨rfl, (_, _, _), rfl, by assumption, ?_⟩
  | refine ⟨rfl, (_, _, _, _), rfl, by assumption, ?_⟩
  | ((with_reducible intro c hc); subst hc)
  | refine ⟨fun hb => Bool.noConfusion hb, fun _ => ?_⟩
  | refine ⟨fun _ => ?_, fun hb => Bool.noConfusion hb⟩
  | dsimp only
  | fail "stop"))
local macro_rules | `(tactic| fail "xc") => `(tactic| (first | (refine ⟨fun hb => ?_, fun hb => ?_⟩ <;> first | exact Bool.noConfusion hb | skip) | fail "stop"))
local macro_rules | `(tactic| fail "xs") => `(tactic| repeat fail "x1")
local macro_rules | `(tactic| fail "xx") => `(tactic| repeat' (first | fail "x1" | fail "xc" | fail "stop"))
local macro_rules | `(tactic| fail "wk") => `(tactic| (first | (refine ⟨?_, rfl⟩; repeat (first | exact Wc.nil | refine Wc.keep (by first | exact trivial | exact Nat.le_of_ble_eq_true rfl) ?_ | refine Wc.drop ?_)) | fail "stop"))
local macro_rules | `(tactic| fail "nx") => `(tactic| (refine ex_callM1 ?_; fail "xs"; refine ⟨0, _, _, _, rfl, rfl, rfl, _, rfl, ⟨⟨by omega, by omega⟩, by omega⟩, ?_⟩))

theorem ex_beg {C : Kx} {γ : List (Option Cl)} {os : List OV} {R : Cl → List OV → Prop} {t : TA} (h : AX C t γ os fun cs os1 => ∃ ns : List Int, cs = [.bl (ns.map .int)] ∧ ns.length ≤ 63 ∧ ∀ p, R (.own os1.length) (os1 ++ [.mm p 0])) : EX C (tCall (spBeg C.K) [] C8.E0 t) γ os R := fun as H σ Q r s k =>
  h as H σ _ r s fun cs os1 as1 H1 vs r1 l1 hv ⟨ns, e, hl, q⟩ => by
    subst e
    obtain ⟨x, rfl, hx⟩ := paired1 hv
    obtain ⟨a, xs, rfl, hS, hd⟩ := hx
    rw [DdAll.ints] at hd
    subst hd
    rw [List.append_nil]
    refine ⟨a, ns, rfl, r1.same.seq hS, hl, fun H' p l sm hm hn => ?_⟩
    refine k (.own os1.length) _ _ H' _ (r1.push (l := p :: l) (o := .mm p 0) hn sm ⟨⟨l, rfl⟩, hm⟩) (l1.trans (le_push sm)) ⟨p, l, ?_, rfl⟩ (q p)
    rw [← r1.len, List.getElem?_append_right (Nat.le_refl _), Nat.sub_self]
    rfl
theorem enterL {P : Program} {w : World} {K : PySem.W.Frag} {a : Addr} {ns : List Int} {H : Hp} {t : TS} {N : List Str} (hS : SqL K H a (ns.map V.int))
    (b : SX ⟨P, w, K, H⟩ t (some (.bl (ns.map .int)) :: List.replicate (N.length - 1) none) [] { nx := fun _ _ => False, rt := fun c _ => c = .dat (.bool true) }) : t { nx := fun _ H' => (fun v (_ : Hp) => v = V.bl true) .non H', rt := fun v _ => v = .bl true } (L2.start N [.ref a]) H := by
  have r : Rl ⟨P, w, K, H⟩ [] [] H := ⟨fun _ _ e => e, rfl, fun k l o h => by simp at h, fun i j l m _ h => by simp at h⟩
  have st := sl_start (C := ⟨P, w, K, H⟩) (as := []) (H := H) (N := N) (cs := [.bl (ns.map .int)]) (vs := [.ref a]) (.cons ⟨a, _, rfl, hS, DdAll.ints.mpr rfl⟩ .nil)
  exact b [] H _ _ r st (fun _ _ _ _ _ _ _ _ h => h.elim) (fun c os' as' H' v r' x' hc e => by subst e; exact cv_blE hc) (fun _ _ _ _ _ _ _ _ h => h.elim) fun _ _ _ _ _ _ _ _ h => h.elim
theorem first_ok {w : Well} {t : Bool} {l : Int} (hw : w.Ok) (hl : 0 ≤ l ∧ l ≤ w.top) : (firstC w l).Ok w t := by
  have h1 := hw.lag
  have h2 := hw.rest
  have h3 := hw.run
  refine ⟨hl, ?_, fun x hx => ?_, ⟨(by show 1 ≤ 2; decide), (by show 2 ≤ 6; decide)⟩, fun x hx => ?_, ?_⟩
  · show ((List.replicate w.lag.toNat l).length : Int) = w.lag
    rw [List.length_replicate]
    omega
  · rw [(List.mem_replicate.mp hx).2]
    exact hl
  · have : x = 0 - w.rest := by
      have hx : x ∈ [0 - w.rest, 0 - w.rest] := hx
      simpa using hx
    omega
  · refine ⟨(by show (0 : Int) ≤ 0; decide), ?_⟩
    cases t
    · show (0 : Int) ≤ 0; decide
    · show (0 : Int) ≤ 2 - 1; decide
theorem sheet_told {w : Well} {t : Bool} {d : PyData} (h : Told w t d) : SheetP d := by
  cases h with
  | lead m row hs hm hr hh ho => exact sheet4 (log_small (by omega)) (fun r q => by cases q; rw [List.length_map]; omega) fun r q => by cases q; rw [List.length_map]; omega
  | endless r1 r2 h1 h2 => exact sheet3
theorem sheet_few {ds : List PyData} (h : ds.length ≤ 2) : SheetP (.tuple ds) := ⟨fun _ _ _ _ e => (by cases e; simp at h), fun _ _ _ _ _ e => (by cases e; simp at h), fun _ _ _ _ _ e => (by cases e; simp at h), fun es e => (by cases e; omega)⟩
theorem sheet_none : SheetP .none := ⟨fun _ _ _ _ e => (by cases e), fun _ _ _ _ _ e => (by cases e), fun _ _ _ _ _ e => (by cases e), fun es e => (by cases e)⟩
theorem sheet_list {ds : List PyData} : SheetP (.list ds) := ⟨fun _ _ _ _ e => (by cases e), fun _ _ _ _ _ e => (by cases e), fun _ _ _ _ _ e => (by cases e), fun es e => (by cases e)⟩
theorem told_tup {w : Well} {t : Bool} {d : PyData} (h : Told w t d) : ∃ es, d = .tuple es := by
  cases h with
  | lead m row hs hm hr hh ho => exact ⟨_, rfl⟩
  | endless r1 r2 h1 h2 => exact ⟨_, rfl⟩
theorem told_cases {w : Well} {t : Bool} {es : List PyData} (h : Told w t (.tuple es)) : (∃ (m : Int) (row : List Int) (hs : List (Crew × Int)), es = [.str "lead", .int m, .tuple (row.map .int), .tuple (hs.map heightD)] ∧ m.natAbs ≤ 2000000 ∧ row.length ≤ 100000 ∧ hs.length ≤ 60) ∨ ∃ r1 r2 : List Int, es = [.str "endless", .tuple (r1.map .int), .tuple (r2.map .int)] := by
  generalize hd : PyData.tuple es = d at h
  cases h with
  | lead m row hs hm hr hh ho => cases hd; exact .inl ⟨m, row, hs, rfl, hm, hr, hh⟩
  | endless r1 r2 h1 h2 => cases hd; exact .inr ⟨r1, r2, rfl⟩
def bump : PyData → PyData
  | .tuple [c, .int n] => .tuple [c, .int (n + 1)]
  | d => d
theorem rule_at {r : Nat} (h : r < 2) : ∃ t : Bool, [PyData.str "first", .str "turns"][r]? = some (ruleD t) := by
  match r, h with
  | 0, _ => exact ⟨false, rfl⟩
  | 1, _ => exact ⟨true, rfl⟩
section
variable {P : Program} {w : World} {K : PySem.W.Frag} {mg : Str → Option Value} {base : Heap}
theorem law_ok {f a : Addr} {fd : FuncData} {ns : List Int} {outer : List Env} {s : Shared} {H : Hp} {args : Args} {us : List Value} (T : Tp mg) (F : Def K mg "law" s_law f fd) (c__law_begun : Cal P w K mg base 1 "_law_begun" (spBeg K) [])
    (c__law_well : Cal P w K mg base 2 "_law_well" (spM P w K sp__law_well) [])
    (c__law_next : Cal P w K mg base 1 "_law_next" (spM P w K sp__law_next) [])
    (c__law_first : Cal P w K mg base 1 "_law_first" (spX P w K sp__law_first) [])
    (c__law_graph : Cal P w K mg base 3 "_law_graph" (spX P w K sp__law_graph) [])
    (c_lead_paper : Cal P w K mg base 8 "lead_paper" (spX P w K sp_lead_paper) [])
    (c__law_bent : Cal P w K mg base 2 "_law_bent" (spM P w K sp__law_bent) [])
    (c__law_due : Cal P w K mg base 7 "_law_due" (spX P w K sp__law_due) [])
    (c__law_outcome : Cal P w K mg base 9 "_law_outcome" (spX P w K sp__law_outcome) [])
    (hr : Room 10 callerA) (e0 : Env0 P w K mg base callerA outer s H) (hb : BindsTo s fd args ((["_law_script"] : List Str).zip us)) (hv : Vals [.ref a] us) (hS : SqL K H a (ns.map V.int)) (hl : ns.length ≤ 63) :
    codeAny (model P w) callerA (.call (.ref f) args) (fun r s' => ∃ u, r = .ok (.ret u) ∧ CE outer P w H s (fun v _ => v = .bl true) u s') s := by
  refine run_here (E := fun _ _ _ => False) F sc_law hr e0 hb hv rfl fun cdv => ?_
  have hr := hr.deeper (envOfC "law" (fnScope s_law) s.heap.objs.size f cdv)
  have hgd : (callerA.deeper (envOfC "law" (fnScope s_law) s.heap.objs.size f cdv)).guards = some [] := rfl
  refine ⟨_, (pss_cons (ps_set (i := 1) sc_law.nd rfl (Or.inr rfl) (pe_c c__law_begun hr (by decide) (by rfl) (pa_cons (pv 0) pa_nil))) (pss_cons (ps_for PassesOwn.never rfl (pi_range1 (by rfl) T.b_range (pa_cons (pe_op op_add pe_int (pe_callB (call_min2 rfl) (by rfl) T.b_min bo_min (pa_cons (pe_callB (r := rLenU K P w) call_lenU (by rfl) T.b_len bo_len (pa_cons (pv 0) pa_nil)) (pa_cons pe_int pa_nil)))) pa_nil)) (pg_name (i := 2) sc_law.nd rfl (Or.inl rfl)) (pss_cons (ps_par3 (i := 3) (j := 4) (l := 5) (by rfl) sc_law.nd rfl rfl rfl (by decide) (by decide) (by decide) rfl rfl rfl (pa_cons (pe_c c__law_well hr (by decide) (by rfl) (pa_cons (pv 1) (pa_cons pe_int pa_nil))) (pa_cons (pe_ix (r := rIxU K P w) (ix_u (hu16 hr)) (pe_frz (pe_lst (pa_cons pe_str (pa_cons pe_str pa_nil)))) (pe_c c__law_next hr (by decide) (by rfl) (pa_cons (pv 1) (pa_cons pe_int pa_nil))) (fun _ _ => rfl)) (pa_cons (pe_c c__law_next hr (by decide) (by rfl) (pa_cons (pv 1) (pa_cons pe_int pa_nil))) pa_nil))) (by rfl)) (pss_cons (ps_par (i := 6) (j := 7) (by rfl) sc_law.nd rfl rfl (by decide) rfl rfl (pa_cons (pe_c c__law_first hr (by decide) (by rfl) (pa_cons (pv 3) (pa_cons pe_int (pa_cons (pe_c c__law_next hr (by decide) (by rfl) (pa_cons (pv 1) (pa_cons (pe_op op_add (pe_ix (r := rIxU K P w) (ix_u (hu16 hr)) (pv 3) pe_int (fun _ _ => rfl)) pe_int) pa_nil))) pa_nil)))) (pa_cons (pe_op op_add (pv 5) (pe_c c__law_next hr (by decide) (by rfl) (pa_cons (pv 1) (pa_cons pe_int pa_nil)))) pa_nil)) (by rfl)) (pss_one (ps_if (pt_cmpR op_notN (pe_c c__law_graph hr (by decide) (by rfl) (pa_cons (pv 3) (pa_cons (pv 4) (pa_cons (pv 6) (pa_cons (pv 5) (pa_cons (pv 7) (pa_cons pe_int pa_nil))))))) pe_non (nomark _)) (pss_cons (ps_set (i := 8) sc_law.nd rfl (Or.inr rfl) (pe_c c_lead_paper hr (by decide) (by rfl) (pa_cons (pv 3) (pa_cons (pv 4) (pa_cons (pv 6) (pa_cons (pv 5) (pa_cons (pv 7) (pa_cons pe_int (pa_cons pe_int pa_nil))))))))) (pss_cons (ps_set (i := 9) sc_law.nd rfl (Or.inl rfl) (pe_lst (pa_cons (pv 8) (pa_cons (pe_tupP (pa_cons pe_str (pa_cons (pe_tupP pa_nil) (pa_cons (pe_tupP pa_nil) pa_nil)))) (pa_cons (pe_tupP (pa_cons pe_str (pa_cons pe_int (pa_cons (pe_tupP pa_nil) (pa_cons (pe_tupP pa_nil) pa_nil))))) (pa_cons pe_non (pa_cons (pe_tupP (pa_cons pe_str (pa_cons pe_int (pa_cons (pe_tupP pa_nil) pa_nil)))) (pa_cons (pe_frz (pe_callTy call_list_of (by rfl) T.b_list bo_list (pa_cons (pv 8) pa_nil))) (pa_cons (pe_slice (r := rSlP K) sl_tupP (pv 8) po_none (po_some pe_int)) pa_nil))))))))) (pss_cons (ps_if (pt_cmpR (r := rEqU K) (op_eqU (hu64 hr)) (pe_ix (r := rIxU K P w) (ix_u (hu16 hr)) (pv 8) pe_int (fun _ _ => rfl)) pe_str (nomark _)) (pss_one (ps_expr (pe_bm PySem.F.plainAttrs_list PySem.F.slot_list_append PySem.F.type_list_append mt_append (pv 9) (pa_cons (pe_op (r := rCatP K) op_catP (pe_slice (r := rSlP K) sl_tupP (pv 8) po_none (po_some pe_int)) (pe_tupP (pa_cons (pe_callTy (r := rTupOf K) call_tupOf (by rfl) T.b_tuple bo_tuple (pa_cons (pe_frz (pe_lc (own := [("_law_one", 10), ("_law_height", 11)]) (g := (gTup K 2 (gCons (gName 10) (gCons (gName 11) gNil)))) rfl sc_law.nd (pi_tup (pe_ix (r := rIxU K P w) (ix_u (hu16 hr)) (pv 8) pe_int (fun _ _ => rfl))) (blkOk_by (N := N_law) (sc := fnScope s_law) (by decide +kernel)) (fun _ _ _ _ _ => (pg_tup rfl (pgs_cons (pg_name (i := 10) sc_law.nd rfl (Or.inl rfl)) (pgs_cons (pg_name (i := 11) sc_law.nd rfl (Or.inl rfl)) pgs_nil)))) (fun _ _ _ _ _ => pts_nil) (fun _ _ _ _ _ => (pe_tupP (pa_cons (pv 10) (pa_cons (pe_op op_add (pv 11) pe_int) pa_nil)))))) pa_nil)) pa_nil))) pa_nil)))) pss_nil) (pss_one (ps_for PassesOwn.never rfl (pi_list (pe_frz (pe_op op_cat (pv 9) (pe_lc (own := [("_law_k", 12)]) (g := (gName 12)) rfl sc_law.nd (pi_range1 (by rfl) T.b_range (pa_cons pe_int pa_nil)) (blkOk_by (N := N_law) (sc := fnScope s_law) (by decide +kernel)) (fun _ _ _ _ _ => (pg_name (i := 12) sc_law.nd rfl (Or.inl rfl))) (fun _ _ _ _ _ => pts_nil) (fun _ _ _ _ _ => (pe_c c__law_bent hr (by decide) (by rfl) (pa_cons (pv 1) (pa_cons (pv 8) pa_nil)))))))) (pg_name (i := 13) sc_law.nd rfl (Or.inl rfl)) (pss_cons (ps_set (i := 14) sc_law.nd rfl (Or.inl rfl) (pe_c c__law_due hr (by decide) (by rfl) (pa_cons (pv 3) (pa_cons (pv 4) (pa_cons (pv 6) (pa_cons (pv 5) (pa_cons (pv 7) (pa_cons (pv 13) pa_nil)))))))) (pss_one (ps_if (pt_cmpR (r := rNeU K) (op_neU (hu64 hr)) (pe_callB (r := rRepV K) (call_repV (hu1 hr) hgd) (by rfl) T.b_repr bo_repr (pa_cons (pe_c c__law_outcome hr (by decide) (by rfl) (pa_cons (pv 3) (pa_cons (pv 4) (pa_cons (pv 6) (pa_cons (pv 5) (pa_cons (pv 7) (pa_cons (pv 13) pa_nil))))))) pa_nil)) (pe_callB (r := rRepV K) (call_repV (hu1 hr) hgd) (by rfl) T.b_repr bo_repr (pa_cons (pv 14) pa_nil)) (nomark _)) (pss_one (ps_ret pe_bl)) pss_nil)))))))) pss_nil))))) (pss_one (ps_ret pe_bl)))), ?_⟩
  try dsimp only [cxOf, L2.Cx.nox, L2.Cx.wish, L2.Cx.blk]
  refine enterL (P := P) (w := w) hS ?_
  change SX _ _ [_, none, none, none, none, none, none, none, none, none, none, none, none, none, none] [] _
  change SX _ _ [some (.bl (ns.map .int)), none, none, none, none, none, none, none, none, none, none, none, none, none, none] [] _
  fail "xs"
  refine ex_beg ?_
  fail "xs"
  refine ⟨hl, fun p => ?_⟩
  fail "xs"
  refine sx_for (ix_rng1 ?_)
  fail "xs"
  have hj : ∃ m : Nat, m ≤ 5 ∧ (2 + if (3 : Int) < ((ns.map PyData.int).length : Int) then 3 else ((ns.map PyData.int).length : Int)) = (m : Int) := by
    split
    · exact ⟨5, Nat.le_refl _, rfl⟩
    · exact ⟨2 + (ns.map PyData.int).length, by omega, by omega⟩
  obtain ⟨m, hm, em⟩ := hj
  rw [em]
  refine ⟨by omega, by omega, ?_⟩
  rw [Int.toNat_natCast]
  refine ⟨fun i γ os => ∃ n, n ≤ 100 * i ∧ γ = [some (.bl (ns.map .int)), some (.own 0), none, none, none, none, none, none, none, none, none, none, none, none, none] ∧ os = [.mm p n], ⟨0, Nat.zero_le _, rfl, rfl⟩, ?_⟩
  rintro i γ1 os2 hi ⟨n, hn, rfl, rfl⟩
  refine ⟨fun _ => ?_, fun c hc => ?_⟩
  · fail "xs"
  obtain ⟨hi5, rfl⟩ := rng_at hc
  refine gx_name ?_
  fail "xs"
  refine ex_callM1 ?_
  fail "xs"
  refine ⟨0, _, _, _, rfl, rfl, rfl, (), rfl, by omega, ?_⟩
  rintro _ _ ⟨rfl, w0, ⟨ok, hlag⟩, rfl⟩
  fail "xs"
  fail "nx"
  rintro _ _ ⟨rfl, r, hr2, rfl⟩
  obtain ⟨r, rfl⟩ := Int.eq_ofNat_of_zero_le hr2.1
  obtain ⟨t, ht⟩ := rule_at (r := r) (by omega)
  refine rx_ixLk r rfl rfl ht ?_
  fail "xs"
  fail "nx"
  rintro _ _ ⟨rfl, lo, hlo, rfl⟩
  have htop := ok.top
  fail "xs"
  fail "nx"
  rintro _ _ ⟨rfl, l0, hl0, rfl⟩
  fail "xs"
  fail "nx"
  rintro _ _ ⟨rfl, h1, hh1, rfl⟩
  have hcr := first_ok (t := t) (l := l0) ok ⟨hl0.1, by omega⟩
  have hj : JudP w0 t (firstC w0 l0) lo (lo + h1) := ⟨ok, hcr, ⟨by omega, by omega, by omega⟩⟩
  have hsp : StepP w0 t (firstC w0 l0) lo (lo + h1) := ⟨ok, hcr, hj.sp⟩
  have hpr : StepP w0 t (firstC w0 l0) lo (lo + h1) ∧ lo + h1 ≤ lo + 1 := ⟨hsp, by omega⟩
  fail "xs"
  refine ⟨rfl, (w0, t, firstC w0 l0, lo, lo + h1), rfl, hpr, ?_⟩
  rintro c (rfl | ⟨⟨mm, rfl⟩, S, hmem, hB⟩)
  · fail "xs"
    refine ⟨_, _, ⟨n + 9 + 1 + 1 + 1 + 1, by omega, rfl, rfl⟩, ?_⟩
    fail "wk"
  have hsr : SearchP w0 t (firstC w0 l0) lo (lo + h1) 0 1 S := ⟨⟨ok, hcr, hj.sp, ⟨by decide, (by show (0 : Int) ≤ 2 - 1; decide)⟩, ⟨by decide, (by show (1 : Int) ≤ 2 - 1; decide)⟩, by decide⟩, hmem, hB⟩
  fail "xs"
  refine ⟨rfl, ((w0, t, firstC w0 l0, lo, lo + h1, 0, 1), S), rfl, hsr, ?_⟩
  rintro _ ⟨d, htold, rfl⟩
  obtain ⟨es, rfl⟩ := told_tup htold
  dsimp only at htold
  have hN : ∃ N, N = n + 9 + 1 + 1 + 1 + 1 := ⟨_, rfl⟩
  obtain ⟨N, hN⟩ := hN
  refine sx_mid (fun γ1 os1 => γ1 = [some (.bl (ns.map .int)), some (.own 0), some (.dat (.int (0 + (i : Int)))), some (.dat w0.d), some (.dat (ruleD t)), some (.dat (.int lo)), some (.dat (firstC w0 l0).d), some (.dat (.int (lo + h1))), some (.dat (.tuple es)), some (.own 1), none, none, none, none, none] ∧ os1 = [.mm p N, .lst [.tuple es, .tuple [.str "endless", .tuple [], .tuple []], .tuple [.str "lead", .int 0, .tuple [], .tuple []], .none, .tuple [.str "lead", .int 0, .tuple []], .list es, .tuple (cutD es none (some 2))]]) ?_ ?_
  · subst hN
    fail "xs"
    refine ex_frzB ?_
    fail "xs"
    refine ⟨rfl, fun ds => ds = es, bx_listT rfl ⟨es, rfl, rfl, rfl⟩, ?_⟩
    rintro ds hds
    have hds : es = ds := hds.symm
    subst hds
    fail "xs"
    exact rfl
  rintro _ _ ⟨rfl, rfl⟩
  refine sx_mid (fun γ1 os1 => γ1 = [some (.bl (ns.map .int)), some (.own 0), some (.dat (.int (0 + (i : Int)))), some (.dat w0.d), some (.dat (ruleD t)), some (.dat (.int lo)), some (.dat (firstC w0 l0).d), some (.dat (.int (lo + h1))), some (.dat (.tuple es)), some (.own 1), none, none, none, none, none] ∧ ∃ L : List PyData, os1 = [.mm p N, .lst L] ∧ L.length ≤ 8 ∧ ∀ d ∈ L, SheetP d) ?_ ?_
  · have c2 : (cutD es none (some 2)).length ≤ 2 := by
      rw [cut_to (by decide), List.length_take]
      exact Nat.min_le_left _ _
    have seven : ∀ d ∈ [PyData.tuple es, .tuple [.str "endless", .tuple [], .tuple []], .tuple [.str "lead", .int 0, .tuple [], .tuple []], .none, .tuple [.str "lead", .int 0, .tuple []], .list es, .tuple (cutD es none (some 2))], SheetP d := by
      intro d hd
      simp only [List.mem_cons, List.not_mem_nil, or_false] at hd
      rcases hd with rfl | rfl | rfl | rfl | rfl | rfl | rfl
      · exact sheet_told htold
      · exact sheet3
      · exact sheet4 (log_small (by decide)) (fun r q => by cases q; exact Nat.zero_le _) fun r q => by cases q; exact Nat.zero_le _
      · exact sheet_none
      · exact sheet3
      · exact sheet_list
      · exact sheet_few c2
    rcases told_cases htold with ⟨m, row, hs, rfl, hm, hrow, hhs⟩ | ⟨r1, r2, rfl⟩
    · fail "xs"
      refine ex_lcM (tg_tup (tgs_cons tm_name (tg_name (by decide)) (tgs_cons tm_name (tg_name (by decide)) tgs_nil))) (ix_tup ?_)
      fail "xs"
      refine ⟨rfl, onD bump, ?_, ?_, ?_⟩
      · rw [List.length_map, List.length_map]
        exact small (k := 60) hhs rfl
      · refine each_dat fun i d acc e => ?_
        obtain ⟨q, hq, rfl⟩ := map_at e
        refine gx_tup rfl rfl ?_
        unfold heightD
        fail "xs"
        exact rfl
      rw [map_onD]
      fail "xs"
      refine bx_tupL rfl ?_
      fail "xs"
      refine rx_cat rfl rfl rfl rfl (szLe (k := 5) (by rw [cut_to (by decide), List.length_take]; show _ + 1 ≤ 5; omega) rfl) ?_
      fail "xs"
      refine ⟨Nat.le_of_ble_eq_true rfl, rfl, _, rfl, Nat.le_of_ble_eq_true rfl, fun d hd => ?_⟩
      rcases List.mem_append.mp hd with hd | hd
      · exact seven d hd
      · rw [List.mem_singleton.mp hd, cut_to (by decide)]
        exact sheet4 (log_small (by omega)) (fun r q => by cases q; rw [List.length_map]; omega) fun r q => by cases q; rw [List.length_map, List.length_map]; omega
    · fail "xs"
      exact ⟨rfl, _, rfl, Nat.le_of_ble_eq_true rfl, seven⟩
  rintro _ _ ⟨rfl, L, rfl, hL, hsh⟩
  refine sx_for (ix_list ?_)
  refine ex_frz ?_
  fail "xs"
  refine ex_lcG (tg_name (by decide)) (ix_rng1 ?_)
  fail "xs"
  refine ⟨by decide, by decide, ?_⟩
  refine ⟨fun j acc o => ∃ n', n' ≤ N + 4 * j ∧ o = [.mm p n', .lst L] ∧ acc.length = j ∧ ∀ d ∈ acc, SheetP d, ⟨N, Nat.le_refl _, rfl, rfl, (by intro d h; cases h)⟩, ?_, ?_⟩
  · rintro j c acc o hc ⟨n', hn', rfl, hacc, hall⟩
    obtain ⟨hj7, rfl⟩ := rng_at hc
    have hj7 : j < 7 := hj7
    refine gx_name ?_
    fail "xs"
    refine ex_callM1 ?_
    fail "xs"
    refine ⟨0, _, _, _, rfl, rfl, rfl, (w0, t, es), rfl, ⟨by omega, htold⟩, ?_⟩
    rintro _ n2 ⟨hn2, d, hd, rfl⟩
    refine ⟨d, [.mm p n2, .lst L], rfl, rfl, rfl, small (k := 7) (by omega) rfl, n2, by omega, rfl, by rw [List.length_append, hacc]; rfl, fun x hx => ?_⟩
    rcases List.mem_append.mp hx with hx | hx
    · exact hall x hx
    · rw [List.mem_singleton.mp hx]; exact hd
  rintro acc o ⟨n', hn', rfl, hacc, hall⟩
  have hacc : acc.length = 7 := hacc
  fail "xs"
  refine rx_catL (k1 := 1) (k2 := 2) rfl rfl (szLe (k := 15) (by omega) rfl) ?_
  refine ⟨_, _, rfl, rfl, ?_⟩
  refine ⟨L ++ acc, rfl, ?_⟩
  refine ⟨fun _ γ os => γ = [some (.bl (ns.map .int)), some (.own 0), some (.dat (.int (0 + (i : Int)))), some (.dat w0.d), some (.dat (ruleD t)), some (.dat (.int lo)), some (.dat (firstC w0 l0).d), some (.dat (.int (lo + h1))), some (.dat (.tuple es)), some (.own 1), none, none, none, none, none] ∧ os = [.mm p n', .lst L, .lst acc, .fl (L ++ acc)], ⟨rfl, rfl⟩, ?_⟩
  rintro j γ1 os2 hj2 ⟨rfl, rfl⟩
  refine ⟨fun _ => ⟨_, _, ⟨n', by omega, rfl, rfl⟩, by fail "wk"⟩, fun c hc => ?_⟩
  obtain ⟨d, hd, rfl⟩ := dat_at hc
  have hd := List.mem_of_getElem? hd
  have hsd : SheetP d := (List.mem_append.mp hd).elim (hsh d) (hall d)
  refine gx_name ?_
  fail "xs"
  refine ⟨rfl, (w0, t, firstC w0 l0, lo, lo + h1, d), rfl, ⟨hj, hsd⟩, ?_⟩
  rintro _ rfl
  fail "xs"
  refine ⟨rfl, (w0, t, firstC w0 l0, lo, lo + h1, d), rfl, ⟨⟨hj, (by show 2 ≤ 2; decide)⟩, hsd⟩, ?_⟩
  rintro _ rfl
  fail "xs"
  refine bx_repV judge_ok ?_
  fail "xs"
  refine bx_repV judge_ok ?_
  fail "xs"
  rw [beq_self_eq_true]
  fail "xs"
  exact ⟨_, _, ⟨rfl, rfl⟩, by fail "wk"⟩

end
end Pk
/-! E9 (printed by gen/e9.py): the end -/
namespace Pk
open PySem PySem.Spec PyProof.Rows L2 C8

/-- the written part holds the def st at f -/
inductive IsFn (K : PySem.W.Frag) (x : Str) (st : Stmt) (f : Addr) : Prop where
  | mk' {oc : Value} {od : Option Addr} {kV doc pm : Value} {an : Option Addr} {cdv ct : Value} {osl : Array (Option Value)}
    (l : K.lookup f = some ⟨oc, od, .func (PySem.W.fnOf x x (fnArgs st) (fnBody st) (fnScope st) .none kV doc pm an cdv ct), osl⟩) (c : PySem.W.codeIn K cdv x = true) (k : PySem.W.keepIn K (.ref f) = true) : IsFn K x st f
/-- binding, from the text -/
structure BindBy (K : PySem.W.Frag) (x : Str) (st : Stmt) (fd : FuncData) : Prop where
  all : ∀ ps : List Str, (∀ (kV doc pm : Value) (an : Option Addr) (cdv ct : Value) (us : List Value), us.length = ps.length → bindArgs (PySem.W.fnOf x x (fnArgs st) (fnBody st) (fnScope st) .none kV doc pm an cdv ct) ⟨us, []⟩ = pure (ps.zip us)) → Binds K fd ps []
  one : ∀ {y : Str} {s : Shared} {u : Value}, (∀ (kV doc pm : Value) (an : Option Addr) (cdv ct : Value), bindArgs (PySem.W.fnOf x x (fnArgs st) (fnBody st) (fnScope st) .none kV doc pm an cdv ct) ⟨[u], []⟩ = pure [(y, u)]) → BindsTo s fd ⟨[u], []⟩ [(y, u)]
theorem def_mk {K : PySem.W.Frag} {h : Heap} {mg : Str → Option Value} {x : Str} {st : Stmt} {f : Addr} (X : K.In h) (G : h.Ns mainGlobals mg) (a : PySem.W.nsIn K mainGlobals x = some (some (.ref f))) (l : IsFn K x st f) :
    ∃ fd : FuncData, Def K mg x st f fd ∧ True ∧ BindBy K x st fd := by
  obtain ⟨l, c, k⟩ := l
  have F : C8.Fun K x x st f _ := ⟨_, _, _, _, _, _, _, _, _, _, rfl, l, c⟩
  exact ⟨_, ⟨F, PySem.W.mg_of X G a, k⟩, trivial, ⟨fun ps hb => F.binds rfl hb, fun hb => .of_eq (hb _ _ _ _ _ _)⟩⟩
/-- the written part's words on BadPaper -/
inductive PartAt (P : Program) (K : PySem.W.Frag) (C fI : Addr) : Prop where
  | mk' {nm q : Str} {N : Addr} {bs : List Value} {sn : List Str} {sub : List Value} {ab : Bool} {col : Option Bool} {dd : Option Addr} {k0 k1 k2 k3 k5 : Option Value} {oc : Value} {od : Option Addr} {doc pm : Value} {an : Option Addr} {cda cc : Addr} {ct : Value} {osl : Array (Option Value)} {ccl : Value} {cdd : Option Addr} {vs : Array Value} {ccs : Array (Option Value)} {file : Str} {tf : Tok} {cl : Value} {cld : Option Addr} {csl : Array (Option Value)}
    (top : (P.main.scope.names.lookup ("super" : Str)).isSome = false)
    (cls : K.lookup C = some (excClassObj nm q C N bs [.type "ValueError", .type "Exception", .type "BaseException", .type "object"] true sn sub ab col dd k0 k1 k2 k3 k5 "ValueError.__new__"))
    (sa : PySem.W.findIn K (.ref C) "__setattr__" = some (some (.builtin "object.__setattr__")))
    (ga : PySem.W.findIn K (.ref C) "__getattribute__" = some (some (.builtin "BaseException.__getattribute__")))
    (gg : PySem.W.findIn K (.ref C) "__getattr__" = some none)
    (noN : PySem.W.findIn K (.ref C) "part" = some none)
    (iC : PySem.W.findIn K (.ref C) "__init__" = some (some (.ref fI)))
    (tC : PySem.W.typeIn K (.ref fI) = some (.type "function"))
    (kC : PySem.W.keepIn K (.ref C) = true)
    (exC : PySem.W.subIn K (.ref C) (.type "BaseException") = some true)
    (vS : PySem.W.subIn K (.ref C) (.type "ValueError") = some true)
    (tyC : PySem.W.typeIn K (.ref C) = some (.type "type"))
    (hdC : PySem.W.hasDictIn K C = true)
    (isC : PySem.W.isClsIn K C = true)
    (sS : PySem.W.subIn K (.ref C) (.ref C) = some true)
    (so : PySem.W.nsIn K cStatics "thirdparty.any" = some none)
    (sI : PySem.W.ks_superIn K C C "__init__" = some (some (.builtin "ValueError.__init__")))
    (sC : PySem.W.mroIn K C (.ref C) = some true)
    (lf : K.lookup fI = some ⟨oc, od, .func (PySem.W.ksFn "__init__" "BadPaper.__init__" PySem.PartX.pA PySem.PartX.pB PySem.PartX.pS .none .none doc pm an (.ref cda) ct cc), osl⟩)
    (cf : PySem.W.codeIn K (.ref cda) "BadPaper.__init__" = true)
    (lc : K.lookup cda = some ⟨ccl, cdd, .fields vs, ccs⟩)
    (ll : K.lookup cc = some ⟨cl, cld, .cell (some (.ref C)), csl⟩)
    (vs2 : vs[2]? = some (.str file tf)) (fl : ((P.main.file : Str) == file) = true) : PartAt P K C fI
/-- an error of the class at S is what its own name names -/
theorem exm_own {K : PySem.W.Frag} {S : Addr} (h1 : PySem.W.subIn K (.ref S) (.type "BaseException") = some true) (h2 : PySem.W.isClsIn K S = true) (h3 : PySem.W.typeIn K (.ref S) = some (.type "type")) (h4 : PySem.W.subIn K (.ref S) (.ref S) = some true) :
    PySem.W.exmOne K (.ref S) (.ref S) = some true := by
  have e1 : (PySem.W.subIn K (.ref S) (.type "BaseException") == some true) = true := by rw [h1] <;> rfl
  have e2 : ((PySem.W.clsIn K S).isSome && PySem.W.typeIn K (.ref S) == some (.type "type")) = true := by
    have h2' : (PySem.W.clsIn K S).isSome = true := h2
    rw [h2', h3] <;> rfl
  show (if (PySem.W.subIn K (.ref S) (.type "BaseException") == some true) = true then (if ((PySem.W.clsIn K S).isSome && PySem.W.typeIn K (.ref S) == some (.type "type")) = true then PySem.W.subIn K (.ref S) (.ref S) else none) else none) = some true
  rw [if_pos e1, if_pos e2]
  exact h4
theorem PartAt.txt {P : Program} {K : PySem.W.Frag} {mg : Str → Option Value} {C fI : Addr} (t : PartAt P K C fI) (gC : mg "BadPaper" = some (.ref C)) (gS : mg "super" = none) : PySem.PartX.PartTxt P K mg C fI := by
  obtain ⟨top, cls, sa, ga, gg, noN, iC, tC, kC, exC, vS, tyC, hdC, isC, sS, so, sI, sC, lf, cf, lc, ll, vs2, fl⟩ := t
  exact { gC := gC, gS := gS, top := top, cls := ⟨_, _, _, _, _, _, _, _, _, _, _, _, _, _, cls⟩, sa := sa, ga := ga, gg := gg, noN := noN, iC := iC, tC := tC, kC := kC, exC := exC, vS := vS, tyC := tyC, hdC := hdC, te := exm_own exC isC tyC sS, so := so, sI := sI, sC := sC, fn := ⟨_, _, _, _, _, _, _, _, _, _, _, _, _, _, _, _, _, _, lf, cf, lc, vs2, fl, ll⟩ }
/-! ### the top's call of the law, over a heap in which the script alone is tracked -/
theorem top_call {P : Program} {w : World} {K : PySem.W.Frag} {mg mb : Str → Option Value} {fa a : Addr} {s : Shared} {vs : List Value} {ns : List Int}
    (KX : K.In s.heap) (hns : s.heap.Ns mainGlobals mg) (hbl : s.heap.Ns builtinsNs mb) (hbb : ∀ x : Str, x ≠ "__name__" → mb x = bootBuiltins x) (hlim : s.heap.NoLimit) (hg : s.gens = #[])
    (ha : s.heap.get? a = some { cls := .type "list", data := .seq vs.toArray }) (hi : IntsAre vs ns) (hl : ns.length ≤ 63)
    (F : ∀ (base : Heap) (H : Hp), Env0 P w K mg base callerA [] s H → SqL K H a (ns.map V.int) →
      codeAny (model P w) callerA (.call (.ref fa) ⟨[.ref a], []⟩) (fun r s' => ∃ u, r = .ok (.ret u) ∧ CE [] P w H s (fun v _ => v = .bl true) u s') s) :
    codeAny (model P w) callerA (.call (.ref fa) ⟨[.ref a], []⟩) (fun r s' => r = .ok (.ret (.bool true)) ∧ OldK s.heap s'.heap ∧ s'.os = s.os ∧ AllBare s'.gens) s := by
  have rv : Vals (ns.map V.int) vs := vals_ints hi
  have hlen : vs.length = ns.length := hi.length
  have hsz : ns.length ≤ sizeLine := Nat.le_trans hl (Nat.le_of_ble_eq_true rfl)
  -- whatever is tracked is the script, by its own object
  have go : ∀ H : Hp, (∀ b u, H b = some u → b = a ∧ u = .frz { cls := .type "list", data := .seq vs.toArray } (.lst (ns.map V.int))) → (H a = none ∨ K.lookup a = none) → SqL K H a (ns.map V.int) →
      codeAny (model P w) callerA (.call (.ref fa) ⟨[.ref a], []⟩) (fun r s' => r = .ok (.ret (.bool true)) ∧ OldK s.heap s'.heap ∧ s'.os = s.os ∧ AllBare s'.gens) s := by
    intro H hH hk hS
    have free : ∀ {b : Addr} {o : Obj}, s.heap.get? b = some o → o ≠ { cls := .type "list", data := .seq vs.toArray } → H b = none := by
      intro b o e d
      cases z : H b with
      | none => rfl
      | some u =>
        obtain ⟨rfl, _⟩ := hH b u z
        rw [ha] at e
        exact absurd (Option.some.inj e).symm d
    have nsOk : ∀ {b : Addr} {m : Str → Option Value}, s.heap.Ns b m → (hidT s.heap H).Ns b m := by
      rintro b m ⟨o, es, ep, e, d, r⟩
      exact ⟨o, es, ep, hidT_get e (free e fun z => by rw [z] at d; cases d), d, r⟩
    have kOk : K.In (hidT s.heap H) := fun b o e => hidT_get (KX b o e) (by
      cases z : H b with
      | none => rfl
      | some u =>
        obtain ⟨rfl, _⟩ := hH b u z
        rcases hk with h | h
        · rw [h] at z; cases z
        · rw [h] at e; cases e)
    have hok : HOk P w H s.heap := by
      intro b u z
      obtain ⟨rfl, rfl⟩ := hH b u z
      exact ⟨ha, by rw [List.length_map]; exact hsz, vs, _, rv, ha⟩
    obtain ⟨mc, q1, q2⟩ := hlim
    have e0 : Env0 P w K mg (hidT s.heap H) callerA [] s H :=
      ⟨rfl, ⟨kOk, nsOk hns, ⟨mb, nsOk hbl, hbb⟩, ⟨mc, nsOk q1, q2⟩⟩, fun b o e => of_hidT e, Nat.le_of_eq (hidT_size _ _), trivial, fun b hb => absurd (show b ∈ ([] : List Addr) from hb) (by simp), hok, .of_eq hg⟩
    refine codeAny_mono (F _ H e0 hS) fun r s' ⟨u, er, v, H', os, bare, un, hok', rr, q⟩ => ?_
    subst q
    have hu : u = Value.bool true := rr
    refine ⟨by rw [er, hu], OldK.of_keep fun b o e => ?_, os, bare⟩
    cases z : H b with
    | none => exact un.keep b o e z (fun m => absurd (show b ∈ ([] : List Addr) from m) (by simp)) (fun m => by simp at m)
    | some y =>
      obtain ⟨rfl, rfl⟩ := hH b y z
      rw [ha] at e
      cases e
      exact (hok' _ _ (un.frzs _ _ _ z)).1
  cases hk : K.lookup a with
  | none =>
    refine go (upd (fun _ => none) a (.frz { cls := .type "list", data := .seq vs.toArray } (.lst (ns.map V.int)))) (fun b u z => ?_) (.inr hk) (.inl (.inr ⟨_, upd_same⟩))
    by_cases e : b = a
    · subst e
      rw [upd_same] at z
      exact ⟨rfl, (Option.some.inj z).symm⟩
    · rw [upd_ne e] at z
      cases z
  | some o =>
    have e := KX a o hk
    rw [ha] at e
    cases e
    exact go (fun _ => none) (fun _ _ z => (by cases z)) (.inl rfl) (.inr ⟨_, vs.toArray, _, hk, rfl, rfl, rfl, by rw [List.size_toArray, hlen]; exact hsz, by simpa using rv⟩)
theorem walk_ofG {l : PySem.W.OpenLaw} {q : Program} {loose : List Str} {XP : (Str → Option Value) → Heap → Prop} {YP : World → Heap → Prop} {d : DefRec} {K : Params → PySem.W.Frag} {x : Str}
    (hn : l.most = some 63) (_h63 : 63 ≤ 63) (hdf : d.params.defaults = []) (hY : ∀ (w : World) (h : Heap), YP w h → (K w.params).In h)
    (F : ∀ (w : World) (mg : Str → Option Value) (fa : Addr) (h : Heap), (K w.params).In h → h.Ns mainGlobals mg → mg d.name = some (.ref fa) →
      ∃ fd : FuncData, (∀ (s : Shared) (u : Value), BindsTo s fd ⟨[u], []⟩ [(x, u)]) ∧
        ∀ (base : Heap) (a : Addr) (ns : List Int) (s : Shared) (H : Hp), Env0 l.prog w (K w.params) mg base callerA [] s H → SqL (K w.params) H a (ns.map V.int) → ns.length ≤ 63 →
          codeAny (model l.prog w) callerA (.call (.ref fa) ⟨[.ref a], []⟩) (fun r s' => ∃ u, r = .ok (.ret u) ∧ CE [] l.prog w H s (fun v _ => v = .bl true) u s') s) :
    PySem.W.WalkO q loose XP YP l.row.toRowW d [] (fun f vs => PySem.call f vs) :=
  Att.attach_call hn hdf fun w _ s₁ mg mb fa _ _ _ _ a vs ns G Y _ _ _ hmg hobj hints hlen hg =>
    let ⟨_, _, hF⟩ := F w mg fa _ (hY w _ Y) G.T.g hmg
    top_call (hY w _ Y) G.T.g G.T.b G.T.builtins G.T.nolimit hg hobj hints hlen fun base H e0 hS => hF base a ns s₁ H e0 hS hlen

theorem all_mk {P : Program} {w : World} {K : PySem.W.Frag} {h : Heap} {mg : Str → Option Value} {fa : Addr} (X : K.In h) (G : h.Ns mainGlobals mg) (hfa : mg "law" = some (.ref fa)) (hr : Room 10 callerA)
    {f__law_begun f__law_next f__law_well f__law_first f__law_turned f__law_beat f__law_graph f_is_whole f_wrong_part f_need_well f_need_rule f_is_past f_is_age f_is_crew_of f_need_crew f_need_span f_need_lead f_seen_of f_beginners f_ages_after f_crew_in f_steps_of f_graph_of f_runners f_gain f_searched f_ring_at f_row_to f_way_to f_lead_paper f__law_bent f_is_crew f__law_gain f__law_are_heights f__law_led f__law_is_lead f__law_is_endless f__law_due f_are_heights f_led_by f_do_bound f_is_lead f_is_endless f_check_lead f__law_outcome f_law Cc fI : Addr} {t_MOST_TOP t_MOST_DRAIN t_MOST_AGE t_MOST_STARTS t_MOST_STEP t_MOST_LAG t_MOST_PUMPS t_MOST_INFLOW t_FIRST t_TURNS t_OVER t_DRY t_MOST_CREWS t_MOST_ROW t_LEAD t_ENDLESS : Tok}
    (a__law_begun : PySem.W.nsIn K mainGlobals "_law_begun" = some (some (.ref f__law_begun)))
    (l__law_begun : IsFn K "_law_begun" s__law_begun f__law_begun)
    (a__law_next : PySem.W.nsIn K mainGlobals "_law_next" = some (some (.ref f__law_next)))
    (l__law_next : IsFn K "_law_next" s__law_next f__law_next)
    (a__law_well : PySem.W.nsIn K mainGlobals "_law_well" = some (some (.ref f__law_well)))
    (l__law_well : IsFn K "_law_well" s__law_well f__law_well)
    (a__law_first : PySem.W.nsIn K mainGlobals "_law_first" = some (some (.ref f__law_first)))
    (l__law_first : IsFn K "_law_first" s__law_first f__law_first)
    (a__law_turned : PySem.W.nsIn K mainGlobals "_law_turned" = some (some (.ref f__law_turned)))
    (l__law_turned : IsFn K "_law_turned" s__law_turned f__law_turned)
    (a__law_beat : PySem.W.nsIn K mainGlobals "_law_beat" = some (some (.ref f__law_beat)))
    (l__law_beat : IsFn K "_law_beat" s__law_beat f__law_beat)
    (a__law_graph : PySem.W.nsIn K mainGlobals "_law_graph" = some (some (.ref f__law_graph)))
    (l__law_graph : IsFn K "_law_graph" s__law_graph f__law_graph)
    (a_is_whole : PySem.W.nsIn K mainGlobals "is_whole" = some (some (.ref f_is_whole)))
    (l_is_whole : IsFn K "is_whole" s_is_whole f_is_whole)
    (a_wrong_part : PySem.W.nsIn K mainGlobals "wrong_part" = some (some (.ref f_wrong_part)))
    (l_wrong_part : IsFn K "wrong_part" s_wrong_part f_wrong_part)
    (a_need_well : PySem.W.nsIn K mainGlobals "need_well" = some (some (.ref f_need_well)))
    (l_need_well : IsFn K "need_well" s_need_well f_need_well)
    (a_need_rule : PySem.W.nsIn K mainGlobals "need_rule" = some (some (.ref f_need_rule)))
    (l_need_rule : IsFn K "need_rule" s_need_rule f_need_rule)
    (a_is_past : PySem.W.nsIn K mainGlobals "is_past" = some (some (.ref f_is_past)))
    (l_is_past : IsFn K "is_past" s_is_past f_is_past)
    (a_is_age : PySem.W.nsIn K mainGlobals "is_age" = some (some (.ref f_is_age)))
    (l_is_age : IsFn K "is_age" s_is_age f_is_age)
    (a_is_crew_of : PySem.W.nsIn K mainGlobals "is_crew_of" = some (some (.ref f_is_crew_of)))
    (l_is_crew_of : IsFn K "is_crew_of" s_is_crew_of f_is_crew_of)
    (a_need_crew : PySem.W.nsIn K mainGlobals "need_crew" = some (some (.ref f_need_crew)))
    (l_need_crew : IsFn K "need_crew" s_need_crew f_need_crew)
    (a_need_span : PySem.W.nsIn K mainGlobals "need_span" = some (some (.ref f_need_span)))
    (l_need_span : IsFn K "need_span" s_need_span f_need_span)
    (a_need_lead : PySem.W.nsIn K mainGlobals "need_lead" = some (some (.ref f_need_lead)))
    (l_need_lead : IsFn K "need_lead" s_need_lead f_need_lead)
    (a_seen_of : PySem.W.nsIn K mainGlobals "seen_of" = some (some (.ref f_seen_of)))
    (l_seen_of : IsFn K "seen_of" s_seen_of f_seen_of)
    (a_beginners : PySem.W.nsIn K mainGlobals "beginners" = some (some (.ref f_beginners)))
    (l_beginners : IsFn K "beginners" s_beginners f_beginners)
    (a_ages_after : PySem.W.nsIn K mainGlobals "ages_after" = some (some (.ref f_ages_after)))
    (l_ages_after : IsFn K "ages_after" s_ages_after f_ages_after)
    (a_crew_in : PySem.W.nsIn K mainGlobals "crew_in" = some (some (.ref f_crew_in)))
    (l_crew_in : IsFn K "crew_in" s_crew_in f_crew_in)
    (a_steps_of : PySem.W.nsIn K mainGlobals "steps_of" = some (some (.ref f_steps_of)))
    (l_steps_of : IsFn K "steps_of" s_steps_of f_steps_of)
    (a_graph_of : PySem.W.nsIn K mainGlobals "graph_of" = some (some (.ref f_graph_of)))
    (l_graph_of : IsFn K "graph_of" s_graph_of f_graph_of)
    (a_runners : PySem.W.nsIn K mainGlobals "runners" = some (some (.ref f_runners)))
    (l_runners : IsFn K "runners" s_runners f_runners)
    (a_gain : PySem.W.nsIn K mainGlobals "gain" = some (some (.ref f_gain)))
    (l_gain : IsFn K "gain" s_gain f_gain)
    (a_searched : PySem.W.nsIn K mainGlobals "searched" = some (some (.ref f_searched)))
    (l_searched : IsFn K "searched" s_searched f_searched)
    (a_ring_at : PySem.W.nsIn K mainGlobals "ring_at" = some (some (.ref f_ring_at)))
    (l_ring_at : IsFn K "ring_at" s_ring_at f_ring_at)
    (a_row_to : PySem.W.nsIn K mainGlobals "row_to" = some (some (.ref f_row_to)))
    (l_row_to : IsFn K "row_to" s_row_to f_row_to)
    (a_way_to : PySem.W.nsIn K mainGlobals "way_to" = some (some (.ref f_way_to)))
    (l_way_to : IsFn K "way_to" s_way_to f_way_to)
    (a_lead_paper : PySem.W.nsIn K mainGlobals "lead_paper" = some (some (.ref f_lead_paper)))
    (l_lead_paper : IsFn K "lead_paper" s_lead_paper f_lead_paper)
    (a__law_bent : PySem.W.nsIn K mainGlobals "_law_bent" = some (some (.ref f__law_bent)))
    (l__law_bent : IsFn K "_law_bent" s__law_bent f__law_bent)
    (a_is_crew : PySem.W.nsIn K mainGlobals "is_crew" = some (some (.ref f_is_crew)))
    (l_is_crew : IsFn K "is_crew" s_is_crew f_is_crew)
    (a__law_gain : PySem.W.nsIn K mainGlobals "_law_gain" = some (some (.ref f__law_gain)))
    (l__law_gain : IsFn K "_law_gain" s__law_gain f__law_gain)
    (a__law_are_heights : PySem.W.nsIn K mainGlobals "_law_are_heights" = some (some (.ref f__law_are_heights)))
    (l__law_are_heights : IsFn K "_law_are_heights" s__law_are_heights f__law_are_heights)
    (a__law_led : PySem.W.nsIn K mainGlobals "_law_led" = some (some (.ref f__law_led)))
    (l__law_led : IsFn K "_law_led" s__law_led f__law_led)
    (a__law_is_lead : PySem.W.nsIn K mainGlobals "_law_is_lead" = some (some (.ref f__law_is_lead)))
    (l__law_is_lead : IsFn K "_law_is_lead" s__law_is_lead f__law_is_lead)
    (a__law_is_endless : PySem.W.nsIn K mainGlobals "_law_is_endless" = some (some (.ref f__law_is_endless)))
    (l__law_is_endless : IsFn K "_law_is_endless" s__law_is_endless f__law_is_endless)
    (a__law_due : PySem.W.nsIn K mainGlobals "_law_due" = some (some (.ref f__law_due)))
    (l__law_due : IsFn K "_law_due" s__law_due f__law_due)
    (a_are_heights : PySem.W.nsIn K mainGlobals "are_heights" = some (some (.ref f_are_heights)))
    (l_are_heights : IsFn K "are_heights" s_are_heights f_are_heights)
    (a_led_by : PySem.W.nsIn K mainGlobals "led_by" = some (some (.ref f_led_by)))
    (l_led_by : IsFn K "led_by" s_led_by f_led_by)
    (a_do_bound : PySem.W.nsIn K mainGlobals "do_bound" = some (some (.ref f_do_bound)))
    (l_do_bound : IsFn K "do_bound" s_do_bound f_do_bound)
    (a_is_lead : PySem.W.nsIn K mainGlobals "is_lead" = some (some (.ref f_is_lead)))
    (l_is_lead : IsFn K "is_lead" s_is_lead f_is_lead)
    (a_is_endless : PySem.W.nsIn K mainGlobals "is_endless" = some (some (.ref f_is_endless)))
    (l_is_endless : IsFn K "is_endless" s_is_endless f_is_endless)
    (a_check_lead : PySem.W.nsIn K mainGlobals "check_lead" = some (some (.ref f_check_lead)))
    (l_check_lead : IsFn K "check_lead" s_check_lead f_check_lead)
    (a__law_outcome : PySem.W.nsIn K mainGlobals "_law_outcome" = some (some (.ref f__law_outcome)))
    (l__law_outcome : IsFn K "_law_outcome" s__law_outcome f__law_outcome)
    (a_law : PySem.W.nsIn K mainGlobals "law" = some (some (.ref f_law)))
    (l_law : IsFn K "law" s_law f_law)
    (b_isinstance : PySem.W.nsIn K mainGlobals "isinstance" = some none)
    (b_len : PySem.W.nsIn K mainGlobals "len" = some none)
    (b_int : PySem.W.nsIn K mainGlobals "int" = some none)
    (b_bool : PySem.W.nsIn K mainGlobals "bool" = some none)
    (b_str : PySem.W.nsIn K mainGlobals "str" = some none)
    (b_tuple : PySem.W.nsIn K mainGlobals "tuple" = some none)
    (b_list : PySem.W.nsIn K mainGlobals "list" = some none)
    (b_dict : PySem.W.nsIn K mainGlobals "dict" = some none)
    (b_range : PySem.W.nsIn K mainGlobals "range" = some none)
    (b_min : PySem.W.nsIn K mainGlobals "min" = some none)
    (b_max : PySem.W.nsIn K mainGlobals "max" = some none)
    (b_all : PySem.W.nsIn K mainGlobals "all" = some none)
    (b_sorted : PySem.W.nsIn K mainGlobals "sorted" = some none)
    (b_enumerate : PySem.W.nsIn K mainGlobals "enumerate" = some none)
    (b_zip : PySem.W.nsIn K mainGlobals "zip" = some none)
    (b_repr : PySem.W.nsIn K mainGlobals "repr" = some none)
    (b_super : PySem.W.nsIn K mainGlobals "super" = some none)
    (g_MOST_TOP : PySem.W.nsIn K mainGlobals "MOST_TOP" = some (some (.int 200 t_MOST_TOP)))
    (g_MOST_DRAIN : PySem.W.nsIn K mainGlobals "MOST_DRAIN" = some (some (.int 50 t_MOST_DRAIN)))
    (g_MOST_AGE : PySem.W.nsIn K mainGlobals "MOST_AGE" = some (some (.int 5 t_MOST_AGE)))
    (g_MOST_STARTS : PySem.W.nsIn K mainGlobals "MOST_STARTS" = some (some (.int 5 t_MOST_STARTS)))
    (g_MOST_STEP : PySem.W.nsIn K mainGlobals "MOST_STEP" = some (some (.int 20 t_MOST_STEP)))
    (g_MOST_LAG : PySem.W.nsIn K mainGlobals "MOST_LAG" = some (some (.int 3 t_MOST_LAG)))
    (g_MOST_PUMPS : PySem.W.nsIn K mainGlobals "MOST_PUMPS" = some (some (.int 6 t_MOST_PUMPS)))
    (g_MOST_INFLOW : PySem.W.nsIn K mainGlobals "MOST_INFLOW" = some (some (.int 300 t_MOST_INFLOW)))
    (g_FIRST : PySem.W.nsIn K mainGlobals "FIRST" = some (some (.str "first" t_FIRST)))
    (g_TURNS : PySem.W.nsIn K mainGlobals "TURNS" = some (some (.str "turns" t_TURNS)))
    (g_OVER : PySem.W.nsIn K mainGlobals "OVER" = some (some (.str "over" t_OVER)))
    (g_DRY : PySem.W.nsIn K mainGlobals "DRY" = some (some (.str "dry" t_DRY)))
    (g_MOST_CREWS : PySem.W.nsIn K mainGlobals "MOST_CREWS" = some (some (.int 5000 t_MOST_CREWS)))
    (g_MOST_ROW : PySem.W.nsIn K mainGlobals "MOST_ROW" = some (some (.int 100000 t_MOST_ROW)))
    (g_LEAD : PySem.W.nsIn K mainGlobals "LEAD" = some (some (.str "lead" t_LEAD)))
    (g_ENDLESS : PySem.W.nsIn K mainGlobals "ENDLESS" = some (some (.str "endless" t_ENDLESS)))
    (gC : PySem.W.nsIn K mainGlobals "BadPaper" = some (some (.ref Cc))) (TX : PartAt P K Cc fI) :
    ∃ fd : FuncData, (∀ (s : Shared) (u : Value), BindsTo s fd ⟨[u], []⟩ [("_law_script", u)]) ∧
      ∀ (base : Heap) (a : Addr) (ns : List Int) (s : Shared) (H : Hp), Env0 P w K mg base callerA [] s H → SqL K H a (ns.map V.int) → ns.length ≤ 63 →
        codeAny (model P w) callerA (.call (.ref fa) ⟨[.ref a], []⟩) (fun r s' => ∃ u, r = .ok (.ret u) ∧ CE [] P w H s (fun v _ => v = .bl true) u s') s := by
  have e := hfa.symm.trans (PySem.W.mg_of X G a_law)
  cases e
  have T : Tp mg := { b_isinstance := PySem.W.mg_none_of X G b_isinstance, b_len := PySem.W.mg_none_of X G b_len, b_int := PySem.W.mg_none_of X G b_int, b_bool := PySem.W.mg_none_of X G b_bool, b_str := PySem.W.mg_none_of X G b_str, b_tuple := PySem.W.mg_none_of X G b_tuple, b_list := PySem.W.mg_none_of X G b_list, b_dict := PySem.W.mg_none_of X G b_dict, b_range := PySem.W.mg_none_of X G b_range, b_min := PySem.W.mg_none_of X G b_min, b_max := PySem.W.mg_none_of X G b_max, b_all := PySem.W.mg_none_of X G b_all, b_sorted := PySem.W.mg_none_of X G b_sorted, b_enumerate := PySem.W.mg_none_of X G b_enumerate, b_zip := PySem.W.mg_none_of X G b_zip, b_repr := PySem.W.mg_none_of X G b_repr, b_super := PySem.W.mg_none_of X G b_super, g_MOST_TOP := ⟨_, PySem.W.mg_of X G g_MOST_TOP, ⟨_, rfl⟩⟩, g_MOST_DRAIN := ⟨_, PySem.W.mg_of X G g_MOST_DRAIN, ⟨_, rfl⟩⟩, g_MOST_AGE := ⟨_, PySem.W.mg_of X G g_MOST_AGE, ⟨_, rfl⟩⟩, g_MOST_STARTS := ⟨_, PySem.W.mg_of X G g_MOST_STARTS, ⟨_, rfl⟩⟩, g_MOST_STEP := ⟨_, PySem.W.mg_of X G g_MOST_STEP, ⟨_, rfl⟩⟩, g_MOST_LAG := ⟨_, PySem.W.mg_of X G g_MOST_LAG, ⟨_, rfl⟩⟩, g_MOST_PUMPS := ⟨_, PySem.W.mg_of X G g_MOST_PUMPS, ⟨_, rfl⟩⟩, g_MOST_INFLOW := ⟨_, PySem.W.mg_of X G g_MOST_INFLOW, ⟨_, rfl⟩⟩, g_FIRST := ⟨_, PySem.W.mg_of X G g_FIRST, ⟨_, rfl⟩⟩, g_TURNS := ⟨_, PySem.W.mg_of X G g_TURNS, ⟨_, rfl⟩⟩, g_OVER := ⟨_, PySem.W.mg_of X G g_OVER, ⟨_, rfl⟩⟩, g_DRY := ⟨_, PySem.W.mg_of X G g_DRY, ⟨_, rfl⟩⟩, g_MOST_CREWS := ⟨_, PySem.W.mg_of X G g_MOST_CREWS, ⟨_, rfl⟩⟩, g_MOST_ROW := ⟨_, PySem.W.mg_of X G g_MOST_ROW, ⟨_, rfl⟩⟩, g_LEAD := ⟨_, PySem.W.mg_of X G g_LEAD, ⟨_, rfl⟩⟩, g_ENDLESS := ⟨_, PySem.W.mg_of X G g_ENDLESS, ⟨_, rfl⟩⟩ }
  obtain ⟨fd__law_begun, F__law_begun, D__law_begun, B__law_begun⟩ := def_mk X G a__law_begun l__law_begun
  have B__law_begun : Binds K fd__law_begun ["_law_script"] [] := B__law_begun.all _ fun _ _ _ _ _ _ us hl => match us, hl with | [_], _ => rfl
  obtain ⟨fd__law_next, F__law_next, D__law_next, B__law_next⟩ := def_mk X G a__law_next l__law_next
  have B__law_next : Binds K fd__law_next ["_law_m", "_law_total"] [] := B__law_next.all _ fun _ _ _ _ _ _ us hl => match us, hl with | [_, _], _ => rfl
  obtain ⟨fd__law_well, F__law_well, D__law_well, B__law_well⟩ := def_mk X G a__law_well l__law_well
  have B__law_well : Binds K fd__law_well ["_law_m", "_law_top"] [] := B__law_well.all _ fun _ _ _ _ _ _ us hl => match us, hl with | [_, _], _ => rfl
  obtain ⟨fd__law_first, F__law_first, D__law_first, B__law_first⟩ := def_mk X G a__law_first l__law_first
  have B__law_first : Binds K fd__law_first ["_law_well_here", "_law_total", "_law_level"] [] := B__law_first.all _ fun _ _ _ _ _ _ us hl => match us, hl with | [_, _, _], _ => rfl
  obtain ⟨fd__law_turned, F__law_turned, D__law_turned, B__law_turned⟩ := def_mk X G a__law_turned l__law_turned
  have B__law_turned : Binds K fd__law_turned ["_law_well_here", "_law_rule", "_law_crew"] [] := B__law_turned.all _ fun _ _ _ _ _ _ us hl => match us, hl with | [_, _, _], _ => rfl
  obtain ⟨fd__law_beat, F__law_beat, D__law_beat, B__law_beat⟩ := def_mk X G a__law_beat l__law_beat
  have B__law_beat : Binds K fd__law_beat ["_law_well_here", "_law_rule", "_law_crew", "_law_inflow"] [] := B__law_beat.all _ fun _ _ _ _ _ _ us hl => match us, hl with | [_, _, _, _], _ => rfl
  obtain ⟨fd__law_graph, F__law_graph, D__law_graph, B__law_graph⟩ := def_mk X G a__law_graph l__law_graph
  have B__law_graph : Binds K fd__law_graph ["_law_well_here", "_law_rule", "_law_crew", "_law_low", "_law_high", "_law_limit"] [] := B__law_graph.all _ fun _ _ _ _ _ _ us hl => match us, hl with | [_, _, _, _, _, _], _ => rfl
  obtain ⟨fd_is_whole, F_is_whole, D_is_whole, B_is_whole⟩ := def_mk X G a_is_whole l_is_whole
  have B_is_whole : Binds K fd_is_whole ["thing", "least", "most"] [] := B_is_whole.all _ fun _ _ _ _ _ _ us hl => match us, hl with | [_, _, _], _ => rfl
  obtain ⟨fd_wrong_part, F_wrong_part, D_wrong_part, B_wrong_part⟩ := def_mk X G a_wrong_part l_wrong_part
  have B_wrong_part : Binds K fd_wrong_part ["thing"] [] := B_wrong_part.all _ fun _ _ _ _ _ _ us hl => match us, hl with | [_], _ => rfl
  obtain ⟨fd_need_well, F_need_well, D_need_well, B_need_well⟩ := def_mk X G a_need_well l_need_well
  have B_need_well : Binds K fd_need_well ["thing"] [] := B_need_well.all _ fun _ _ _ _ _ _ us hl => match us, hl with | [_], _ => rfl
  obtain ⟨fd_need_rule, F_need_rule, D_need_rule, B_need_rule⟩ := def_mk X G a_need_rule l_need_rule
  have B_need_rule : Binds K fd_need_rule ["rule"] [] := B_need_rule.all _ fun _ _ _ _ _ _ us hl => match us, hl with | [_], _ => rfl
  obtain ⟨fd_is_past, F_is_past, D_is_past, B_is_past⟩ := def_mk X G a_is_past l_is_past
  have B_is_past : Binds K fd_is_past ["well", "thing"] [] := B_is_past.all _ fun _ _ _ _ _ _ us hl => match us, hl with | [_, _], _ => rfl
  obtain ⟨fd_is_age, F_is_age, D_is_age, B_is_age⟩ := def_mk X G a_is_age l_is_age
  have B_is_age : Binds K fd_is_age ["well", "thing"] [] := B_is_age.all _ fun _ _ _ _ _ _ us hl => match us, hl with | [_, _], _ => rfl
  obtain ⟨fd_is_crew_of, F_is_crew_of, D_is_crew_of, B_is_crew_of⟩ := def_mk X G a_is_crew_of l_is_crew_of
  have B_is_crew_of : Binds K fd_is_crew_of ["well", "rule", "thing"] [] := B_is_crew_of.all _ fun _ _ _ _ _ _ us hl => match us, hl with | [_, _, _], _ => rfl
  obtain ⟨fd_need_crew, F_need_crew, D_need_crew, B_need_crew⟩ := def_mk X G a_need_crew l_need_crew
  have B_need_crew : Binds K fd_need_crew ["well", "rule", "crew"] [] := B_need_crew.all _ fun _ _ _ _ _ _ us hl => match us, hl with | [_, _, _], _ => rfl
  obtain ⟨fd_need_span, F_need_span, D_need_span, B_need_span⟩ := def_mk X G a_need_span l_need_span
  have B_need_span : Binds K fd_need_span ["low", "high"] [] := B_need_span.all _ fun _ _ _ _ _ _ us hl => match us, hl with | [_, _], _ => rfl
  obtain ⟨fd_need_lead, F_need_lead, D_need_lead, B_need_lead⟩ := def_mk X G a_need_lead l_need_lead
  have B_need_lead : Binds K fd_need_lead ["well", "rule", "crew", "low", "high", "one", "other"] [] := B_need_lead.all _ fun _ _ _ _ _ _ us hl => match us, hl with | [_, _, _, _, _, _, _], _ => rfl
  obtain ⟨fd_seen_of, F_seen_of, D_seen_of, B_seen_of⟩ := def_mk X G a_seen_of l_seen_of
  have B_seen_of : Binds K fd_seen_of ["well", "level", "past"] [] := B_seen_of.all _ fun _ _ _ _ _ _ us hl => match us, hl with | [_, _, _], _ => rfl
  obtain ⟨fd_beginners, F_beginners, D_beginners, B_beginners⟩ := def_mk X G a_beginners l_beginners
  have B_beginners : Binds K fd_beginners ["well", "rule", "crew"] [] := B_beginners.all _ fun _ _ _ _ _ _ us hl => match us, hl with | [_, _, _], _ => rfl
  obtain ⟨fd_ages_after, F_ages_after, D_ages_after, B_ages_after⟩ := def_mk X G a_ages_after l_ages_after
  have B_ages_after : Binds K fd_ages_after ["well", "rule", "crew"] [] := B_ages_after.all _ fun _ _ _ _ _ _ us hl => match us, hl with | [_, _, _], _ => rfl
  obtain ⟨fd_crew_in, F_crew_in, D_crew_in, B_crew_in⟩ := def_mk X G a_crew_in l_crew_in
  have B_crew_in : Binds K fd_crew_in ["well", "rule", "crew", "inflow"] [] := B_crew_in.all _ fun _ _ _ _ _ _ us hl => match us, hl with | [_, _, _, _], _ => rfl
  obtain ⟨fd_steps_of, F_steps_of, D_steps_of, B_steps_of⟩ := def_mk X G a_steps_of l_steps_of
  have B_steps_of : Binds K fd_steps_of ["well", "rule", "crew", "low", "high"] [] := B_steps_of.all _ fun _ _ _ _ _ _ us hl => match us, hl with | [_, _, _, _, _], _ => rfl
  obtain ⟨fd_graph_of, F_graph_of, D_graph_of, B_graph_of⟩ := def_mk X G a_graph_of l_graph_of
  have B_graph_of : Binds K fd_graph_of ["well", "rule", "crew", "low", "high"] [] := B_graph_of.all _ fun _ _ _ _ _ _ us hl => match us, hl with | [_, _, _, _, _], _ => rfl
  obtain ⟨fd_runners, F_runners, D_runners, B_runners⟩ := def_mk X G a_runners l_runners
  have B_runners : Binds K fd_runners ["well", "rule", "crew"] [] := B_runners.all _ fun _ _ _ _ _ _ us hl => match us, hl with | [_, _, _], _ => rfl
  obtain ⟨fd_gain, F_gain, D_gain, B_gain⟩ := def_mk X G a_gain l_gain
  have B_gain : Binds K fd_gain ["well", "rule", "crew", "one", "other"] [] := B_gain.all _ fun _ _ _ _ _ _ us hl => match us, hl with | [_, _, _, _, _], _ => rfl
  obtain ⟨fd_searched, F_searched, D_searched, B_searched⟩ := def_mk X G a_searched l_searched
  have B_searched : Binds K fd_searched ["well", "rule", "crew", "low", "high", "one", "other"] [] := B_searched.all _ fun _ _ _ _ _ _ us hl => match us, hl with | [_, _, _, _, _, _, _], _ => rfl
  obtain ⟨fd_ring_at, F_ring_at, D_ring_at, B_ring_at⟩ := def_mk X G a_ring_at l_ring_at
  have B_ring_at : Binds K fd_ring_at ["ahead", "crew", "size"] [] := B_ring_at.all _ fun _ _ _ _ _ _ us hl => match us, hl with | [_, _, _], _ => rfl
  obtain ⟨fd_row_to, F_row_to, D_row_to, B_row_to⟩ := def_mk X G a_row_to l_row_to
  have B_row_to : Binds K fd_row_to ["ahead", "crew", "most"] [] := B_row_to.all _ fun _ _ _ _ _ _ us hl => match us, hl with | [_, _, _], _ => rfl
  obtain ⟨fd_way_to, F_way_to, D_way_to, B_way_to⟩ := def_mk X G a_way_to l_way_to
  have B_way_to : Binds K fd_way_to ["well", "rule", "crew", "low", "high", "goal"] [] := B_way_to.all _ fun _ _ _ _ _ _ us hl => match us, hl with | [_, _, _, _, _, _], _ => rfl
  obtain ⟨fd_lead_paper, F_lead_paper, D_lead_paper, B_lead_paper⟩ := def_mk X G a_lead_paper l_lead_paper
  have B_lead_paper : Binds K fd_lead_paper ["well", "rule", "crew", "low", "high", "one", "other"] [] := B_lead_paper.all _ fun _ _ _ _ _ _ us hl => match us, hl with | [_, _, _, _, _, _, _], _ => rfl
  obtain ⟨fd__law_bent, F__law_bent, D__law_bent, B__law_bent⟩ := def_mk X G a__law_bent l__law_bent
  have B__law_bent : Binds K fd__law_bent ["_law_m", "_law_sheet"] [] := B__law_bent.all _ fun _ _ _ _ _ _ us hl => match us, hl with | [_, _], _ => rfl
  obtain ⟨fd_is_crew, F_is_crew, D_is_crew, B_is_crew⟩ := def_mk X G a_is_crew l_is_crew
  have B_is_crew : Binds K fd_is_crew ["well", "rule", "value"] [] := B_is_crew.all _ fun _ _ _ _ _ _ us hl => match us, hl with | [_, _, _], _ => rfl
  obtain ⟨fd__law_gain, F__law_gain, D__law_gain, B__law_gain⟩ := def_mk X G a__law_gain l__law_gain
  have B__law_gain : Binds K fd__law_gain ["_law_runs", "_law_one", "_law_other"] [] := B__law_gain.all _ fun _ _ _ _ _ _ us hl => match us, hl with | [_, _, _], _ => rfl
  obtain ⟨fd__law_are_heights, F__law_are_heights, D__law_are_heights, B__law_are_heights⟩ := def_mk X G a__law_are_heights l__law_are_heights
  have B__law_are_heights : Binds K fd__law_are_heights ["_law_well_here", "_law_rule", "_law_crew", "_law_low", "_law_high", "_law_rows"] [] := B__law_are_heights.all _ fun _ _ _ _ _ _ us hl => match us, hl with | [_, _, _, _, _, _], _ => rfl
  obtain ⟨fd__law_led, F__law_led, D__law_led, B__law_led⟩ := def_mk X G a__law_led l__law_led
  have B__law_led : Binds K fd__law_led ["_law_well_here", "_law_rule", "_law_crew", "_law_row", "_law_low", "_law_high", "_law_one", "_law_other"] [] := B__law_led.all _ fun _ _ _ _ _ _ us hl => match us, hl with | [_, _, _, _, _, _, _, _], _ => rfl
  obtain ⟨fd__law_is_lead, F__law_is_lead, D__law_is_lead, B__law_is_lead⟩ := def_mk X G a__law_is_lead l__law_is_lead
  have B__law_is_lead : Binds K fd__law_is_lead ["_law_well_here", "_law_rule", "_law_crew", "_law_low", "_law_high", "_law_sheet"] [] := B__law_is_lead.all _ fun _ _ _ _ _ _ us hl => match us, hl with | [_, _, _, _, _, _], _ => rfl
  obtain ⟨fd__law_is_endless, F__law_is_endless, D__law_is_endless, B__law_is_endless⟩ := def_mk X G a__law_is_endless l__law_is_endless
  have B__law_is_endless : Binds K fd__law_is_endless ["_law_well_here", "_law_rule", "_law_crew", "_law_low", "_law_high", "_law_sheet"] [] := B__law_is_endless.all _ fun _ _ _ _ _ _ us hl => match us, hl with | [_, _, _, _, _, _], _ => rfl
  obtain ⟨fd__law_due, F__law_due, D__law_due, B__law_due⟩ := def_mk X G a__law_due l__law_due
  have B__law_due : Binds K fd__law_due ["_law_well_here", "_law_rule", "_law_crew", "_law_low", "_law_high", "_law_sheet"] [] := B__law_due.all _ fun _ _ _ _ _ _ us hl => match us, hl with | [_, _, _, _, _, _], _ => rfl
  obtain ⟨fd_are_heights, F_are_heights, D_are_heights, B_are_heights⟩ := def_mk X G a_are_heights l_are_heights
  have B_are_heights : Binds K fd_are_heights ["well", "rule", "thing"] [] := B_are_heights.all _ fun _ _ _ _ _ _ us hl => match us, hl with | [_, _, _], _ => rfl
  obtain ⟨fd_led_by, F_led_by, D_led_by, B_led_by⟩ := def_mk X G a_led_by l_led_by
  have B_led_by : Binds K fd_led_by ["well", "rule", "crew", "row", "span", "one", "other"] [] := B_led_by.all _ fun _ _ _ _ _ _ us hl => match us, hl with | [_, _, _, _, _, _, _], _ => rfl
  obtain ⟨fd_do_bound, F_do_bound, D_do_bound, B_do_bound⟩ := def_mk X G a_do_bound l_do_bound
  have B_do_bound : Binds K fd_do_bound ["well", "rule", "crew", "span", "heights", "one", "other"] [] := B_do_bound.all _ fun _ _ _ _ _ _ us hl => match us, hl with | [_, _, _, _, _, _, _], _ => rfl
  obtain ⟨fd_is_lead, F_is_lead, D_is_lead, B_is_lead⟩ := def_mk X G a_is_lead l_is_lead
  have B_is_lead : Binds K fd_is_lead ["well", "rule", "crew", "span", "paper", "one", "other"] [] := B_is_lead.all _ fun _ _ _ _ _ _ us hl => match us, hl with | [_, _, _, _, _, _, _], _ => rfl
  obtain ⟨fd_is_endless, F_is_endless, D_is_endless, B_is_endless⟩ := def_mk X G a_is_endless l_is_endless
  have B_is_endless : Binds K fd_is_endless ["well", "rule", "crew", "span", "paper", "one", "other"] [] := B_is_endless.all _ fun _ _ _ _ _ _ us hl => match us, hl with | [_, _, _, _, _, _, _], _ => rfl
  obtain ⟨fd_check_lead, F_check_lead, D_check_lead, B_check_lead⟩ := def_mk X G a_check_lead l_check_lead
  have B_check_lead : Binds K fd_check_lead ["well", "rule", "crew", "low", "high", "one", "other", "paper"] [] := B_check_lead.all _ fun _ _ _ _ _ _ us hl => match us, hl with | [_, _, _, _, _, _, _, _], _ => rfl
  obtain ⟨fd__law_outcome, F__law_outcome, D__law_outcome, B__law_outcome⟩ := def_mk X G a__law_outcome l__law_outcome
  have B__law_outcome : Binds K fd__law_outcome ["_law_well_here", "_law_rule", "_law_crew", "_law_low", "_law_high", "_law_sheet"] [] := B__law_outcome.all _ fun _ _ _ _ _ _ us hl => match us, hl with | [_, _, _, _, _, _], _ => rfl
  obtain ⟨fd_law, F_law, D_law, B_law⟩ := def_mk X G a_law l_law
  have TP : PySem.PartX.PartTxt P K mg Cc fI := TX.txt (PySem.W.mg_of X G gC) T.b_super
  have BL : ∀ (s : Shared) (u : Value), BindsTo s fd_law ⟨[u], []⟩ [("_law_script", u)] := fun s u => B_law.one fun _ _ _ _ _ _ => rfl
  refine ⟨fd_law, BL, fun base a ns s H e0 hS hl => ?_⟩
  have c__law_begun : Cal P w K mg base 1 "_law_begun" (spBeg K) [] := cal__law_begun (base := base) T F__law_begun B__law_begun 
  have c__law_next : Cal P w K mg base 1 "_law_next" (spM P w K sp__law_next) [] := cal__law_next (base := base) T F__law_next B__law_next 
  have c__law_well : Cal P w K mg base 2 "_law_well" (spM P w K sp__law_well) [] := cal__law_well (base := base) T F__law_well B__law_well c__law_next
  have c__law_first : Cal P w K mg base 1 "_law_first" (spX P w K sp__law_first) [] := cal__law_first (base := base) T F__law_first B__law_first 
  have c__law_turned : Cal P w K mg base 1 "_law_turned" (spX P w K sp__law_turned) [] := cal__law_turned (base := base) T F__law_turned B__law_turned 
  have c__law_beat : Cal P w K mg base 2 "_law_beat" (spX P w K sp__law_beat) [] := cal__law_beat (base := base) T F__law_beat B__law_beat c__law_turned
  have c__law_graph : Cal P w K mg base 3 "_law_graph" (spX P w K sp__law_graph) [] := cal__law_graph (base := base) T F__law_graph B__law_graph c__law_beat
  have c_is_whole : Cal P w K mg base 1 "is_whole" (spX P w K sp_is_whole) [] := cal_is_whole (base := base) T F_is_whole B_is_whole 
  have c_wrong_part : Cal P w K mg base 2 "wrong_part" (spX P w K sp_wrong_part) [] := cal_wrong_part (base := base) T F_wrong_part B_wrong_part c_is_whole
  have c_need_well : Cal P w K mg base 3 "need_well" (spX P w K sp_need_well) [] := cal_need_well (base := base) T F_need_well B_need_well c_wrong_part
  have c_need_rule : Cal P w K mg base 1 "need_rule" (spX P w K sp_need_rule) [] := cal_need_rule (base := base) T F_need_rule B_need_rule 
  have c_is_past : Cal P w K mg base 2 "is_past" (spX P w K sp_is_past) [] := cal_is_past (base := base) T F_is_past B_is_past c_is_whole
  have c_is_age : Cal P w K mg base 2 "is_age" (spX P w K sp_is_age) [] := cal_is_age (base := base) T F_is_age B_is_age c_is_whole
  have c_is_crew_of : Cal P w K mg base 3 "is_crew_of" (spX P w K sp_is_crew_of) [] := cal_is_crew_of (base := base) T F_is_crew_of B_is_crew_of c_is_whole c_is_past c_is_age
  have c_need_crew : Cal P w K mg base 4 "need_crew" (spX P w K sp_need_crew) [] := cal_need_crew (base := base) T F_need_crew B_need_crew c_need_well c_need_rule c_is_crew_of
  have c_need_span : Cal P w K mg base 2 "need_span" (spX P w K sp_need_span) [] := cal_need_span (base := base) T F_need_span B_need_span c_is_whole
  have c_need_lead : Cal P w K mg base 5 "need_lead" (spX P w K sp_need_lead) [] := cal_need_lead (base := base) T F_need_lead B_need_lead c_need_crew c_need_span c_is_whole
  have c_seen_of : Cal P w K mg base 1 "seen_of" (spX P w K sp_seen_of) [] := cal_seen_of (base := base) T F_seen_of B_seen_of 
  have c_beginners : Cal P w K mg base 2 "beginners" (spX P w K sp_beginners) [] := cal_beginners (base := base) T F_beginners B_beginners c_seen_of
  have c_ages_after : Cal P w K mg base 3 "ages_after" (spX P w K sp_ages_after) [] := cal_ages_after (base := base) T F_ages_after B_ages_after c_beginners c_seen_of
  have c_crew_in : Cal P w K mg base 4 "crew_in" (spX P w K sp_crew_in) [] := cal_crew_in (base := base) T F_crew_in B_crew_in c_ages_after c_beginners
  have c_steps_of : Cal P w K mg base 5 "steps_of" (spX P w K sp_steps_of) [] := cal_steps_of (base := base) T F_steps_of B_steps_of c_crew_in
  have c_graph_of : Cal P w K mg base 6 "graph_of" (spX P w K sp_graph_of) [] := cal_graph_of (base := base) T F_graph_of B_graph_of c_steps_of
  have c_runners : Cal P w K mg base 4 "runners" (spX P w K sp_runners) [] := cal_runners (base := base) T F_runners B_runners c_ages_after
  have c_gain : Cal P w K mg base 5 "gain" (spX P w K sp_gain) [] := cal_gain (base := base) T F_gain B_gain c_runners
  have c_searched : Cal P w K mg base 7 "searched" (spX P w K sp_searched) [] := cal_searched (base := base) T F_searched B_searched c_graph_of c_gain
  have c_ring_at : Cal P w K mg base 1 "ring_at" (spX P w K sp_ring_at) [] := cal_ring_at (base := base) T F_ring_at B_ring_at 
  have c_row_to : Cal P w K mg base 1 "row_to" (spX P w K sp_row_to) [] := cal_row_to (base := base) T F_row_to B_row_to 
  have c_way_to : Cal P w K mg base 6 "way_to" (spX P w K sp_way_to) [] := cal_way_to (base := base) T F_way_to B_way_to c_steps_of c_row_to
  have c_lead_paper : Cal P w K mg base 8 "lead_paper" (spX P w K sp_lead_paper) [] := cal_lead_paper (base := base) T F_lead_paper B_lead_paper c_need_lead c_searched c_ring_at c_way_to c_row_to
  have c__law_bent : Cal P w K mg base 2 "_law_bent" (spM P w K sp__law_bent) [] := cal__law_bent (base := base) T F__law_bent B__law_bent c__law_next
  have c_is_crew : Cal P w K mg base 4 "is_crew" (spX P w K sp_is_crew) [] := cal_is_crew (base := base) T F_is_crew B_is_crew c_need_well c_need_rule c_is_crew_of
  have c__law_gain : Cal P w K mg base 1 "_law_gain" (spX P w K sp__law_gain) [] := cal__law_gain (base := base) T F__law_gain B__law_gain 
  have c__law_are_heights : Cal P w K mg base 5 "_law_are_heights" (spX P w K sp__law_are_heights) [] := cal__law_are_heights (base := base) T F__law_are_heights B__law_are_heights c_is_crew c__law_beat c__law_gain
  have c__law_led : Cal P w K mg base 3 "_law_led" (spX P w K sp__law_led) [] := cal__law_led (base := base) T F__law_led B__law_led c__law_beat c__law_gain
  have c__law_is_lead : Cal P w K mg base 6 "_law_is_lead" (spX P w K sp__law_is_lead) [] := cal__law_is_lead (base := base) T F__law_is_lead B__law_is_lead c__law_are_heights c__law_led
  have c__law_is_endless : Cal P w K mg base 4 "_law_is_endless" (spX P w K sp__law_is_endless) [] := cal__law_is_endless (base := base) T F__law_is_endless B__law_is_endless c__law_led
  have c__law_due : Cal P w K mg base 7 "_law_due" (spX P w K sp__law_due) [] := cal__law_due (base := base) T F__law_due B__law_due c__law_is_lead c__law_is_endless
  have c_are_heights : Cal P w K mg base 4 "are_heights" (spX P w K sp_are_heights) [] := cal_are_heights (base := base) T F_are_heights B_are_heights c_is_crew_of
  have c_led_by : Cal P w K mg base 6 "led_by" (spX P w K sp_led_by) [] := cal_led_by (base := base) T F_led_by B_led_by c_is_whole c_gain c_crew_in
  have c_do_bound : Cal P w K mg base 6 "do_bound" (spX P w K sp_do_bound) [] := cal_do_bound (base := base) T F_do_bound B_do_bound c_gain c_steps_of
  have c_is_lead : Cal P w K mg base 7 "is_lead" (spX P w K sp_is_lead) [] := cal_is_lead (base := base) T F_is_lead B_is_lead c_are_heights c_led_by c_is_whole c_do_bound
  have c_is_endless : Cal P w K mg base 7 "is_endless" (spX P w K sp_is_endless) [] := cal_is_endless (base := base) T F_is_endless B_is_endless c_led_by
  have c_check_lead : CalX P w K mg base 8 "check_lead" (spCk P w K Cc ckA ckP ckJ) := cal_check_lead (base := base) T TP F_check_lead B_check_lead c_need_lead F_is_lead.mgf F_is_endless.mgf (calAt F_is_lead.mgf c_is_lead) (calAt F_is_endless.mgf c_is_endless)
  have c__law_outcome : Cal P w K mg base 9 "_law_outcome" (spX P w K sp__law_outcome) [] := cal__law_outcome (base := base) T TP F__law_outcome B__law_outcome c_check_lead
  exact law_ok (us := [.ref a]) T F_law c__law_begun c__law_well c__law_next c__law_first c__law_graph c_lead_paper c__law_bent c__law_due c__law_outcome hr e0 (BL s (.ref a)) (.cons rfl .nil) hS hl
end Pk
open PySem PySem.W PyProof.Rows
set_option maxRecDepth 100000 in
set_option maxHeartbeats 0 in
theorem PySem.Challenge.cw_pumphouse_k07_whole_leads_judged_holds : PySem.Challenge.rw_pumphouse_k07_whole_leads_judged.Holds := by
  w_on; o_law; k_head; (case hw => w_witness2)
  k_fill
  refine Pk.walk_ofG (x := "_law_script") (l := PySem.Challenge.rw_pumphouse_k07_whole_leads_judged) rfl (by decide) rfl (fun w h Y => PySem.W.kIn_of Y) ?F
  case F =>
    intro w mg fa h KX G hmg
    refine' Pk.all_mk KX G hmg ⟨rfl, by decide, by decide⟩ ?a__law_begun ?l__law_begun ?a__law_next ?l__law_next ?a__law_well ?l__law_well ?a__law_first ?l__law_first ?a__law_turned ?l__law_turned ?a__law_beat ?l__law_beat ?a__law_graph ?l__law_graph ?a_is_whole ?l_is_whole ?a_wrong_part ?l_wrong_part ?a_need_well ?l_need_well ?a_need_rule ?l_need_rule ?a_is_past ?l_is_past ?a_is_age ?l_is_age ?a_is_crew_of ?l_is_crew_of ?a_need_crew ?l_need_crew ?a_need_span ?l_need_span ?a_need_lead ?l_need_lead ?a_seen_of ?l_seen_of ?a_beginners ?l_beginners ?a_ages_after ?l_ages_after ?a_crew_in ?l_crew_in ?a_steps_of ?l_steps_of ?a_graph_of ?l_graph_of ?a_runners ?l_runners ?a_gain ?l_gain ?a_searched ?l_searched ?a_ring_at ?l_ring_at ?a_row_to ?l_row_to ?a_way_to ?l_way_to ?a_lead_paper ?l_lead_paper ?a__law_bent ?l__law_bent ?a_is_crew ?l_is_crew ?a__law_gain ?l__law_gain ?a__law_are_heights ?l__law_are_heights ?a__law_led ?l__law_led ?a__law_is_lead ?l__law_is_lead ?a__law_is_endless ?l__law_is_endless ?a__law_due ?l__law_due ?a_are_heights ?l_are_heights ?a_led_by ?l_led_by ?a_do_bound ?l_do_bound ?a_is_lead ?l_is_lead ?a_is_endless ?l_is_endless ?a_check_lead ?l_check_lead ?a__law_outcome ?l__law_outcome ?a_law ?l_law ?b_isinstance ?b_len ?b_int ?b_bool ?b_str ?b_tuple ?b_list ?b_dict ?b_range ?b_min ?b_max ?b_all ?b_sorted ?b_enumerate ?b_zip ?b_repr ?b_super ?g_MOST_TOP ?g_MOST_DRAIN ?g_MOST_AGE ?g_MOST_STARTS ?g_MOST_STEP ?g_MOST_LAG ?g_MOST_PUMPS ?g_MOST_INFLOW ?g_FIRST ?g_TURNS ?g_OVER ?g_DRY ?g_MOST_CREWS ?g_MOST_ROW ?g_LEAD ?g_ENDLESS ?gC ?TX
    (case a__law_begun => k_is)
    (case l__law_begun => refine' Pk.IsFn.mk' ?l ?c ?k; (case l => k_is); (case c => k_is); (case k => k_is))
    (case a__law_next => k_is)
    (case l__law_next => refine' Pk.IsFn.mk' ?l ?c ?k; (case l => k_is); (case c => k_is); (case k => k_is))
    (case a__law_well => k_is)
    (case l__law_well => refine' Pk.IsFn.mk' ?l ?c ?k; (case l => k_is); (case c => k_is); (case k => k_is))
    (case a__law_first => k_is)
    (case l__law_first => refine' Pk.IsFn.mk' ?l ?c ?k; (case l => k_is); (case c => k_is); (case k => k_is))
    (case a__law_turned => k_is)
    (case l__law_turned => refine' Pk.IsFn.mk' ?l ?c ?k; (case l => k_is); (case c => k_is); (case k => k_is))
    (case a__law_beat => k_is)
    (case l__law_beat => refine' Pk.IsFn.mk' ?l ?c ?k; (case l => k_is); (case c => k_is); (case k => k_is))
    (case a__law_graph => k_is)
    (case l__law_graph => refine' Pk.IsFn.mk' ?l ?c ?k; (case l => k_is); (case c => k_is); (case k => k_is))
    (case a_is_whole => k_is)
    (case l_is_whole => refine' Pk.IsFn.mk' ?l ?c ?k; (case l => k_is); (case c => k_is); (case k => k_is))
    (case a_wrong_part => k_is)
    (case l_wrong_part => refine' Pk.IsFn.mk' ?l ?c ?k; (case l => k_is); (case c => k_is); (case k => k_is))
    (case a_need_well => k_is)
    (case l_need_well => refine' Pk.IsFn.mk' ?l ?c ?k; (case l => k_is); (case c => k_is); (case k => k_is))
    (case a_need_rule => k_is)
    (case l_need_rule => refine' Pk.IsFn.mk' ?l ?c ?k; (case l => k_is); (case c => k_is); (case k => k_is))
    (case a_is_past => k_is)
    (case l_is_past => refine' Pk.IsFn.mk' ?l ?c ?k; (case l => k_is); (case c => k_is); (case k => k_is))
    (case a_is_age => k_is)
    (case l_is_age => refine' Pk.IsFn.mk' ?l ?c ?k; (case l => k_is); (case c => k_is); (case k => k_is))
    (case a_is_crew_of => k_is)
    (case l_is_crew_of => refine' Pk.IsFn.mk' ?l ?c ?k; (case l => k_is); (case c => k_is); (case k => k_is))
    (case a_need_crew => k_is)
    (case l_need_crew => refine' Pk.IsFn.mk' ?l ?c ?k; (case l => k_is); (case c => k_is); (case k => k_is))
    (case a_need_span => k_is)
    (case l_need_span => refine' Pk.IsFn.mk' ?l ?c ?k; (case l => k_is); (case c => k_is); (case k => k_is))
    (case a_need_lead => k_is)
    (case l_need_lead => refine' Pk.IsFn.mk' ?l ?c ?k; (case l => k_is); (case c => k_is); (case k => k_is))
    (case a_seen_of => k_is)
    (case l_seen_of => refine' Pk.IsFn.mk' ?l ?c ?k; (case l => k_is); (case c => k_is); (case k => k_is))
    (case a_beginners => k_is)
    (case l_beginners => refine' Pk.IsFn.mk' ?l ?c ?k; (case l => k_is); (case c => k_is); (case k => k_is))
    (case a_ages_after => k_is)
    (case l_ages_after => refine' Pk.IsFn.mk' ?l ?c ?k; (case l => k_is); (case c => k_is); (case k => k_is))
    (case a_crew_in => k_is)
    (case l_crew_in => refine' Pk.IsFn.mk' ?l ?c ?k; (case l => k_is); (case c => k_is); (case k => k_is))
    (case a_steps_of => k_is)
    (case l_steps_of => refine' Pk.IsFn.mk' ?l ?c ?k; (case l => k_is); (case c => k_is); (case k => k_is))
    (case a_graph_of => k_is)
    (case l_graph_of => refine' Pk.IsFn.mk' ?l ?c ?k; (case l => k_is); (case c => k_is); (case k => k_is))
    (case a_runners => k_is)
    (case l_runners => refine' Pk.IsFn.mk' ?l ?c ?k; (case l => k_is); (case c => k_is); (case k => k_is))
    (case a_gain => k_is)
    (case l_gain => refine' Pk.IsFn.mk' ?l ?c ?k; (case l => k_is); (case c => k_is); (case k => k_is))
    (case a_searched => k_is)
    (case l_searched => refine' Pk.IsFn.mk' ?l ?c ?k; (case l => k_is); (case c => k_is); (case k => k_is))
    (case a_ring_at => k_is)
    (case l_ring_at => refine' Pk.IsFn.mk' ?l ?c ?k; (case l => k_is); (case c => k_is); (case k => k_is))
    (case a_row_to => k_is)
    (case l_row_to => refine' Pk.IsFn.mk' ?l ?c ?k; (case l => k_is); (case c => k_is); (case k => k_is))
    (case a_way_to => k_is)
    (case l_way_to => refine' Pk.IsFn.mk' ?l ?c ?k; (case l => k_is); (case c => k_is); (case k => k_is))
    (case a_lead_paper => k_is)
    (case l_lead_paper => refine' Pk.IsFn.mk' ?l ?c ?k; (case l => k_is); (case c => k_is); (case k => k_is))
    (case a__law_bent => k_is)
    (case l__law_bent => refine' Pk.IsFn.mk' ?l ?c ?k; (case l => k_is); (case c => k_is); (case k => k_is))
    (case a_is_crew => k_is)
    (case l_is_crew => refine' Pk.IsFn.mk' ?l ?c ?k; (case l => k_is); (case c => k_is); (case k => k_is))
    (case a__law_gain => k_is)
    (case l__law_gain => refine' Pk.IsFn.mk' ?l ?c ?k; (case l => k_is); (case c => k_is); (case k => k_is))
    (case a__law_are_heights => k_is)
    (case l__law_are_heights => refine' Pk.IsFn.mk' ?l ?c ?k; (case l => k_is); (case c => k_is); (case k => k_is))
    (case a__law_led => k_is)
    (case l__law_led => refine' Pk.IsFn.mk' ?l ?c ?k; (case l => k_is); (case c => k_is); (case k => k_is))
    (case a__law_is_lead => k_is)
    (case l__law_is_lead => refine' Pk.IsFn.mk' ?l ?c ?k; (case l => k_is); (case c => k_is); (case k => k_is))
    (case a__law_is_endless => k_is)
    (case l__law_is_endless => refine' Pk.IsFn.mk' ?l ?c ?k; (case l => k_is); (case c => k_is); (case k => k_is))
    (case a__law_due => k_is)
    (case l__law_due => refine' Pk.IsFn.mk' ?l ?c ?k; (case l => k_is); (case c => k_is); (case k => k_is))
    (case a_are_heights => k_is)
    (case l_are_heights => refine' Pk.IsFn.mk' ?l ?c ?k; (case l => k_is); (case c => k_is); (case k => k_is))
    (case a_led_by => k_is)
    (case l_led_by => refine' Pk.IsFn.mk' ?l ?c ?k; (case l => k_is); (case c => k_is); (case k => k_is))
    (case a_do_bound => k_is)
    (case l_do_bound => refine' Pk.IsFn.mk' ?l ?c ?k; (case l => k_is); (case c => k_is); (case k => k_is))
    (case a_is_lead => k_is)
    (case l_is_lead => refine' Pk.IsFn.mk' ?l ?c ?k; (case l => k_is); (case c => k_is); (case k => k_is))
    (case a_is_endless => k_is)
    (case l_is_endless => refine' Pk.IsFn.mk' ?l ?c ?k; (case l => k_is); (case c => k_is); (case k => k_is))
    (case a_check_lead => k_is)
    (case l_check_lead => refine' Pk.IsFn.mk' ?l ?c ?k; (case l => k_is); (case c => k_is); (case k => k_is))
    (case a__law_outcome => k_is)
    (case l__law_outcome => refine' Pk.IsFn.mk' ?l ?c ?k; (case l => k_is); (case c => k_is); (case k => k_is))
    (case a_law => k_is)
    (case l_law => refine' Pk.IsFn.mk' ?l ?c ?k; (case l => k_is); (case c => k_is); (case k => k_is))
    (case b_isinstance => k_is)
    (case b_len => k_is)
    (case b_int => k_is)
    (case b_bool => k_is)
    (case b_str => k_is)
    (case b_tuple => k_is)
    (case b_list => k_is)
    (case b_dict => k_is)
    (case b_range => k_is)
    (case b_min => k_is)
    (case b_max => k_is)
    (case b_all => k_is)
    (case b_sorted => k_is)
    (case b_enumerate => k_is)
    (case b_zip => k_is)
    (case b_repr => k_is)
    (case b_super => k_is)
    (case g_MOST_TOP => k_is)
    (case g_MOST_DRAIN => k_is)
    (case g_MOST_AGE => k_is)
    (case g_MOST_STARTS => k_is)
    (case g_MOST_STEP => k_is)
    (case g_MOST_LAG => k_is)
    (case g_MOST_PUMPS => k_is)
    (case g_MOST_INFLOW => k_is)
    (case g_FIRST => k_is)
    (case g_TURNS => k_is)
    (case g_OVER => k_is)
    (case g_DRY => k_is)
    (case g_MOST_CREWS => k_is)
    (case g_MOST_ROW => k_is)
    (case g_LEAD => k_is)
    (case g_ENDLESS => k_is)
    (case gC => k_is)
    case TX =>
      refine' Pk.PartAt.mk' ?top ?cls ?sa ?ga ?gg ?noN ?iC ?tC ?kC ?exC ?vS ?tyC ?hdC ?isC ?sS ?so ?sI ?sC ?lf ?cf ?lc ?ll ?vs2 ?fl
      (case cls => k_is)
      (case sa => k_is)
      (case ga => k_is)
      (case gg => k_is)
      (case noN => k_is)
      (case iC => k_is)
      (case tC => k_is)
      (case kC => k_is)
      (case exC => k_is)
      (case vS => k_is)
      (case tyC => k_is)
      (case hdC => k_is)
      (case isC => k_is)
      (case sS => k_is)
      (case so => k_is)
      (case sI => ks_is)
      (case sC => k_is)
      (case lf => k_is)
      (case cf => k_is)
      (case lc => k_is)
      (case ll => k_is)
      (case top => decide +kernel)
      (case vs2 => rfl)
      (case fl => first | rfl | decide +kernel)
