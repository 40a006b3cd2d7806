import PyProof.Rows.All
import Wide.All
import OpenK.AllK
import Wide.FinOn
import HandS.ForMost
import HandS.Walk
import HandS.Zip
import HandS.TupAny
import HandS.TupLe
import HandS.IsInst
import HandS.Wide
import HandS.WideBits
import HandS.Conv
import HandS.Codes
import HandS.Style
import HandS.SortOrd
import HandS.Deep
import HandS.SetKeys
import HandS.BoundDict
import KE.GoesMore
import KE.GoesEnum
import HandS.Words
import HandS.CallLocal
import HandS.Dict
import PyProof.ReprRoads
import HandS.DictTup
import KE.KDictKeyed
import KE.KeyNested
import HandS.Iter
import KE.KSortTup
import KE.KDictSum
import HandS.DictComp
import KE.KDictPairs
import HandS.Ends
import PyProof.AssignAttr
import PySem.Challenge.RW_leastkind_k06_flows_and_clashes
import KE.BitLaws
set_option Elab.async false
set_option linter.all false
set_option maxRecDepth 100000
set_option synthInstance.maxHeartbeats 0
set_option synthInstance.maxSize 4000
/-! The data layer: readings of HandS over trees of data (PV) and a partial store of the mutable objects (Mp). -/
namespace DL
open PySem L2

/-- a value as a tree: a tuple is what it holds, a mutable object is where it stands -/
inductive PV where
  | non | bl (b : Bool) | int (i : Int) | str (x : Str) | tup (xs : List PV) | ktup (xs : List PV) | kl (xs : List PV) | loc (a : Addr) | ty (n : String) | raw (v : V)

/-- a tuple of the module's own -/
def KT (K : PySem.W.Frag) (a : Addr) (xs : List V) : Prop := ∃ (o : Obj) (its : Array Value) (n : Nat), K.lookup a = some o ∧ o.cls = .type "tuple" ∧ o.dict = none ∧ o.data = .seq its n ∧ its.size ≤ sizeLine ∧ Vals xs its.toList
/-- a plain tuple: one of the module's own, or one whose object is known to have no dict -/
def PT (K : PySem.W.Frag) (H : Hp) (a : Addr) (xs : List V) : Prop := KT K a xs ∨ ∃ o : Obj, H a = some (.frz o (.tup xs)) ∧ o.dict = none
theorem PT.sq {K : PySem.W.Frag} {H : Hp} {a : Addr} {xs : List V} (h : PT K H a xs) : SqT K H a xs := by
  rcases h with ⟨o, its, n, h1, h2, _, h3⟩ | ⟨o, h1, _⟩
  · exact .inr ⟨o, its, n, h1, h2, h3⟩
  · exact .inl (.inr ⟨o, h1⟩)
/-- a list that never changes -/
def CL (K : PySem.W.Frag) (H : Hp) (a : Addr) (xs : List V) : Prop := (∃ o, H a = some (.frz o (.lst xs))) ∨
  ∃ (o : Obj) (its : Array Value) (n : Nat), K.lookup a = some o ∧ o.cls = .type "list" ∧ o.dict = none ∧ o.data = .seq its n ∧ its.size ≤ sizeLine ∧ Vals xs its.toList
theorem CL.sq {K : PySem.W.Frag} {H : Hp} {a : Addr} {xs : List V} (h : CL K H a xs) : SqL K H a xs := by
  rcases h with ⟨o, h⟩ | h
  · exact .inl (.inr ⟨o, h⟩)
  · exact .inr h
mutual
/-- the value v, over H, is the tree x -/
inductive Rep (K : PySem.W.Frag) (H : Hp) : V → PV → Prop
  | non : Rep K H .non .non
  | bl (b : Bool) : Rep K H (.bl b) (.bl b)
  | int (i : Int) : Rep K H (.int i) (.int i)
  | str (x : Str) : Rep K H (.str x) (.str x)
  | ty (n : String) : Rep K H (.ty n) (.ty n)
  | loc (a : Addr) : Rep K H (.ref a) (.loc a)
  | raw (v : V) : Rep K H v (.raw v)
  | tup {a : Addr} {vs : List V} {xs : List PV} : H a = some (.tup vs) → Reps K H vs xs → Rep K H (.ref a) (.tup xs)
  | ktup {a : Addr} {vs : List V} {xs : List PV} : PT K H a vs → Reps K H vs xs → Rep K H (.ref a) (.ktup xs)
  | kl {a : Addr} {vs : List V} {xs : List PV} : CL K H a vs → Reps K H vs xs → Rep K H (.ref a) (.kl xs)
inductive Reps (K : PySem.W.Frag) (H : Hp) : List V → List PV → Prop
  | nil : Reps K H [] []
  | cons {v : V} {x : PV} {vs : List V} {xs : List PV} : Rep K H v x → Reps K H vs xs → Reps K H (v :: vs) (x :: xs)
end

/-- what never changes -/
def Stays : HO → Prop
  | .tup _ => True
  | .frz _ (.tup _) => True
  | .frz _ (.lst _) => True
  | _ => False
def Tx (H H' : Hp) : Prop := ∀ b u, Stays u → H b = some u → H' b = some u
theorem Tx.refl (H : Hp) : Tx H H := fun _ _ _ h => h
theorem Tx.trans {H H1 H2 : Hp} (a : Tx H H1) (b : Tx H1 H2) : Tx H H2 := fun c u s h => b c u s (a c u s h)
theorem Tx.at {H : Hp} {p : Addr} {u u0 : HO} (h : H p = some u0) (n : Stays u0 → False) : Tx H (upd H p u) := fun b v s e => by
  rw [upd_ne (fun z => n (by rw [z, h] at e; cases e; exact s))]
  exact e
theorem Tx.sq {K : PySem.W.Frag} {H H' : Hp} {a : Addr} {xs : List V} (e : Tx H H') (h : SqT K H a xs) : SqT K H' a xs := by
  rcases h with (h | ⟨o, h⟩) | h
  · exact .inl (.inl (e _ _ trivial h))
  · exact .inl (.inr ⟨o, e _ _ trivial h⟩)
  · exact .inr h
theorem CL.mono {K : PySem.W.Frag} {H H' : Hp} {a : Addr} {xs : List V} (e : Tx H H') (h : CL K H a xs) : CL K H' a xs := by
  rcases h with ⟨o, h⟩ | h
  · exact .inl ⟨o, e _ _ trivial h⟩
  · exact .inr h
theorem PT.mono {K : PySem.W.Frag} {H H' : Hp} {a : Addr} {xs : List V} (e : Tx H H') (h : PT K H a xs) : PT K H' a xs := by
  rcases h with h | ⟨o, h1, h2⟩
  · exact .inl h
  · exact .inr ⟨o, e _ _ trivial h1, h2⟩
section
variable {K : PySem.W.Frag} {H H' : Hp}
mutual
theorem Rep.mono (e : Tx H H') : ∀ {v : V} {x : PV}, Rep K H v x → Rep K H' v x
  | _, _, .non => .non
  | _, _, .bl b => .bl b
  | _, _, .int i => .int i
  | _, _, .str x => .str x
  | _, _, .ty n => .ty n
  | _, _, .loc a => .loc a
  | _, _, .raw v => .raw v
  | _, _, .tup h r => .tup (e _ _ trivial h) (Reps.mono e r)
  | _, _, .ktup h r => .ktup (PT.mono e h) (Reps.mono e r)
  | _, _, .kl h r => .kl (CL.mono e h) (Reps.mono e r)
theorem Reps.mono (e : Tx H H') : ∀ {vs : List V} {xs : List PV}, Reps K H vs xs → Reps K H' vs xs
  | _, _, .nil => .nil
  | _, _, .cons h r => .cons (Rep.mono e h) (Reps.mono e r)
end
theorem Reps.length : ∀ {vs : List V} {xs : List PV}, Reps K H vs xs → vs.length = xs.length
  | _, _, .nil => rfl
  | _, _, .cons _ r => congrArg (· + 1) (Reps.length r)
theorem Reps.get : ∀ {vs : List V} {xs : List PV} {i : Nat} {x : PV}, Reps K H vs xs → xs[i]? = some x → ∃ v, vs[i]? = some v ∧ Rep K H v x
  | _, _, _, _, .nil, e => by simp at e
  | _, _, 0, _, .cons h _, e => by simp at e; subst e; exact ⟨_, rfl, h⟩
  | _, _, i + 1, x, .cons _ r, e => by
    obtain ⟨v, h1, h2⟩ := Reps.get (i := i) (x := x) r (by simpa using e)
    exact ⟨v, by simpa using h1, h2⟩
theorem Reps.getV : ∀ {vs : List V} {xs : List PV} {i : Nat} {v : V}, Reps K H vs xs → vs[i]? = some v → ∃ x, xs[i]? = some x ∧ Rep K H v x
  | _, _, _, _, .nil, e => by simp at e
  | _, _, 0, _, .cons h _, e => by simp at e; subst e; exact ⟨_, rfl, h⟩
  | _, _, i + 1, v, .cons _ r, e => by
    obtain ⟨x, h1, h2⟩ := Reps.getV (i := i) (v := v) r (by simpa using e)
    exact ⟨x, by simpa using h1, h2⟩
theorem Reps.append : ∀ {vs ws : List V} {xs ys : List PV}, Reps K H vs xs → Reps K H ws ys → Reps K H (vs ++ ws) (xs ++ ys)
  | _, _, _, _, .nil, s => s
  | _, _, _, _, .cons h r, s => .cons h (Reps.append r s)
theorem Reps.take : ∀ {vs : List V} {xs : List PV} (n : Nat), Reps K H vs xs → Reps K H (vs.take n) (xs.take n)
  | _, _, 0, _ => .nil
  | _, _, _ + 1, .nil => .nil
  | _, _, n + 1, .cons h r => .cons h (Reps.take n r)
theorem Reps.drop : ∀ {vs : List V} {xs : List PV} (n : Nat), Reps K H vs xs → Reps K H (vs.drop n) (xs.drop n)
  | _, _, 0, r => r
  | _, _, _ + 1, .nil => .nil
  | _, _, n + 1, .cons _ r => Reps.drop n r
theorem Reps.set {v : V} {x : PV} (h : Rep K H v x) : ∀ {vs : List V} {xs : List PV} (i : Nat), Reps K H vs xs → Reps K H (vs.set i v) (xs.set i x)
  | _, _, _, .nil => .nil
  | _, _, 0, .cons _ r => .cons h r
  | _, _, i + 1, .cons q r => .cons q (Reps.set h i r)
theorem Reps.reverse {vs : List V} {xs : List PV} (r : Reps K H vs xs) : Reps K H vs.reverse xs.reverse := by
  induction vs generalizing xs with
  | nil => cases r; exact .nil
  | cons v vs ih =>
    cases r with
    | cons h r => rw [List.reverse_cons, List.reverse_cons]; exact (ih r).append (.cons h .nil)
theorem Reps.dropLast {vs : List V} {xs : List PV} (r : Reps K H vs xs) : Reps K H vs.dropLast xs.dropLast := by
  rw [List.dropLast_eq_take, List.dropLast_eq_take, r.length]
  exact r.take _
theorem Reps.nil_iff {vs : List V} {xs : List PV} (r : Reps K H vs xs) : vs = [] ↔ xs = [] := by
  cases r <;> simp
end

/-- a mutable object -/
inductive MO where
  | lst (xs : List PV)
  /-- a list that is only read (the script; a list while it is walked) -/
  | rol (xs : List PV)
  | dk (kvs : List (Key × PV))
  /-- a dict that is only read (while it is walked) -/
  | rdk (kvs : List (Key × PV))
  /-- a thing of another kind; its keys -/
  | oth (φ : List Addr → Heap → Prop) (ks : List PV)
  | dt (kvs : List (List Key × PV))
  | ins (C : Addr) (fs : List (Str × PV))
abbrev Mp := Addr → Option MO
def mset (S : Mp) (a : Addr) (o : Option MO) : Mp := fun b => if b = a then o else S b
theorem mset_same {S : Mp} {a : Addr} {o : Option MO} : mset S a o a = o := by unfold mset; rw [if_pos rfl]
theorem mset_ne {S : Mp} {a b : Addr} {o : Option MO} (h : b ≠ a) : mset S a o b = S b := by unfold mset; rw [if_neg h]
theorem mset_mset {S : Mp} {a : Addr} {o u : Option MO} : mset (mset S a o) a u = mset S a u := by
  funext b; unfold mset; split <;> rfl
theorem mset_self {S : Mp} {a : Addr} {o : Option MO} (h : S a = o) : mset S a o = S := by
  funext b; unfold mset; split
  · rename_i e; rw [e, h]
  · rfl

section
variable (K : PySem.W.Frag) (H : Hp)
/-- pairs of a dict: the same keys, the values' trees -/
inductive RKV {κ : Type} : List (κ × V) → List (κ × PV) → Prop
  | nil : RKV [] []
  | cons {k : κ} {v : V} {x : PV} {vs : List (κ × V)} {xs : List (κ × PV)} : Rep K H v x → RKV vs xs → RKV ((k, v) :: vs) ((k, x) :: xs)
def MoOk (a : Addr) : MO → Prop
  | .lst xs => ∃ vs, H a = some (.lst vs) ∧ Reps K H vs xs
  | .rol xs => ∃ vs, (H a = some (.lst vs) ∨ ∃ o, H a = some (.frz o (.lst vs))) ∧ Reps K H vs xs
  | .rdk kvs => ∃ o us, H a = some (.frz o (.dK us)) ∧ RKV K H us kvs
  | .oth φ ks => ∃ bs : List Addr, H a = some (.ext (φ bs)) ∧ Reps K H (bs.map V.ref) ks
  | .dk kvs => ∃ us, H a = some (.dK us) ∧ RKV K H us kvs
  | .dt kvs => ∃ us, H a = some (.dT us) ∧ RKV K H us kvs
  | .ins C fs => ∃ dx us, H a = some (.ins C dx us) ∧ RKV K H us fs
def Mt (S : Mp) : Prop := ∀ a o, S a = some o → MoOk K H a o
def Env (σ : St) (ρ : List (Option PV)) : Prop := σ.length = ρ.length ∧ ∀ (i : Nat) (x : PV), ρ[i]? = some (some x) → ∃ v, σ[i]? = some (some v) ∧ Rep K H v x
end
/-- outside the view, or only read -/
def Ro : Option MO → Prop
  | none => True
  | some (.rol _) => True
  | some (.rdk _) => True
  | _ => False
/-- what stands outside the view or is only read stays so -/
def Fr (S : Mp) (H : Hp) (S' : Mp) (H' : Hp) : Prop := ∀ a o, H a = some o → Ro (S a) → H' a = some o ∧ S' a = S a

section
variable {K : PySem.W.Frag} {H H' H1 H2 : Hp} {S S' S1 S2 : Mp} {σ : St} {ρ : List (Option PV)}
theorem RKV.mono {κ : Type} (e : Tx H H') : ∀ {us : List (κ × V)} {kvs : List (κ × PV)}, RKV K H us kvs → RKV K H' us kvs
  | _, _, .nil => .nil
  | _, _, .cons h r => .cons (h.mono e) (RKV.mono e r)
theorem Fr.refl : Fr S H S H := fun _ _ h n => ⟨h, rfl⟩
theorem Fr.trans (a : Fr S H S1 H1) (b : Fr S1 H1 S2 H2) : Fr S H S2 H2 := fun c o h n =>
  let ⟨h1, n1⟩ := a c o h n
  let ⟨h2, n2⟩ := b c o h1 (by rw [n1]; exact n)
  ⟨h2, n2.trans n1⟩
theorem Fr.out (f : Fr S H S' H') {a : Addr} {o : HO} (h : H a = some o) (n : S a = none) : H' a = some o ∧ S' a = none :=
  let ⟨h1, n1⟩ := f a o h (by rw [n]; exact trivial)
  ⟨h1, n1.trans n⟩
theorem MoOk.no_stay {a : Addr} {o : MO} (h : MoOk K H a o) (hr : Ro (some o) → False) {u : HO} (e : H a = some u) : Stays u → False := by
  cases o with
  | lst xs => obtain ⟨vs, q, _⟩ := h; rw [q] at e; cases e; exact id
  | rol xs => exact (hr trivial).elim
  | rdk xs => exact (hr trivial).elim
  | oth φ xs => obtain ⟨vs, q, _⟩ := h; rw [q] at e; cases e; exact id
  | dk kvs => obtain ⟨vs, q, _⟩ := h; rw [q] at e; cases e; exact id
  | dt kvs => obtain ⟨vs, q, _⟩ := h; rw [q] at e; cases e; exact id
  | ins C fs => obtain ⟨dx, vs, q, _⟩ := h; rw [q] at e; cases e; exact id
instance roDec (o : Option MO) : Decidable (Ro o) := by
  cases o with
  | none => exact isTrue trivial
  | some o => cases o <;> first | exact isTrue trivial | exact isFalse id
theorem MoOk.there {a : Addr} {o : MO} (h : MoOk K H a o) : ∃ u, H a = some u := by
  cases o with
  | lst xs => obtain ⟨vs, e, _⟩ := h; exact ⟨_, e⟩
  | rol xs => obtain ⟨vs, e | ⟨u, e⟩, _⟩ := h <;> exact ⟨_, e⟩
  | rdk xs => obtain ⟨u, vs, e, _⟩ := h; exact ⟨_, e⟩
  | oth φ xs => obtain ⟨vs, e, _⟩ := h; exact ⟨_, e⟩
  | dk kvs => obtain ⟨vs, e, _⟩ := h; exact ⟨_, e⟩
  | dt kvs => obtain ⟨vs, e, _⟩ := h; exact ⟨_, e⟩
  | ins C fs => obtain ⟨dx, vs, e, _⟩ := h; exact ⟨_, e⟩
theorem MoOk.mono {a : Addr} {o : MO} (e : Tx H H') (s : H' a = H a) (h : MoOk K H a o) : MoOk K H' a o := by
  cases o with
  | lst xs => obtain ⟨vs, q, r⟩ := h; exact ⟨vs, s.trans q, r.mono e⟩
  | rol xs => obtain ⟨vs, q, r⟩ := h; exact ⟨vs, by rw [s]; exact q, r.mono e⟩
  | rdk xs => obtain ⟨u, vs, q, r⟩ := h; exact ⟨u, vs, s.trans q, r.mono e⟩
  | oth φ xs => obtain ⟨vs, q, r⟩ := h; exact ⟨vs, s.trans q, r.mono e⟩
  | dk kvs => obtain ⟨vs, q, r⟩ := h; exact ⟨vs, s.trans q, r.mono e⟩
  | dt kvs => obtain ⟨vs, q, r⟩ := h; exact ⟨vs, s.trans q, r.mono e⟩
  | ins C fs => obtain ⟨dx, vs, q, r⟩ := h; exact ⟨dx, vs, s.trans q, r.mono e⟩
theorem Mt.freeS (m : Mt K H S) {a : Addr} (h : H a = none) : S a = none := by
  cases e : S a with
  | none => rfl
  | some o =>
    obtain ⟨u, q⟩ := (m a o e).there
    rw [h] at q
    cases q
theorem Fr.tx (m : Mt K H S) (f : Fr S H S' H') : Tx H H' := fun b u s h => by
  by_cases r : Ro (S b)
  · exact (f b u h r).1
  · cases e : S b with
    | none => rw [e] at r; exact absurd trivial r
    | some o =>
      rw [e] at r
      exact ((m b o e).no_stay r h s).elim
theorem Env.mono (e : Tx H H') (h : Env K H σ ρ) : Env K H' σ ρ := ⟨h.1, fun i x q =>
  let ⟨v, a, b⟩ := h.2 i x q
  ⟨v, a, b.mono e⟩⟩
theorem getset {α : Type} {l : List α} {j i : Nat} {x y : α} (q : (l.set j x)[i]? = some y) : (i = j ∧ y = x ∧ j < l.length) ∨ (i ≠ j ∧ l[i]? = some y) := by
  rw [List.getElem?_set] at q
  by_cases hij : j = i
  · rw [if_pos hij] at q
    split at q
    · rename_i hl; exact .inl ⟨hij.symm, (Option.some.inj q).symm, hl⟩
    · cases q
  · rw [if_neg hij] at q
    exact .inr ⟨fun e => hij e.symm, q⟩
theorem Env.set {v : V} {x : PV} (j : Nat) (r : Rep K H v x) (h : Env K H σ ρ) : Env K H (σ.set j (some v)) (ρ.set j (some x)) := by
  refine ⟨by simp [h.1], fun i y q => ?_⟩
  rcases getset q with ⟨rfl, e, hl⟩ | ⟨hne, q⟩
  · cases e
    refine ⟨v, ?_, r⟩
    rw [List.getElem?_set, if_pos rfl, if_pos (by rw [h.1]; exact hl)]
  · obtain ⟨u, a, b⟩ := h.2 i y q
    refine ⟨u, ?_, b⟩
    rw [List.getElem?_set, if_neg (fun e => hne e.symm)]
    exact a
theorem Env.unset (j : Nat) (h : Env K H σ ρ) : Env K H (σ.set j none) (ρ.set j none) := by
  refine ⟨by simp [h.1], fun i y q => ?_⟩
  rcases getset q with ⟨rfl, e, hl⟩ | ⟨hne, q⟩
  · cases e
  · obtain ⟨u, a, b⟩ := h.2 i y q
    refine ⟨u, ?_, b⟩
    rw [List.getElem?_set, if_neg (fun e => hne e.symm)]
    exact a
/-- a new object -/
theorem Mt.new {p : Addr} {u : HO} {o : Option MO} (m : Mt K H S) (hp : H p = none) (ok : ∀ o', o = some o' → MoOk K (upd H p u) p o') : Mt K (upd H p u) (mset S p o) := fun a q e => by
  have tx : Tx H (upd H p u) := fun b u s h => by rw [upd_ne (ne_of_none h hp)]; exact h
  by_cases h : a = p
  · subst h; rw [mset_same] at e; exact ok q e
  · rw [mset_ne h] at e; exact (m a q e).mono tx (upd_ne h)
theorem Fr.new {p : Addr} {u : HO} {o : Option MO} (hp : H p = none) : Fr S H (mset S p o) (upd H p u) := fun a q h n => by
  have ne := ne_of_none h hp
  rw [upd_ne ne, mset_ne ne]
  exact ⟨h, rfl⟩
theorem Mt.newT {p : Addr} {xs : List V} (m : Mt K H S) (hp : H p = none) : Mt K (upd H p (.tup xs)) S := fun a q e => by
  have tx : Tx H (upd H p (.tup xs)) := fun b u s h => by rw [upd_ne (ne_of_none h hp)]; exact h
  obtain ⟨u, h⟩ := (m a q e).there
  exact (m a q e).mono tx (upd_ne (ne_of_none h hp))
theorem Mt.newU {p : Addr} {u : HO} (m : Mt K H S) (hp : H p = none) : Mt K (upd H p u) S := fun a q e => by
  have tx : Tx H (upd H p u) := fun b u s h => by rw [upd_ne (ne_of_none h hp)]; exact h
  obtain ⟨u, h⟩ := (m a q e).there
  exact (m a q e).mono tx (upd_ne (ne_of_none h hp))
theorem Fr.newT {p : Addr} {u : HO} (hp : H p = none) : Fr S H S (upd H p u) := fun a q h n => by
  have ne := ne_of_none h hp
  rw [upd_ne ne]
  exact ⟨h, rfl⟩
theorem Tx.new {p : Addr} {u : HO} (hp : H p = none) : Tx H (upd H p u) :=
  fun b u s h => by rw [upd_ne (ne_of_none h hp)]; exact h
/-- an object of the view is changed -/
theorem Tx.put {p : Addr} {o : MO} {u : HO} (ok : MoOk K H p o) (hr : Ro (some o) → False := by exact id) : Tx H (upd H p u) := by
  obtain ⟨u0, h⟩ := ok.there
  exact Tx.at h (ok.no_stay hr h)
theorem Mt.put {p : Addr} {o : MO} {u : HO} {o' : Option MO} (m : Mt K H S) (hp : S p = some o) (ok : ∀ q, o' = some q → MoOk K (upd H p u) p q) (hr : Ro (some o) → False := by exact id) : Mt K (upd H p u) (mset S p o') := fun a q e => by
  by_cases h : a = p
  · subst h; rw [mset_same] at e; exact ok q e
  · rw [mset_ne h] at e; exact (m a q e).mono (Tx.put (m p o hp) hr) (upd_ne h)
theorem Fr.put {p : Addr} {o : MO} {u : HO} {o' : Option MO} (hp : S p = some o) (hr : Ro (some o) → False := by exact id) : Fr S H (mset S p o') (upd H p u) := fun a q h n => by
  have ne : a ≠ p := fun e => by rw [e, hp] at n; exact hr n
  rw [upd_ne ne, mset_ne ne]
  exact ⟨h, rfl⟩
/-- an object is seen otherwise -/
theorem Mt.seen {p : Addr} {o' : MO} (m : Mt K H S) (ok : MoOk K H p o') : Mt K H (mset S p (some o')) := fun a q e => by
  by_cases h : a = p
  · subst h; rw [mset_same] at e; cases e; exact ok
  · rw [mset_ne h] at e; exact m a q e
theorem Fr.seen {p : Addr} {o : MO} {o' : Option MO} (hp : S p = some o) (hr : Ro (some o) → False := by exact id) : Fr S H (mset S p o') H := fun a q h n => by
  have ne : a ≠ p := fun e => by rw [e, hp] at n; exact hr n
  rw [mset_ne ne]
  exact ⟨h, rfl⟩
end
end DL

namespace DL
open PySem L2

abbrev DSt := List (Option PV)
abbrev DK := PV → Mp → Prop
abbrev DE := DSt → Mp → DK → Prop
abbrev DT := DSt → Mp → (Bool → Mp → Prop) → Prop
abbrev DA := DSt → Mp → (List PV → Mp → Prop) → Prop
abbrev D2 := PV → PV → Mp → DK → Prop
abbrev D1 := PV → Mp → DK → Prop
abbrev DC := List PV → Mp → DK → Prop
abbrev DM := PV → List PV → Mp → DK → Prop
abbrev DG := PV → DSt → Mp → (DSt → Mp → Prop) → Prop
abbrev DGs := List PV → DSt → Mp → (DSt → Mp → Prop) → Prop
abbrev DI := DSt → Mp → (List PV → Mp → List (Addr × MO) → Prop) → Prop
structure DEnds where
  nx : DSt → Mp → Prop
  rt : DK
  bk : DSt → Mp → Prop := fun _ _ => False
  ct : DSt → Mp → Prop := fun _ _ => False
abbrev DS := DEnds → DSt → Mp → Prop

class SimE (K : PySem.W.Frag) (t : TE) (d : outParam DE) : Prop where
  sim : ∀ {σ : St} {ρ : DSt} {H : Hp} {S : Mp} {Q : VK} {Q' : DK}, Env K H σ ρ → Mt K H S → d ρ S Q' → (∀ v x H' S', Fr S H S' H' → Mt K H' S' → Rep K H' v x → Q' x S' → Q v H') → t σ H Q
class SimT (K : PySem.W.Frag) (t : TT) (d : outParam DT) : Prop where
  sim : ∀ {σ : St} {ρ : DSt} {H : Hp} {S : Mp} {Q : Bool → Hp → Prop} {Q' : Bool → Mp → Prop}, Env K H σ ρ → Mt K H S → d ρ S Q' → (∀ b H' S', Fr S H S' H' → Mt K H' S' → Q' b S' → Q b H') → t σ H Q
class SimA (K : PySem.W.Frag) (t : TA) (d : outParam DA) : Prop where
  sim : ∀ {σ : St} {ρ : DSt} {H : Hp} {S : Mp} {Q : List V → Hp → Prop} {Q' : List PV → Mp → Prop}, Env K H σ ρ → Mt K H S → d ρ S Q' → (∀ vs xs H' S', Fr S H S' H' → Mt K H' S' → Reps K H' vs xs → Q' xs S' → Q vs H') → t σ H Q
class SimR (K : PySem.W.Frag) (r : R2) (d : outParam D2) : Prop where
  sim : ∀ {v u : V} {x y : PV} {H : Hp} {S : Mp} {Q : VK} {Q' : DK}, Rep K H v x → Rep K H u y → Mt K H S → d x y S Q' → (∀ v x H' S', Fr S H S' H' → Mt K H' S' → Rep K H' v x → Q' x S' → Q v H') → r v u H Q
class SimU (K : PySem.W.Frag) (r : V → Hp → VK → Prop) (d : outParam D1) : Prop where
  sim : ∀ {v : V} {x : PV} {H : Hp} {S : Mp} {Q : VK} {Q' : DK}, Rep K H v x → Mt K H S → d x S Q' → (∀ v x H' S', Fr S H S' H' → Mt K H' S' → Rep K H' v x → Q' x S' → Q v H') → r v H Q
class SimC (K : PySem.W.Frag) (r : List V → Hp → VK → Prop) (d : outParam DC) : Prop where
  sim : ∀ {vs : List V} {xs : List PV} {H : Hp} {S : Mp} {Q : VK} {Q' : DK}, Reps K H vs xs → Mt K H S → d xs S Q' → (∀ v x H' S', Fr S H S' H' → Mt K H' S' → Rep K H' v x → Q' x S' → Q v H') → r vs H Q
class SimM (K : PySem.W.Frag) (r : V → List V → Hp → VK → Prop) (d : outParam DM) : Prop where
  sim : ∀ {v : V} {x : PV} {vs : List V} {xs : List PV} {H : Hp} {S : Mp} {Q : VK} {Q' : DK}, Rep K H v x → Reps K H vs xs → Mt K H S → d x xs S Q' → (∀ v x H' S', Fr S H S' H' → Mt K H' S' → Rep K H' v x → Q' x S' → Q v H') → r v vs H Q
/-- a target; is: the slots that it stores -/
class SimG (K : PySem.W.Frag) (g : TG) (d : outParam DG) (is : outParam (List Nat)) : Prop where
  sim : ∀ {v : V} {x : PV} {σ : St} {ρ : DSt} {H : Hp} {S : Mp} {Q : St → Hp → Prop} {Q' : DSt → Mp → Prop}, Rep K H v x → Env K H σ ρ → Mt K H S → d x ρ S Q' →
    (∀ σ' ρ' H' S', Fr S H S' H' → Mt K H' S' → Env K H' σ' ρ' → σ'.length = σ.length → (∀ i, i ∉ is → σ'[i]? = σ[i]?) → Q' ρ' S' → Q σ' H') → g v σ H Q
class SimGs (K : PySem.W.Frag) (g : TGs) (d : outParam DGs) (is : outParam (List Nat)) : Prop where
  sim : ∀ {vs : List V} {xs : List PV} {σ : St} {ρ : DSt} {H : Hp} {S : Mp} {Q : St → Hp → Prop} {Q' : DSt → Mp → Prop}, Reps K H vs xs → Env K H σ ρ → Mt K H S → d xs ρ S Q' →
    (∀ σ' ρ' H' S', Fr S H S' H' → Mt K H' S' → Env K H' σ' ρ' → σ'.length = σ.length → (∀ i, i ∉ is → σ'[i]? = σ[i]?) → Q' ρ' S' → Q σ' H') → g vs σ H Q
/-- the ends of a statement -/
structure EndsTo (K : PySem.W.Frag) (S : Mp) (H : Hp) (D : Ends) (D' : DEnds) : Prop where
  nx : ∀ σ' ρ' H' S', Fr S H S' H' → Mt K H' S' → Env K H' σ' ρ' → D'.nx ρ' S' → D.nx σ' H'
  rt : ∀ v x H' S', Fr S H S' H' → Mt K H' S' → Rep K H' v x → D'.rt x S' → D.rt v H'
  bk : ∀ σ' ρ' H' S', Fr S H S' H' → Mt K H' S' → Env K H' σ' ρ' → D'.bk ρ' S' → D.bk σ' H'
  ct : ∀ σ' ρ' H' S', Fr S H S' H' → Mt K H' S' → Env K H' σ' ρ' → D'.ct ρ' S' → D.ct σ' H'
theorem EndsTo.step {K : PySem.W.Frag} {S S1 : Mp} {H H1 : Hp} {D : Ends} {D' : DEnds} (e : EndsTo K S H D D') (f : Fr S H S1 H1) : EndsTo K S1 H1 D D' :=
  ⟨fun σ' ρ' H' S' g => e.nx σ' ρ' H' S' (f.trans g), fun v x H' S' g => e.rt v x H' S' (f.trans g), fun σ' ρ' H' S' g => e.bk σ' ρ' H' S' (f.trans g), fun σ' ρ' H' S' g => e.ct σ' ρ' H' S' (f.trans g)⟩
class SimS (K : PySem.W.Frag) (t : TS) (d : outParam DS) : Prop where
  sim : ∀ {σ : St} {ρ : DSt} {H : Hp} {S : Mp} {D : Ends} {D' : DEnds}, Env K H σ ρ → Mt K H S → d D' ρ S → EndsTo K S H D D' → t D σ H

section
variable {K : PySem.W.Frag}
/-- a scalar value's tree -/
def sc : V → PV
  | .non => .non | .bl b => .bl b | .int i => .int i | .str x => .str x | .ref a => .loc a | .ty n => .ty n | v => .raw v
theorem rep_sc (H : Hp) (v : V) : Rep K H v (sc v) := by
  cases v <;> first | exact .non | exact .bl _ | exact .int _ | exact .str _ | exact .loc _ | exact .ty _ | exact .raw _
theorem sc_kV (k : Key) (H : Hp) : Rep K H (kV k) (sc (kV k)) := rep_sc H _

def getv (ρ : DSt) (i : Nat) : Option PV := match ρ[i]? with
  | some o => o
  | none => none
def dVar (i : Nat) : DE := fun ρ S Q => match getv ρ i with
  | some x => Q x S
  | none => False
instance {i : Nat} : SimE K (tVar i) (dVar i) where
  sim {σ ρ H S Q Q'} e m h k := by
    unfold dVar getv at h
    cases q : ρ[i]? with
    | none => rw [q] at h; exact h.elim
    | some o =>
      cases o with
      | none => rw [q] at h; exact h.elim
      | some x =>
        rw [q] at h
        obtain ⟨v, a, b⟩ := e.2 i x q
        exact ⟨v, a, k v x H S Fr.refl m b h⟩
def dC (x : PV) : DE := fun _ S Q => Q x S
instance {v : V} : SimE K (tC v) (dC (sc v)) where
  sim {σ ρ H S Q Q'} e m h k := k v _ H S Fr.refl m (rep_sc H v) h
/-- a constant that is a written tuple -/
def tCS (a : Addr) (x : PV) : TE := tC (.ref a)
class SRep (K : PySem.W.Frag) (a : Addr) (x : PV) : Prop where
  rep : ∀ H, Rep K H (.ref a) x
instance {a : Addr} {x : PV} [h : SRep K a x] : SimE K (tCS a x) (dC x) where
  sim {σ ρ H S Q Q'} e m q k := k _ _ H S Fr.refl m (h.rep H) q

def dOp (r : D2) (a b : DE) : DE := fun ρ S Q => a ρ S fun x S1 => b ρ S1 fun y S2 => r x y S2 Q
instance {r : R2} {dr : D2} {ta tb : TE} {da db : DE} [hr : SimR K r dr] [ha : SimE K ta da] [hb : SimE K tb db] : SimE K (tOp r ta tb) (dOp dr da db) where
  sim {σ ρ H S Q Q'} e m h k := ha.sim e m h fun v x H1 S1 f1 m1 r1 q1 => hb.sim (e.mono (f1.tx m)) m1 q1 fun u y H2 S2 f2 m2 r2 q2 =>
    hr.sim (r1.mono (f2.tx m1)) r2 m2 q2 fun w z H3 S3 f3 m3 r3 q3 => k w z H3 S3 ((f1.trans f2).trans f3) m3 r3 q3
def dUn (r : D1) (a : DE) : DE := fun ρ S Q => a ρ S fun x S1 => r x S1 Q
instance {r : V → Hp → VK → Prop} {dr : D1} {ta : TE} {da : DE} [hr : SimU K r dr] [ha : SimE K ta da] : SimE K (tUn r ta) (dUn dr da) where
  sim {σ ρ H S Q Q'} e m h k := ha.sim e m h fun v x H1 S1 f1 m1 r1 q1 => hr.sim r1 m1 q1 fun w z H3 S3 f3 m3 r3 q3 => k w z H3 S3 (f1.trans f3) m3 r3 q3
def dTest (a : DE) : DT := fun ρ S Q => a ρ S fun x S1 => match x with
  | .bl b => Q b S1
  | _ => False
theorem dTest_elim {x : PV} {S : Mp} {Q : Bool → Mp → Prop} (h : match x with | .bl b => Q b S | _ => False) : ∃ b, x = .bl b ∧ Q b S := by
  cases x <;> first | exact h.elim | exact ⟨_, rfl, h⟩
theorem rep_bl {H : Hp} {v : V} {b : Bool} (r : Rep K H v (.bl b)) : v = .bl b := by cases r; rfl
theorem rep_int {H : Hp} {v : V} {b : Int} (r : Rep K H v (.int b)) : v = .int b := by cases r; rfl
theorem rep_str {H : Hp} {v : V} {b : Str} (r : Rep K H v (.str b)) : v = .str b := by cases r; rfl
theorem rep_non {H : Hp} {v : V} (r : Rep K H v .non) : v = .non := by cases r; rfl
theorem rep_loc {H : Hp} {v : V} {a : Addr} (r : Rep K H v (.loc a)) : v = .ref a := by cases r; rfl
theorem rep_ty {H : Hp} {v : V} {a : String} (r : Rep K H v (.ty a)) : v = .ty a := by cases r; rfl
theorem rep_raw {H : Hp} {v u : V} (r : Rep K H v (.raw u)) : v = u := by cases r; rfl
theorem rep_tup {H : Hp} {v : V} {xs : List PV} (r : Rep K H v (.tup xs)) : ∃ a vs, v = .ref a ∧ H a = some (.tup vs) ∧ Reps K H vs xs := by
  cases r with
  | tup h r => exact ⟨_, _, rfl, h, r⟩
theorem rep_ktup {H : Hp} {v : V} {xs : List PV} (r : Rep K H v (.ktup xs)) : ∃ a vs, v = .ref a ∧ PT K H a vs ∧ Reps K H vs xs := by
  cases r with
  | ktup h r => exact ⟨_, _, rfl, h, r⟩
theorem rep_kl {H : Hp} {v : V} {xs : List PV} (r : Rep K H v (.kl xs)) : ∃ a vs, v = .ref a ∧ CL K H a vs ∧ Reps K H vs xs := by
  cases r with
  | kl h r => exact ⟨_, _, rfl, h, r⟩
instance {ta : TE} {da : DE} [ha : SimE K ta da] : SimT K (tTest ta) (dTest da) where
  sim {σ ρ H S Q Q'} e m h k := ha.sim e m h fun v x H1 S1 f1 m1 r1 q1 => by
    obtain ⟨b, rfl, q⟩ := dTest_elim q1
    exact ⟨b, rep_bl r1, k b H1 S1 f1 m1 q⟩
instance {ta : TE} {da : DE} [ha : SimE K ta da] : SimT K (tB ta) (dTest da) where
  sim {σ ρ H S Q Q'} e m h k := ha.sim e m h fun v x H1 S1 f1 m1 r1 q1 => by
    obtain ⟨b, rfl, q⟩ := dTest_elim q1
    exact ⟨b, rep_bl r1, k b H1 S1 f1 m1 q⟩
def dAnd (t u : DT) : DT := fun ρ S Q => t ρ S fun c S1 => if c = true then u ρ S1 Q else Q false S1
def dOr (t u : DT) : DT := fun ρ S Q => t ρ S fun c S1 => if c = true then Q true S1 else u ρ S1 Q
def dNot (t : DT) : DT := fun ρ S Q => t ρ S fun c S1 => Q (!c) S1
instance {t u : TT} {dt du : DT} [ht : SimT K t dt] [hu : SimT K u du] : SimT K (tAnd t u) (dAnd dt du) where
  sim {σ ρ H S Q Q'} e m h k := ht.sim e m h fun b H1 S1 f1 m1 q1 => by
    cases b with
    | true => exact hu.sim (e.mono (f1.tx m)) m1 q1 fun c H2 S2 f2 m2 q2 => k c H2 S2 (f1.trans f2) m2 q2
    | false => exact k false H1 S1 f1 m1 q1
instance {t u : TT} {dt du : DT} [ht : SimT K t dt] [hu : SimT K u du] : SimT K (tOr t u) (dOr dt du) where
  sim {σ ρ H S Q Q'} e m h k := ht.sim e m h fun b H1 S1 f1 m1 q1 => by
    cases b with
    | true => exact k true H1 S1 f1 m1 q1
    | false => exact hu.sim (e.mono (f1.tx m)) m1 q1 fun c H2 S2 f2 m2 q2 => k c H2 S2 (f1.trans f2) m2 q2
instance {t : TT} {dt : DT} [ht : SimT K t dt] : SimT K (tNot t) (dNot dt) where
  sim {σ ρ H S Q Q'} e m h k := ht.sim e m h fun b H1 S1 f1 m1 q1 => k _ H1 S1 f1 m1 q1
def dAndV (a b : DE) : DE := fun ρ S Q => a ρ S fun x S1 => match x with
  | .bl c => if c = true then b ρ S1 Q else Q (.bl false) S1
  | _ => False
def dOrV (a b : DE) : DE := fun ρ S Q => a ρ S fun x S1 => match x with
  | .bl c => if c = true then Q (.bl true) S1 else b ρ S1 Q
  | _ => False
def dNotV (a : DE) : DE := fun ρ S Q => a ρ S fun x S1 => match x with
  | .bl c => Q (.bl (!c)) S1
  | _ => False
theorem bl_elim {x : PV} {R : Bool → Prop} (h : match x with | .bl c => R c | _ => False) : ∃ b, x = .bl b ∧ R b := by
  cases x <;> first | exact h.elim | exact ⟨_, rfl, h⟩
instance {ta tb : TE} {da db : DE} [ha : SimE K ta da] [hb : SimE K tb db] : SimE K (tAndV ta tb) (dAndV da db) where
  sim {σ ρ H S Q Q'} e m h k := ha.sim e m h fun v x H1 S1 f1 m1 r1 q1 => by
    obtain ⟨b, rfl, q⟩ := bl_elim q1
    refine ⟨b, rep_bl r1, ?_⟩
    cases b with
    | true => exact hb.sim (e.mono (f1.tx m)) m1 q fun w z H2 S2 f2 m2 r2 q2 => k w z H2 S2 (f1.trans f2) m2 r2 q2
    | false => exact k _ _ H1 S1 f1 m1 (.bl false) q
instance {ta tb : TE} {da db : DE} [ha : SimE K ta da] [hb : SimE K tb db] : SimE K (tOrV ta tb) (dOrV da db) where
  sim {σ ρ H S Q Q'} e m h k := ha.sim e m h fun v x H1 S1 f1 m1 r1 q1 => by
    obtain ⟨b, rfl, q⟩ := bl_elim q1
    refine ⟨b, rep_bl r1, ?_⟩
    cases b with
    | true => exact k _ _ H1 S1 f1 m1 (.bl true) q
    | false => exact hb.sim (e.mono (f1.tx m)) m1 q fun w z H2 S2 f2 m2 r2 q2 => k w z H2 S2 (f1.trans f2) m2 r2 q2
instance {ta : TE} {da : DE} [ha : SimE K ta da] : SimE K (tNotV ta) (dNotV da) where
  sim {σ ρ H S Q Q'} e m h k := ha.sim e m h fun v x H1 S1 f1 m1 r1 q1 => by
    obtain ⟨b, rfl, q⟩ := bl_elim q1
    exact ⟨b, rep_bl r1, k _ _ H1 S1 f1 m1 (.bl _) q⟩
def dIf (t : DT) (a b : DE) : DE := fun ρ S Q => t ρ S fun c S1 => if c = true then a ρ S1 Q else b ρ S1 Q
instance {t : TT} {dt : DT} {ta tb : TE} {da db : DE} [ht : SimT K t dt] [ha : SimE K ta da] [hb : SimE K tb db] : SimE K (tIf t ta tb) (dIf dt da db) where
  sim {σ ρ H S Q Q'} e m h k := ht.sim e m h fun b H1 S1 f1 m1 q1 => by
    cases b with
    | true => exact ha.sim (e.mono (f1.tx m)) m1 q1 fun w z H2 S2 f2 m2 r2 q2 => k w z H2 S2 (f1.trans f2) m2 r2 q2
    | false => exact hb.sim (e.mono (f1.tx m)) m1 q1 fun w z H2 S2 f2 m2 r2 q2 => k w z H2 S2 (f1.trans f2) m2 r2 q2
def dChain (r r' : D2) (a b c : DE) : DE := fun ρ S Q => a ρ S fun x S1 => b ρ S1 fun y S2 => r x y S2 fun z S3 => match z with
  | .bl k => if k = true then c ρ S3 fun w S4 => r' y w S4 Q else Q (.bl false) S3
  | _ => False
instance {r r' : R2} {dr dr' : D2} {ta tb tc : TE} {da db dc : DE} [hr : SimR K r dr] [hr' : SimR K r' dr'] [ha : SimE K ta da] [hb : SimE K tb db] [hc : SimE K tc dc] : SimE K (tChain r r' ta tb tc) (dChain dr dr' da db dc) where
  sim {σ ρ H S Q Q'} e m h k := ha.sim e m h fun v x H1 S1 f1 m1 r1 q1 => hb.sim (e.mono (f1.tx m)) m1 q1 fun u y H2 S2 f2 m2 r2 q2 =>
    hr.sim (r1.mono (f2.tx m1)) r2 m2 q2 fun w z H3 S3 f3 m3 r3 q3 => by
      obtain ⟨b, rfl, q⟩ := bl_elim q3
      refine ⟨b, rep_bl r3, ?_⟩
      cases b with
      | true => exact hc.sim (e.mono (((f1.trans f2).trans f3).tx m)) m3 q fun w2 z2 H4 S4 f4 m4 r4 q4 => hr'.sim (r2.mono ((f3.trans f4).tx m2)) r4 m4 q4 fun w5 z5 H5 S5 f5 m5 r5 q5 => k w5 z5 H5 S5 ((((f1.trans f2).trans f3).trans f4).trans f5) m5 r5 q5
      | false => exact k _ _ H3 S3 ((f1.trans f2).trans f3) m3 (.bl false) q

def dNil : DA := fun _ S Q => Q [] S
def dCons (a : DE) (r : DA) : DA := fun ρ S Q => a ρ S fun x S1 => r ρ S1 fun xs S2 => Q (x :: xs) S2
instance : SimA K tNil dNil where
  sim {σ ρ H S Q Q'} e m h k := k [] [] H S Fr.refl m .nil h
instance {ta : TE} {tr : TA} {da : DE} {dr : DA} [ha : SimE K ta da] [hr : SimA K tr dr] : SimA K (tCons ta tr) (dCons da dr) where
  sim {σ ρ H S Q Q'} e m h k := ha.sim e m h fun v x H1 S1 f1 m1 r1 q1 => hr.sim (e.mono (f1.tx m)) m1 q1 fun vs xs H2 S2 f2 m2 r2 q2 =>
    k _ _ H2 S2 (f1.trans f2) m2 (.cons (r1.mono (f2.tx m1)) r2) q2
/-- a new tuple is a tree; a new list stands in the store -/
def dTup (a : DA) : DE := fun ρ S Q => a ρ S fun xs S1 => xs.length ≤ sizeLine ∧ Q (.tup xs) S1
def dLst (a : DA) : DE := fun ρ S Q => a ρ S fun xs S1 => xs.length ≤ sizeLine ∧ ∀ p, S1 p = none → Q (.loc p) (mset S1 p (some (.lst xs)))
theorem new_tup {H : Hp} {S : Mp} {p : Addr} {vs : List V} {xs : List PV} (hp : H p = none) (r : Reps K H vs xs) : Rep K (upd H p (.tup vs)) (.ref p) (.tup xs) :=
  .tup upd_same (r.mono (Tx.new hp))
instance {ta : TA} {da : DA} [ha : SimA K ta da] : SimE K (tTup ta) (dTup da) where
  sim {σ ρ H S Q Q'} e m h k := ha.sim e m h fun vs xs H1 S1 f1 m1 r1 ⟨hl, q1⟩ => ⟨by rw [r1.length]; exact hl, fun p hp =>
    k _ _ _ S1 (f1.trans (Fr.newT hp)) (m1.newT hp) (new_tup (S := S1) hp r1) q1⟩
theorem new_lst {H : Hp} {p : Addr} {vs : List V} {xs : List PV} (hp : H p = none) (r : Reps K H vs xs) : MoOk K (upd H p (.lst vs)) p (.lst xs) := ⟨vs, upd_same, r.mono (Tx.new hp)⟩
instance {ta : TA} {da : DA} [ha : SimA K ta da] : SimE K (tLst ta) (dLst da) where
  sim {σ ρ H S Q Q'} e m h k := ha.sim e m h fun vs xs H1 S1 f1 m1 r1 ⟨hl, q1⟩ => ⟨by rw [r1.length]; exact hl, fun p hp =>
    k _ _ _ _ (f1.trans (Fr.new hp)) (m1.new hp fun o e => by cases e; exact new_lst hp r1) (.loc p) (q1 p (m1.freeS hp))⟩

/-! ### a def's promise over trees -/
abbrev DSp := List PV → Mp → DK → Prop
def spD (K : PySem.W.Frag) (F : DSp) : Sp := fun vs H Q _ => ∃ xs S Q', Reps K H vs xs ∧ Mt K H S ∧ F xs S Q' ∧ ∀ v x H' S', Fr S H S' H' → Mt K H' S' → Rep K H' v x → Q' x S' → Q v H'
def dCall (F : DSp) (a : DA) : DE := fun ρ S Q => a ρ S fun xs S1 => F xs S1 Q
instance {F : DSp} {E : XK} {ta : TA} {da : DA} [ha : SimA K ta da] : SimE K (tCall (spD K F) [] E ta) (dCall F da) where
  sim {σ ρ H S Q Q'} e m h k := ha.sim e m h fun vs xs H1 S1 f1 m1 r1 q1 => by
    show spD K F (vs ++ []) H1 Q E
    rw [List.append_nil]
    exact ⟨xs, S1, Q', r1, m1, q1, fun v x H' S' f' m' r' q' => k v x H' S' (f1.trans f') m' r' q'⟩
/-- f(a, .., k = b): the parameters in the def's order -/
def dCallK (F : DSp) (g : List PV → List PV → List PV) (a b : DA) : DE := fun ρ S Q => a ρ S fun xs S1 => b ρ S1 fun ys S2 => F (g xs ys) S2 Q
class SimP (gV : List V → List V → List V) (g : outParam (List PV → List PV → List PV)) : Prop where
  sim : ∀ {K : PySem.W.Frag} {H : Hp} {vs us : List V} {xs ys : List PV}, Reps K H vs xs → Reps K H us ys → Reps K H (gV vs us) (g xs ys)
instance {F : DSp} {E : XK} {gV : List V → List V → List V} {g : List PV → List PV → List PV} {ta tb : TA} {da db : DA} [ha : SimA K ta da] [hb : SimA K tb db] [hg : SimP gV g] : SimE K (tCallK (spD K F) gV E ta tb) (dCallK F g da db) where
  sim {σ ρ H S Q Q'} e m h k := ha.sim e m h fun vs xs H1 S1 f1 m1 r1 q1 => hb.sim (e.mono (f1.tx m)) m1 q1 fun us ys H2 S2 f2 m2 r2 q2 =>
    ⟨_, S2, Q', hg.sim (r1.mono (f2.tx m1)) r2, m2, q2, fun v x H' S' f' m' r' q' => k v x H' S' ((f1.trans f2).trans f') m' r' q'⟩
def lkF (fs : List (Str × PV)) (f : Str) : Option PV := fs.lookup f
def dMeth (C : Addr) (m : Str) (F : DSp) (o : DE) (a : DA) : DE := fun ρ S Q => o ρ S fun x S1 => match x with
  | .loc p => ∃ fs, S1 p = some (.ins C fs) ∧ fs.lookup m = none ∧ a ρ S1 fun xs S2 => F (.loc p :: xs) S2 Q
  | _ => False
theorem loc_elim {x : PV} {R : Addr → Prop} (h : match x with | .loc c => R c | _ => False) : ∃ b, x = .loc b ∧ R b := by
  cases x <;> first | exact h.elim | exact ⟨_, rfl, h⟩
theorem RKV.look {H : Hp} (f : Str) : ∀ {us : List (Str × V)} {fs : List (Str × PV)}, RKV K H us fs → match fs.lookup f with
    | some x => ∃ v, us.lookup f = some v ∧ Rep K H v x
    | none => us.lookup f = none
  | _, _, .nil => rfl
  | _, _, .cons (k := k) h r => by
    by_cases e : f == k
    · simp only [List.lookup, e]
      exact ⟨_, rfl, h⟩
    · simp only [List.lookup, Bool.eq_false_iff.mpr e]
      exact RKV.look f r
theorem RKV.look_some {H : Hp} {f : Str} {us : List (Str × V)} {fs : List (Str × PV)} {x : PV} (r : RKV K H us fs) (h : fs.lookup f = some x) : ∃ v, us.lookup f = some v ∧ Rep K H v x := by
  have q := RKV.look f r
  rw [h] at q
  exact q
theorem RKV.look_none {H : Hp} {f : Str} {us : List (Str × V)} {fs : List (Str × PV)} (r : RKV K H us fs) (h : fs.lookup f = none) : us.lookup f = none := by
  have q := RKV.look f r
  rw [h] at q
  exact q
instance {C : Addr} {nm : Str} {F : DSp} {E : XK} {to : TE} {ta : TA} {d0 : DE} {da : DA} [ho : SimE K to d0] [ha : SimA K ta da] : SimE K (tMeth C nm (spD K F) [] E to ta) (dMeth C nm F d0 da) where
  sim {σ ρ H S Q Q'} e m h k := ho.sim e m h fun v x H1 S1 f1 m1 r1 q1 => by
    obtain ⟨p, rfl, fs, hp, hl, q⟩ := loc_elim q1
    obtain ⟨dx, us, hH, rk⟩ := m1 p _ hp
    refine ⟨p, dx, us, rep_loc r1, hH, rk.look_none hl, ?_⟩
    refine ha.sim (e.mono (f1.tx m)) m1 q fun vs xs H2 S2 f2 m2 r2 q2 => ?_
    show spD K F (v :: (vs ++ [])) H2 Q E
    rw [List.append_nil]
    exact ⟨_, S2, Q', .cons (r1.mono (f2.tx m1)) r2, m2, q2, fun v x H' S' f' m' r' q' => k v x H' S' ((f1.trans f2).trans f') m' r' q'⟩
def dMake (C : Addr) (F : DSp) (a : DA) : DE := fun ρ S Q => a ρ S fun xs S1 => ∀ p, S1 p = none → F (.loc p :: xs) (mset S1 p (some (.ins C []))) fun x S2 => x = .non ∧ Q (.loc p) S2
instance {C : Addr} {F : DSp} {E : XK} {ta : TA} {da : DA} [ha : SimA K ta da] : SimE K (tMake C (spD K F) [] E ta) (dMake C F da) where
  sim {σ ρ H S Q Q'} e m h k := ha.sim e m h fun vs xs H1 S1 f1 m1 r1 q1 => by
    intro p dx hp hdx hne
    have n1 : (upd H1 dx (.own p)) p = none := by rw [upd_ne (Ne.symm hne)]; exact hp
    have tx : Tx H1 (upd (upd H1 dx (.own p)) p (.ins C dx [])) := (Tx.new hdx).trans (Tx.new n1)
    have m2 : Mt K (upd (upd H1 dx (.own p)) p (.ins C dx [])) (mset S1 p (some (.ins C []))) := by
      have m3 : Mt K (upd H1 dx (.own p)) S1 := fun a q e => by
        obtain ⟨u, hu⟩ := (m1 a q e).there
        exact (m1 a q e).mono (Tx.new hdx) (upd_ne (ne_of_none hu hdx))
      exact m3.new n1 fun o eo => by cases eo; exact ⟨dx, [], upd_same, .nil⟩
    have f2 : Fr S1 H1 (mset S1 p (some (.ins C []))) (upd (upd H1 dx (.own p)) p (.ins C dx [])) := (Fr.newT hdx).trans (Fr.new n1)
    show spD K F (.ref p :: (vs ++ [])) _ _ E
    rw [List.append_nil]
    refine ⟨_, _, _, .cons (.loc p) (r1.mono tx), m2, q1 p (m1.freeS hp), fun v x H' S' f' m' r' q' => ?_⟩
    obtain ⟨rfl, q'⟩ := q'
    exact ⟨rep_non r', k _ _ H' S' ((f1.trans f2).trans f') m' (.loc p) q'⟩
def dCB (r : DC) (a : DA) : DE := fun ρ S Q => a ρ S fun xs S1 => r xs S1 Q
instance {r : List V → Hp → VK → Prop} {dr : DC} {ta : TA} {da : DA} [hr : SimC K r dr] [ha : SimA K ta da] : SimE K (tCB r ta) (dCB dr da) where
  sim {σ ρ H S Q Q'} e m h k := ha.sim e m h fun vs xs H1 S1 f1 m1 r1 q1 => hr.sim r1 m1 q1 fun w z H3 S3 f3 m3 r3 q3 => k w z H3 S3 (f1.trans f3) m3 r3 q3
/-- a method of a built-in type -/
def dty (T : String) (x : PV) (S : Mp) : Prop := match x with
  | .str _ => T = "str"
  | .int _ => T = "int"
  | .loc p => (T = "list" ∧ ∃ xs, S p = some (.lst xs)) ∨ (T = "dict" ∧ ((∃ kvs, S p = some (.dk kvs)) ∨ ∃ kvs, S p = some (.dt kvs)))
  | _ => False
theorem dty_to {T : String} {x : PV} {S : Mp} {H : Hp} {v : V} (r : Rep K H v x) (m : Mt K H S) (h : dty T x S) : tyV K T v H := by
  cases x with
  | str z => cases rep_str r; exact h
  | int z => cases rep_int r; exact h
  | loc p =>
    cases rep_loc r
    rcases h with ⟨rfl, xs, h⟩ | ⟨rfl, ⟨kvs, h⟩ | ⟨kvs, h⟩⟩
    · obtain ⟨vs, e, _⟩ := m p _ h
      exact .inl ⟨rfl, vs, SqL.of e⟩
    · obtain ⟨vs, e, _⟩ := m p _ h
      exact .inr (.inr (.inl ⟨rfl, .inl ⟨vs, e⟩⟩))
    · obtain ⟨vs, e, _⟩ := m p _ h
      exact .inr (.inr (.inl ⟨rfl, .inr ⟨vs, e⟩⟩))
  | _ => exact h.elim
def dBM (T : String) (r : DM) (o : DE) (a : DA) : DE := fun ρ S Q => o ρ S fun x S1 => dty T x S1 ∧ a ρ S1 fun xs S2 => r x xs S2 Q
instance {T : String} {r : V → List V → Hp → VK → Prop} {dr : DM} {to : TE} {ta : TA} {d0 : DE} {da : DA} [hr : SimM K r dr] [ho : SimE K to d0] [ha : SimA K ta da] : SimE K (tBM K T r to ta) (dBM T dr d0 da) where
  sim {σ ρ H S Q Q'} e m h k := ho.sim e m h fun v x H1 S1 f1 m1 r1 q1 => ⟨dty_to r1 m1 q1.1, ha.sim (e.mono (f1.tx m)) m1 q1.2 fun vs xs H2 S2 f2 m2 r2 q2 =>
    hr.sim (r1.mono (f2.tx m1)) r2 m2 q2 fun w z H3 S3 f3 m3 r3 q3 => k w z H3 S3 ((f1.trans f2).trans f3) m3 r3 q3⟩
def dBM0 (T : String) (r : DM) (o : DE) : DE := fun ρ S Q => o ρ S fun x S1 => dty T x S1 ∧ r x [] S1 Q
instance {T : String} {r : V → List V → Hp → VK → Prop} {dr : DM} {to : TE} {d0 : DE} [hr : SimM K r dr] [ho : SimE K to d0] : SimE K (tBM0 K T r to) (dBM0 T dr d0) where
  sim {σ ρ H S Q Q'} e m h k := ho.sim e m h fun v x H1 S1 f1 m1 r1 q1 => ⟨dty_to r1 m1 q1.1, hr.sim r1 .nil m1 q1.2 fun w z H3 S3 f3 m3 r3 q3 => k w z H3 S3 (f1.trans f3) m3 r3 q3⟩
end
end DL

namespace DL
open PySem L2
section
variable {K : PySem.W.Frag}
/-! ### statements -/
def dNext : DS := fun D ρ S => D.nx ρ S
def dSeq (t u : DS) : DS := fun D ρ S => t { D with nx := u D } ρ S
def dBreak : DS := fun D ρ S => D.bk ρ S
def dCont : DS := fun D ρ S => D.ct ρ S
def dDrop (a : DE) : DS := fun D ρ S => a ρ S fun _ S1 => D.nx ρ S1
def dRet (a : DE) : DS := fun D ρ S => a ρ S D.rt
def dRetN : DS := fun D _ S => D.rt .non S
def dIfS (c : DT) (t u : DS) : DS := fun D ρ S => c ρ S fun b S1 => if b = true then t D ρ S1 else u D ρ S1
def dNever : DS := fun _ _ _ => False
instance : SimS K tNext dNext where
  sim {σ ρ H S D D'} e m h k := k.nx σ ρ H S Fr.refl m e h
instance {t u : TS} {dt du : DS} [ht : SimS K t dt] [hu : SimS K u du] : SimS K (tSeq t u) (dSeq dt du) where
  sim {σ ρ H S D D'} e m h k := ht.sim (D' := { D' with nx := du D' }) e m h ⟨fun σ' ρ' H' S' f m' e' q => hu.sim e' m' q (k.step f), k.rt, k.bk, k.ct⟩
instance : SimS K tBreak dBreak where
  sim {σ ρ H S D D'} e m h k := k.bk σ ρ H S Fr.refl m e h
instance : SimS K tCont dCont where
  sim {σ ρ H S D D'} e m h k := k.ct σ ρ H S Fr.refl m e h
instance {ta : TE} {da : DE} [ha : SimE K ta da] : SimS K (tDrop ta) (dDrop da) where
  sim {σ ρ H S D D'} e m h k := ha.sim e m h fun v x H1 S1 f1 m1 r1 q1 => k.nx σ ρ H1 S1 f1 m1 (e.mono (f1.tx m)) q1
instance {ta : TE} {da : DE} [ha : SimE K ta da] : SimS K (tRet ta) (dRet da) where
  sim {σ ρ H S D D'} e m h k := ha.sim e m h fun v x H1 S1 f1 m1 r1 q1 => k.rt v x H1 S1 f1 m1 r1 q1
instance : SimS K tRetN dRetN where
  sim {σ ρ H S D D'} e m h k := k.rt _ _ H S Fr.refl m .non h
instance {c : TT} {dc : DT} {t u : TS} {dt du : DS} [hc : SimT K c dc] [ht : SimS K t dt] [hu : SimS K u du] : SimS K (tIfS c t u) (dIfS dc dt du) where
  sim {σ ρ H S D D'} e m h k := hc.sim e m h fun b H1 S1 f1 m1 q1 => by
    cases b with
    | true => exact ht.sim (e.mono (f1.tx m)) m1 q1 (k.step f1)
    | false => exact hu.sim (e.mono (f1.tx m)) m1 q1 (k.step f1)
instance : SimS K tNever dNever where
  sim {σ ρ H S D D'} e m h k := h
/-! ### targets -/
def dgName (i : Nat) : DG := fun x ρ S Q => Q (ρ.set i (some x)) S
def dgNil : DGs := fun xs ρ S Q => match xs with
  | [] => Q ρ S
  | _ :: _ => False
def dgCons (t : DG) (u : DGs) : DGs := fun xs ρ S Q => match xs with
  | [] => False
  | x :: r => t x ρ S fun ρ' S' => u r ρ' S' Q
def dgTup (n : Nat) (t : DGs) : DG := fun x ρ S Q => match x with
  | .tup xs => xs.length = n ∧ t xs ρ S Q
  | _ => False
theorem tup_elim {x : PV} {R : List PV → Prop} (h : match x with | .tup c => R c | _ => False) : ∃ b, x = .tup b ∧ R b := by
  cases x <;> first | exact h.elim | exact ⟨_, rfl, h⟩
theorem int_elim {x : PV} {R : Int → Prop} (h : match x with | .int c => R c | _ => False) : ∃ b, x = .int b ∧ R b := by
  cases x <;> first | exact h.elim | exact ⟨_, rfl, h⟩
theorem str_elim {x : PV} {R : Str → Prop} (h : match x with | .str c => R c | _ => False) : ∃ b, x = .str b ∧ R b := by
  cases x <;> first | exact h.elim | exact ⟨_, rfl, h⟩
instance {i : Nat} : SimG K (gName i) (dgName i) [i] where
  sim {v x σ ρ H S Q Q'} r e m h k := k _ _ H S Fr.refl m (e.set i r) (by simp) (fun j hj => by
    have hne : ¬ i = j := fun z => hj (by rw [z]; exact List.mem_singleton.mpr rfl)
    rw [List.getElem?_set, if_neg hne]) h
instance : SimGs K gNil dgNil [] where
  sim {vs xs σ ρ H S Q Q'} r e m h k := by
    cases r with
    | nil => exact ⟨rfl, k σ ρ H S Fr.refl m e rfl (fun _ _ => rfl) h⟩
    | cons _ _ => exact h.elim
instance {t : TG} {u : TGs} {dt : DG} {du : DGs} {is js : List Nat} [ht : SimG K t dt is] [hu : SimGs K u du js] : SimGs K (gCons t u) (dgCons dt du) (is ++ js) where
  sim {vs xs σ ρ H S Q Q'} r e m h k := by
    cases r with
    | nil => exact h.elim
    | cons h1 r =>
      refine ⟨_, _, rfl, ht.sim h1 e m h fun σ1 ρ1 H1 S1 f1 m1 e1 l1 g1 q1 => ?_⟩
      refine hu.sim (r.mono (f1.tx m)) e1 m1 q1 fun σ2 ρ2 H2 S2 f2 m2 e2 l2 g2 q2 => ?_
      exact k σ2 ρ2 H2 S2 (f1.trans f2) m2 e2 (l2.trans l1) (fun i hi => (g2 i fun z => hi (List.mem_append_right _ z)).trans (g1 i fun z => hi (List.mem_append_left _ z))) q2
instance {n : Nat} {t : TGs} {dt : DGs} {is : List Nat} [ht : SimGs K t dt is] : SimG K (gTup K n t) (dgTup n dt) is where
  sim {v x σ ρ H S Q Q'} r e m h k := by
    obtain ⟨xs, rfl, hl, h⟩ := tup_elim h
    obtain ⟨a, vs, rfl, hs, rs⟩ := rep_tup r
    exact ⟨a, vs, rfl, SqT.of hs, by rw [rs.length]; exact hl, ht.sim rs e m h k⟩
def dAsg (a : DE) (g : DG) : DS := fun D ρ S => a ρ S fun x S1 => g x ρ S1 D.nx
instance {ta : TE} {da : DE} {g : TG} {dg : DG} {is : List Nat} [ha : SimE K ta da] [hg : SimG K g dg is] : SimS K (tAsg ta g) (dAsg da dg) where
  sim {σ ρ H S D D'} e m h k := ha.sim e m h fun v x H1 S1 f1 m1 r1 q1 => hg.sim r1 (e.mono (f1.tx m)) m1 q1 fun σ2 ρ2 H2 S2 f2 m2 e2 _ _ q2 => k.nx σ2 ρ2 H2 S2 (f1.trans f2) m2 e2 q2
def dPar (i j : Nat) (a : DA) : DS := fun D ρ S => a ρ S fun xs S1 => match xs with
  | [x, y] => D.nx ((ρ.set i (some x)).set j (some y)) S1
  | _ => False
instance {i j : Nat} {ta : TA} {da : DA} [ha : SimA K ta da] : SimS K (tPar i j ta) (dPar i j da) where
  sim {σ ρ H S D D'} e m h k := ha.sim e m h fun vs xs H1 S1 f1 m1 r1 q1 => by
    obtain ⟨x, y, rfl, q2⟩ : ∃ x y, xs = [x, y] ∧ D'.nx ((ρ.set i (some x)).set j (some y)) S1 := by
      rcases xs with _ | ⟨x, _ | ⟨y, _ | _⟩⟩
      · exact q1.elim
      · exact q1.elim
      · exact ⟨x, y, rfl, q1⟩
      · exact q1.elim
    cases r1 with
    | cons h1 r1 =>
      cases r1 with
      | cons h2 r1 =>
        cases r1 with
        | nil => exact ⟨_, _, rfl, k.nx _ _ H1 S1 f1 m1 (((e.mono (f1.tx m)).set i h1).set j h2) q2⟩
/-- x op= e on ints -/
def dAug (i : Nat) (f : Int → Int → Int) (a : DE) : DS := fun D ρ S => match getv ρ i with
  | some (.int n) => a ρ S fun y S1 => match y with
    | .int k => D.nx (ρ.set i (some (.int (f n k)))) S1
    | _ => False
  | _ => False
instance {i : Nat} {f : Int → Int → Int} {ta : TE} {da : DE} [ha : SimE K ta da] : SimS K (tAug i ta (ipI f)) (dAug i f da) where
  sim {σ ρ H S D D'} e m h k := by
    unfold dAug getv at h
    cases q : ρ[i]? with
    | none => rw [q] at h; exact h.elim
    | some o =>
      cases o with
      | none => rw [q] at h; exact h.elim
      | some x =>
        rw [q] at h
        obtain ⟨v, a, b⟩ := e.2 i x q
        cases x with
        | int n =>
          cases rep_int b
          refine ⟨_, a, ha.sim e m h fun v y H1 S1 f1 m1 r1 q1 => ?_⟩
          obtain ⟨j, rfl, q2⟩ := int_elim q1
          exact ⟨n, j, rfl, rep_int r1, k.nx _ _ H1 S1 f1 m1 ((e.mono (f1.tx m)).set i (.int _)) q2⟩
        | _ => exact h.elim
/-! ### loops -/
/-- what is walked: a list of trees; G: what must stand between two turns -/
structure DWk (K : PySem.W.Frag) (H1 : Hp) (J : It) (xs : List PV) (G : Mp → Hp → Prop) : Prop where
  goes : ∀ i S H, i < xs.length → G S H → J.go i H
  stops : ∀ S H, G S H → J.stop xs.length H
  yld : ∀ i S H x H', i < xs.length → G S H → J.yld i H x H' → (∀ a o, H a = some o → H' a = some o) ∧ ∃ p, xs[i]? = some p ∧ Rep K H' x p
  keep : ∀ S H S' H', Mt K H S → Fr S H S' H' → G S H → G S' H'
  /-- the list that a comprehension makes grows -/
  oth : ∀ S H p u, H1 p = none → Tx H (upd H p u) → G S H → G S (upd H p u)
theorem ext_tx {H H' : Hp} (x : ∀ a o, H a = some o → H' a = some o) : Tx H H' := fun b u _ h => x b u h
theorem ext_fr {S : Mp} {H H' : Hp} (x : ∀ a o, H a = some o → H' a = some o) : Fr S H S H' := fun a o h n => ⟨x a o h, rfl⟩
theorem ext_mt {S : Mp} {H H' : Hp} (x : ∀ a o, H a = some o → H' a = some o) (m : Mt K H S) : Mt K H' S := fun a o e => by
  obtain ⟨u, hu⟩ := (m a o e).there
  exact (m a o e).mono (ext_tx x) (by rw [x a u hu, hu])
abbrev Lk := List (Addr × MO)
def bkS : Lk → Mp → Mp
  | [], S => S
  | p :: r, S => mset (bkS r S) p.1 (some p.2)
theorem bkS_at (S : Mp) (a : Addr) : ∀ lk : Lk, (bkS lk S a = S a ∧ ∀ p ∈ lk, a ≠ p.1) ∨ ∃ p ∈ lk, a = p.1 ∧ bkS lk S a = some p.2
  | [] => .inl ⟨rfl, fun p h => by cases h⟩
  | p :: r => by
    by_cases h : a = p.1
    · exact .inr ⟨p, List.mem_cons_self, h, by rw [h]; exact mset_same⟩
    · rcases bkS_at S a r with ⟨h1, h2⟩ | ⟨q, h1, h2, h3⟩
      · refine .inl ⟨(mset_ne h).trans h1, fun q hq => ?_⟩
        rcases List.mem_cons.mp hq with z | z
        · rw [z]; exact h
        · exact h2 q z
      · exact .inr ⟨q, List.mem_cons_of_mem _ h1, h2, (mset_ne h).trans h3⟩
/-- what was locked comes back into the view -/
def LkOk (K : PySem.W.Frag) (S0 : Mp) (H0 H1 : Hp) (G : Mp → Hp → Prop) (lk : Lk) : Prop :=
  ∀ p ∈ lk, H1 p.1 ≠ none ∧ (∀ u, H0 p.1 = some u → ¬ Ro (S0 p.1)) ∧ ∀ S' H', G S' H' → MoOk K H' p.1 p.2
theorem lk_no {S0 : Mp} {H0 H1 : Hp} {G : Mp → Hp → Prop} : LkOk K S0 H0 H1 G [] := fun p h => by cases h
theorem lk_mt {S0 S' : Mp} {H0 H1 H' : Hp} {G : Mp → Hp → Prop} {lk : Lk} (l : LkOk K S0 H0 H1 G lk) (m : Mt K H' S') (g : G S' H') : Mt K H' (bkS lk S') := by
  intro a q e
  rcases bkS_at S' a lk with ⟨h1, _⟩ | ⟨p, h1, rfl, h3⟩
  · rw [h1] at e; exact m a q e
  · rw [h3] at e; cases e; exact (l p h1).2.2 S' H' g
theorem lk_fr {S0 S' : Mp} {H0 H1 H' : Hp} {G : Mp → Hp → Prop} {lk : Lk} (l : LkOk K S0 H0 H1 G lk) (f : Fr S0 H0 S' H') : Fr S0 H0 (bkS lk S') H' := by
  intro a q e n
  obtain ⟨h1, h2⟩ := f a q e n
  refine ⟨h1, ?_⟩
  rcases bkS_at S' a lk with ⟨h3, _⟩ | ⟨p, h3, rfl, h4⟩
  · rw [h3]; exact h2
  · exact absurd n ((l p h3).2.1 q e)
class SimI (K : PySem.W.Frag) (wi : TI) (di : outParam DI) : Prop where
  sim : ∀ {σ : St} {ρ : DSt} {H : Hp} {S : Mp} {R : It → Hp → Prop} {R' : List PV → Mp → Lk → Prop}, Env K H σ ρ → Mt K H S → di ρ S R' →
    (∀ J H1 xs S1 lk G, Fr S H S1 H1 → Mt K H1 S1 → DWk K H1 J xs G → G S1 H1 → LkOk K S H H1 G lk → R' xs S1 lk → R J H1) → wi σ H R
def bkD (lk : Lk) (D : DEnds) : DEnds := { nx := fun ρ S => D.nx ρ (bkS lk S), rt := fun x S => D.rt x (bkS lk S), bk := fun ρ S => D.bk ρ (bkS lk S), ct := fun ρ S => D.ct ρ (bkS lk S) }
def forR (g : DG) (tb : DS) (D : DEnds) : List PV → DSt → Mp → Prop
  | [], ρ, S => D.nx ρ S
  | x :: xs, ρ, S => g x ρ S fun ρ2 S2 => tb { nx := forR g tb D xs, rt := D.rt, bk := D.nx, ct := forR g tb D xs } ρ2 S2
def dFor (di : DI) (g : DG) (tb : DS) : DS := fun D ρ S => di ρ S fun xs S1 lk => forR g tb (bkD lk D) xs ρ S1
theorem drop_at {α : Type} {xs : List α} {i : Nat} {p : α} (h : xs[i]? = some p) : xs.drop i = p :: xs.drop (i + 1) := by
  obtain ⟨hl, e⟩ := List.getElem?_eq_some_iff.mp h
  rw [List.drop_eq_getElem_cons hl, e]
theorem for_core {g : TG} {dg : DG} {is : List Nat} {tb : TS} {db : DS} [hg : SimG K g dg is] [hb : SimS K tb db] {σ : St} {ρ : DSt} {H H1 : Hp} {S S1 : Mp} {D : Ends} {D' : DEnds} {J : It} {xs : List PV} {lk : Lk} {G : Mp → Hp → Prop}
    (e : Env K H σ ρ) (m : Mt K H S) (k : EndsTo K S H D D') (f1 : Fr S H S1 H1) (m1 : Mt K H1 S1) (wk : DWk K H1 J xs G) (g1 : G S1 H1) (lo : LkOk K S H H1 G lk) (q1 : forR dg db (bkD lk D') xs ρ S1) :
    ∃ W : Nat → Nat → St → Hp → Prop, (∃ m, W 0 m σ H1) ∧ ∀ i m σ H, W i m σ H →
      (J.stop i H ∧ D.nx σ H) ∨ (J.go i H ∧ ∃ N : St → Hp → Prop, (∀ σ' H', N σ' H' → ∃ m', m' < m ∧ W (i + 1) m' σ' H') ∧ ∀ x H', J.yld i H x H' → g x σ H' fun σ2 H2 => tb { D with nx := N, ct := N, bk := D.nx } σ2 H2) := by
    refine ⟨fun i mm σ' H' => i + mm = xs.length ∧ ∃ ρ' S', Env K H' σ' ρ' ∧ Mt K H' S' ∧ G S' H' ∧ Fr S H S' H' ∧ forR dg db (bkD lk D') (xs.drop i) ρ' S',
      ⟨xs.length, by omega, ρ, S1, e.mono (f1.tx m), m1, g1, f1, q1⟩, ?_⟩
    rintro i mm σ' H' ⟨hl, ρ', S', e', m', g', f', q'⟩
    by_cases hi' : i < xs.length
    · refine .inr ⟨wk.goes i S' H' hi' g', fun σ2 H2 => ∃ m', m' < mm ∧ (i + 1 + m' = xs.length ∧ ∃ ρ' S', Env K H2 σ2 ρ' ∧ Mt K H2 S' ∧ G S' H2 ∧ Fr S H S' H2 ∧ forR dg db (bkD lk D') (xs.drop (i + 1)) ρ' S'), fun _ _ z => z, ?_⟩
      intro x H2 hy
      obtain ⟨ext, p, hp, rp⟩ := wk.yld i S' H' x H2 hi' g' hy
      rw [drop_at hp] at q'
      have m2 := ext_mt ext m'
      have fr2 : Fr S' H' S' H2 := ext_fr ext
      have g2 := wk.keep S' H' S' H2 m' fr2 g'
      have f2 : Fr S H S' H2 := f'.trans fr2
      refine hg.sim rp (e'.mono (ext_tx ext)) m2 q' fun σ3 ρ3 H3 S3 f3 m3 e3 _ _ q3 => ?_
      have g3 := wk.keep S' H2 S3 H3 m2 f3 g2
      have f3' := f2.trans f3
      have nxt : ∀ σ4 ρ4 H4 S4, Fr S3 H3 S4 H4 → Mt K H4 S4 → Env K H4 σ4 ρ4 → forR dg db (bkD lk D') (xs.drop (i + 1)) ρ4 S4 → ∃ m', m' < mm ∧ (i + 1 + m' = xs.length ∧ ∃ ρ' S', Env K H4 σ4 ρ' ∧ Mt K H4 S' ∧ G S' H4 ∧ Fr S H S' H4 ∧ forR dg db (bkD lk D') (xs.drop (i + 1)) ρ' S') :=
        fun σ4 ρ4 H4 S4 f4 m4 e4 q4 => ⟨mm - 1, by omega, by omega, ρ4, S4, e4, m4, wk.keep S3 H3 S4 H4 m3 f4 g3, f3'.trans f4, q4⟩
      refine hb.sim e3 m3 q3 ⟨nxt, fun v y H4 S4 f4 m4 r4 q4 => ?_, fun σ4 ρ4 H4 S4 f4 m4 e4 q4 => ?_, nxt⟩
      · have g4 := wk.keep S3 H3 S4 H4 m3 f4 g3
        exact k.rt v y H4 (bkS lk S4) (lk_fr lo (f3'.trans f4)) (lk_mt lo m4 g4) r4 q4
      · have g4 := wk.keep S3 H3 S4 H4 m3 f4 g3
        exact k.nx σ4 ρ4 H4 (bkS lk S4) (lk_fr lo (f3'.trans f4)) (lk_mt lo m4 g4) e4 q4
    · have ei : i = xs.length := by omega
      subst ei
      rw [List.drop_length] at q'
      exact .inl ⟨wk.stops S' H' g', k.nx σ' ρ' H' (bkS lk S') (lk_fr lo f') (lk_mt lo m' g') e' q'⟩
instance {wi : TI} {di : DI} {g : TG} {dg : DG} {is : List Nat} {tb : TS} {db : DS} [hi : SimI K wi di] [hg : SimG K g dg is] [hb : SimS K tb db] : SimS K (tFor wi g tb) (dFor di dg db) where
  sim {σ ρ H S D D'} e m h k := hi.sim e m h fun J H1 xs S1 lk G f1 m1 wk g1 lo q1 => for_core e m k f1 m1 wk g1 lo q1
def dWhile (c : DT) (tb : DS) : DS := fun D ρ S => ∃ I : Nat → DSt → Mp → Prop, (∃ n, I n ρ S) ∧ ∀ n ρ S, I n ρ S → c ρ S fun b S1 =>
  if b = true then tb { nx := fun ρ' S' => ∃ n', n' < n ∧ I n' ρ' S', rt := D.rt, bk := D.nx, ct := fun ρ' S' => ∃ n', n' < n ∧ I n' ρ' S' } ρ S1 else D.nx ρ S1
instance {c : TT} {dc : DT} {tb : TS} {db : DS} [hc : SimT K c dc] [hb : SimS K tb db] : SimS K (tWhile c tb) (dWhile dc db) where
  sim {σ ρ H S D D'} e m h k := by
    obtain ⟨I, ⟨n0, h0⟩, hs⟩ := h
    refine ⟨fun n σ' H' => ∃ ρ' S', Env K H' σ' ρ' ∧ Mt K H' S' ∧ Fr S H S' H' ∧ I n ρ' S', ⟨n0, ρ, S, e, m, Fr.refl, h0⟩, ?_⟩
    rintro n σ' H' ⟨ρ', S', e', m', f', i'⟩
    refine hc.sim e' m' (hs n ρ' S' i') fun b H1 S1 f1 m1 q1 => ?_
    cases b with
    | true =>
      have nxt : ∀ σ4 ρ4 H4 S4, Fr S1 H1 S4 H4 → Mt K H4 S4 → Env K H4 σ4 ρ4 → (∃ n', n' < n ∧ I n' ρ4 S4) → ∃ n', n' < n ∧ ∃ ρ' S', Env K H4 σ4 ρ' ∧ Mt K H4 S' ∧ Fr S H S' H4 ∧ I n' ρ' S' :=
        fun σ4 ρ4 H4 S4 f4 m4 e4 ⟨n', hn, q⟩ => ⟨n', hn, ρ4, S4, e4, m4, (f'.trans f1).trans f4, q⟩
      refine ⟨fun σ2 H2 => ∃ n', n' < n ∧ ∃ ρ' S', Env K H2 σ2 ρ' ∧ Mt K H2 S' ∧ Fr S H S' H2 ∧ I n' ρ' S', fun _ _ z => z, ?_⟩
      have k2 := (k.step f').step f1
      exact hb.sim (e'.mono (f1.tx m')) m1 q1 ⟨nxt, k2.rt, k2.nx, nxt⟩
    | false => exact (k.step f').nx σ' ρ' H1 S1 f1 m1 (e'.mono (f1.tx m')) q1
/-! ### comprehensions -/
class SimTs (K : PySem.W.Frag) (t : TT) (d : outParam DT) : Prop extends SimT K t d
def dYes : DT := fun _ S Q => Q true S
instance : SimT K tYes dYes where
  sim {σ ρ H S Q Q'} e m h k := k true H S Fr.refl m h
def wipeD (ρ : DSt) : List Nat → DSt
  | [] => ρ
  | v :: vs => (wipeD ρ vs).set v none
theorem Env.wipe {H : Hp} {σ : St} {ρ : DSt} (e : Env K H σ ρ) : ∀ vs : List Nat, Env K H (wipe σ vs) (wipeD ρ vs)
  | [] => e
  | v :: vs => (Env.wipe e vs).unset v
def lcR (g : DG) (tt : DT) (te : DE) (ρw : DSt) (lk : Lk) (Q : DK) : List PV → List PV → Mp → Prop
  | [], acc, S => ∀ p, S p = none → bkS lk S p = none → Q (.loc p) (mset (bkS lk S) p (some (.lst acc)))
  | x :: xs, acc, S => g x ρw S fun ρ2 S2 => tt ρ2 S2 fun b S3 => if b = true then te ρ2 S3 fun y S4 => lcR g tt te ρw lk Q xs (acc ++ [y]) S4 else lcR g tt te ρw lk Q xs acc S3
def dLc (di : DI) (g : DG) (tt : DT) (te : DE) (vs is : List Nat) : DE := fun ρ S Q => (is.all fun i => vs.contains i) = true ∧ di ρ S fun xs S1 lk => xs.length ≤ sizeLine ∧ lcR g tt te (wipeD ρ vs) lk Q xs [] S1
theorem wipe_get {σ : St} {i : Nat} : ∀ {vs : List Nat}, (i ∈ vs → i < σ.length → (wipe σ vs)[i]? = some none) ∧ (i ∉ vs → (wipe σ vs)[i]? = σ[i]?)
  | [] => ⟨fun h => by simp at h, fun _ => rfl⟩
  | v :: vs => by
    have ih := wipe_get (σ := σ) (i := i) (vs := vs)
    have hl : (wipe σ vs).length = σ.length := wipe_length σ vs
    refine ⟨fun h hi => ?_, fun h => ?_⟩
    · show ((wipe σ vs).set v none)[i]? = some none
      rw [List.getElem?_set]
      by_cases e : v = i
      · rw [if_pos e, if_pos (by rw [hl]; omega)]
      · rw [if_neg e]
        rcases List.mem_cons.mp h with z | z
        · exact absurd z.symm e
        · exact ih.1 z hi
    · show ((wipe σ vs).set v none)[i]? = σ[i]?
      have e : ¬ v = i := fun z => h (by rw [z]; exact List.mem_cons_self)
      rw [List.getElem?_set, if_neg e]
      exact ih.2 fun z => h (List.mem_cons_of_mem _ z)
theorem wipe_back {σ σ2 : St} {vs is : List Nat} (hi : (is.all fun i => vs.contains i) = true) (hl : σ2.length = (wipe σ vs).length) (hs : ∀ i, i ∉ is → σ2[i]? = (wipe σ vs)[i]?) : wipe σ2 vs = wipe σ vs := by
  rw [wipe_length] at hl
  apply List.ext_getElem?
  intro i
  by_cases hm : i ∈ vs
  · by_cases hb : i < σ.length
    · rw [(wipe_get (vs := vs)).1 hm (by omega), (wipe_get (vs := vs)).1 hm hb]
    · rw [List.getElem?_eq_none (by rw [wipe_length]; omega), List.getElem?_eq_none (by rw [wipe_length]; omega)]
  · rw [(wipe_get (vs := vs)).2 hm]
    refine hs i fun z => hm ?_
    have := List.all_eq_true.mp hi i z
    simpa using this
instance {wi : TI} {di : DI} {g : TG} {dg : DG} {is : List Nat} {tt : TT} {dt : DT} {te : TE} {de : DE} {vs : List Nat} [hi : SimI K wi di] [hg : SimG K g dg is] [ht : SimT K tt dt] [he : SimE K te de] :
    SimE K (tLc wi g tt te vs) (dLc di dg dt de vs is) where
  sim {σ ρ H S Q Q'} e m h k := hi.sim e m h.2 fun J H1 xs S1 lk G f1 m1 wk g1 lo q1 => by
    intro Dl hD
    have hl0 := q1.1
    refine ⟨fun i mm H' => i + mm = xs.length ∧ ∃ accv acc S', H' Dl = some (.lst accv) ∧ S' Dl = none ∧ Reps K H' accv acc ∧ acc.length ≤ i ∧ Mt K H' S' ∧ G S' H' ∧ Fr S1 H1 S' H' ∧ lcR dg dt de (wipeD ρ vs) lk Q' (xs.drop i) acc S',
      ⟨xs.length, by omega, [], [], S1, upd_same, m1.freeS hD, .nil, by simp, m1.newU hD, wk.keep S1 H1 S1 _ m1 (Fr.newT hD) g1, Fr.newT hD, q1.2⟩, ?_⟩
    rintro i mm H' ⟨hl, accv, acc, S', hDl, nDl, ra, la, m', g', f', q'⟩
    have fS : Fr S H S' H' := f1.trans f'
    have tS : Tx H H' := fS.tx m
    by_cases hi' : i < xs.length
    · refine .inr ⟨wk.goes i S' H' hi' g', fun H2 => ∃ m', m' < mm ∧ (i + 1 + m' = xs.length ∧ ∃ accv acc S', H2 Dl = some (.lst accv) ∧ S' Dl = none ∧ Reps K H2 accv acc ∧ acc.length ≤ i + 1 ∧ Mt K H2 S' ∧ G S' H2 ∧ Fr S1 H1 S' H2 ∧ lcR dg dt de (wipeD ρ vs) lk Q' (xs.drop (i + 1)) acc S'), fun _ z => z, ?_⟩
      intro x H2 hy
      obtain ⟨ext, p, hp, rp⟩ := wk.yld i S' H' x H2 hi' g' hy
      rw [drop_at hp] at q'
      have m2 := ext_mt ext m'
      have fr2 : Fr S' H' S' H2 := ext_fr ext
      have g2 := wk.keep S' H' S' H2 m' fr2 g'
      refine hg.sim rp (((e.mono tS).mono (ext_tx ext)).wipe vs) m2 q' fun σ3 ρ3 H3 S3 f3 m3 e3 l3 s3 q3 => ?_
      refine ⟨wipe_back h.1 l3 s3, ?_⟩
      have g3 := wk.keep S' H2 S3 H3 m2 f3 g2
      refine ht.sim e3 m3 q3 fun b H4 S4 f4 m4 q4 => ?_
      have g4 := wk.keep S3 H3 S4 H4 m3 f4 g3
      have f24 : Fr S' H' S4 H4 := (fr2.trans f3).trans f4
      obtain ⟨hD4, nD4⟩ := f24.out hDl nDl
      have ra4 := ra.mono (f24.tx m')
      cases b with
      | false => exact ⟨mm - 1, by omega, by omega, accv, acc, S4, hD4, nD4, ra4, by omega, m4, g4, f'.trans f24, q4⟩
      | true =>
        refine he.sim (e3.mono (f4.tx m3)) m4 q4 fun v y H5 S5 f5 m5 r5 q5 => ?_
        have g5 := wk.keep S4 H4 S5 H5 m4 f5 g4
        obtain ⟨hD5, nD5⟩ := f5.out hD4 nD4
        have ra5 := ra4.mono (f5.tx m4)
        have f25 := f24.trans f5
        have txu : Tx H5 (upd H5 Dl (.lst (accv ++ [v]))) := Tx.at hD5 id
        have frD : ∀ S6 : Mp, S6 Dl = none → Mt K H5 S6 → Mt K (upd H5 Dl (.lst (accv ++ [v]))) S6 := fun S6 n6 m6 a o eo => by
          have ne : a ≠ Dl := fun z => by rw [z, n6] at eo; cases eo
          exact (m6 a o eo).mono txu (upd_ne ne)
        refine ⟨accv, hD5, by rw [ra5.length]; omega, mm - 1, by omega, by omega, accv ++ [v], acc ++ [y], S5, upd_same, nD5, (ra5.append (.cons r5 .nil)).mono txu, by simp; omega, frD S5 nD5 m5, ?_, ?_, q5⟩
        · exact wk.oth S5 H5 Dl _ hD txu g5
        · intro a o ha na
          obtain ⟨h6, n6⟩ := (f'.trans f25) a o ha na
          rw [upd_ne (ne_of_none ha hD)]
          exact ⟨h6, n6⟩
    · have ei : i = xs.length := by omega
      subst ei
      rw [List.drop_length] at q'
      refine .inl ⟨wk.stops S' H' g', ?_⟩
      have nb : bkS lk S' Dl = none := by
        rcases bkS_at S' Dl lk with ⟨h3, _⟩ | ⟨p, h3, h4, _⟩
        · rw [h3]; exact nDl
        · exact absurd (by rw [← h4]; exact hD) (lo p h3).1
      have mb : Mt K H' (bkS lk S') := lk_mt lo m' g'
      have fb : Fr S H (bkS lk S') H' := lk_fr lo fS
      refine k (.ref Dl) (.loc Dl) H' (mset (bkS lk S') Dl (some (.lst acc))) (fun a o ha na => ?_) (fun a o ea => ?_) (.loc Dl) (q' Dl nDl nb)
      · obtain ⟨h6, n6⟩ := fb a o ha na
        refine ⟨h6, ?_⟩
        have ne : a ≠ Dl := fun z => by
          rw [z] at ha na
          obtain ⟨h7, _⟩ := f1 Dl o ha na
          rw [hD] at h7
          cases h7
        rw [mset_ne ne]
        exact n6
      · by_cases hz : a = Dl
        · subst hz
          rw [mset_same] at ea
          cases ea
          exact ⟨accv, hDl, ra⟩
        · rw [mset_ne hz] at ea
          exact mb a o ea
end
end DL

namespace DL
open PySem L2
section
variable {K : PySem.W.Frag}
/-- what follows a value that must be there -/
def optD {α : Type} (o : Option α) (k : α → Prop) : Prop := match o with
  | some a => k a
  | none => False
theorem optD_some {α : Type} {a : α} {k : α → Prop} : optD (some a) k = k a := rfl
theorem optD_none {α : Type} {k : α → Prop} : optD none k = False := rfl
theorem opt_elim {α : Type} {o : Option α} {R : α → Prop} (h : optD o R) : ∃ b, o = some b ∧ R b := by
  cases o with
  | none => exact h.elim
  | some a => exact ⟨a, rfl, h⟩
/-! ### operations on ints -/
def dI (C : Int → Int → Prop) (g : Int → Int → V) : D2 := fun x y S Q => match x, y with
  | .int i, .int j => C i j ∧ Q (sc (g i j)) S
  | _, _ => False
def dI0 (g : Int → Int → V) : D2 := fun x y S Q => match x, y with
  | .int i, .int j => Q (sc (g i j)) S
  | _, _ => False
def dU (g : Int → V) : D1 := fun x S Q => match x with
  | .int i => Q (sc (g i)) S
  | _ => False
theorem int2_elim {x y : PV} {R : Int → Int → Prop} (h : match x, y with | .int i, .int j => R i j | _, _ => False) : ∃ i j, x = .int i ∧ y = .int j ∧ R i j := by
  cases x <;> cases y <;> first | exact h.elim | exact ⟨_, _, rfl, rfl, h⟩
theorem str2_elim {x y : PV} {R : Str → Str → Prop} (h : match x, y with | .str i, .str j => R i j | _, _ => False) : ∃ i j, x = .str i ∧ y = .str j ∧ R i j := by
  cases x <;> cases y <;> first | exact h.elim | exact ⟨_, _, rfl, rfl, h⟩
instance {C : Int → Int → Prop} {g : Int → Int → V} : SimR K (rI C g) (dI C g) where
  sim {v u x y H S Q Q'} r1 r2 m h k := by
    obtain ⟨i, j, rfl, rfl, hc, q⟩ := int2_elim h
    exact ⟨i, j, rep_int r1, rep_int r2, hc, k _ _ H S Fr.refl m (rep_sc H _) q⟩
instance {g : Int → Int → V} : SimR K (rI0 g) (dI0 g) where
  sim {v u x y H S Q Q'} r1 r2 m h k := by
    obtain ⟨i, j, rfl, rfl, q⟩ := int2_elim h
    exact ⟨i, j, rep_int r1, rep_int r2, k _ _ H S Fr.refl m (rep_sc H _) q⟩
instance {g : Int → V} : SimU K (rU g) (dU g) where
  sim {v x H S Q Q'} r m h k := by
    obtain ⟨i, rfl, q⟩ := int_elim h
    exact ⟨i, rep_int r, k _ _ H S Fr.refl m (rep_sc H _) q⟩
/-! ### scalars compared -/
def unsc : PV → V
  | .non => .non | .bl b => .bl b | .int i => .int i | .str x => .str x | .ty n => .ty n | .loc a => .ref a | .raw v => v | .tup _ => .flt 0 | .ktup _ => .flt 0 | .kl _ => .flt 0
theorem rep_unsc {H : Hp} {v : V} {x : PV} (r : Rep K H v x) (h : unsc x ≠ .flt 0) : v = unsc x := by
  cases r <;> first | rfl | exact absurd rfl h
theorem scal_tup1 {x : PV} {w : V} (h : scal (unsc x) w = true) : unsc x ≠ .flt 0 := fun e => by
  rw [e] at h
  cases w <;> cases h
theorem scal_tup2 {x : PV} {w : V} (h : scal w (unsc x) = true) : unsc x ≠ .flt 0 := fun e => by
  rw [e] at h
  cases w <;> cases h
def eqP (x y : PV) : Bool := decide (unsc x = unsc y)
def dEqS : D2 := fun x y S Q => scal (unsc x) (unsc y) = true ∧ Q (.bl (eqP x y)) S
def dNeS : D2 := fun x y S Q => scal (unsc x) (unsc y) = true ∧ Q (.bl (!eqP x y)) S
instance : SimR K rEq dEqS where
  sim {v u x y H S Q Q'} r1 r2 m h k := by
    have e1 := rep_unsc r1 (scal_tup1 h.1)
    have e2 := rep_unsc r2 (scal_tup2 h.1)
    subst e1 e2
    exact ⟨h.1, k _ _ H S Fr.refl m (.bl _) h.2⟩
instance : SimR K rNe dNeS where
  sim {v u x y H S Q Q'} r1 r2 m h k := by
    have e1 := rep_unsc r1 (scal_tup1 h.1)
    have e2 := rep_unsc r2 (scal_tup2 h.1)
    subst e1 e2
    exact ⟨h.1, k _ _ H S Fr.refl m (.bl _) h.2⟩
def rIsN : R2 := fun x y H Q => y = .non ∧ Q (.bl (decide (x = .non))) H
def rNotN : R2 := fun x y H Q => y = .non ∧ Q (.bl (!decide (x = .non))) H
theorem o_isN {X : Cx} : OpR X (compareOp .Is) rIsN := op_isN
theorem o_notN {X : Cx} : OpR X (compareOp .IsNot) rNotN := op_notN
def isNon : PV → Bool
  | .non => true
  | .raw v => decide (v = .non)
  | _ => false
theorem isNon_ok {H : Hp} {v : V} {x : PV} (r : Rep K H v x) : decide (v = .non) = isNon x := by
  cases r <;> first | rfl | exact decide_eq_false (by intro z; cases z)
def dIsN : D2 := fun x y S Q => match y with
  | .non => Q (.bl (isNon x)) S
  | _ => False
def dNotN : D2 := fun x y S Q => match y with
  | .non => Q (.bl (!isNon x)) S
  | _ => False
theorem non_elim {x : PV} {R : Prop} (h : match x with | .non => R | _ => False) : x = .non ∧ R := by
  cases x <;> first | exact h.elim | exact ⟨rfl, h⟩
instance : SimR K rIsN dIsN where
  sim {v u x y H S Q Q'} r1 r2 m h k := by
    obtain ⟨rfl, q⟩ := non_elim h
    exact ⟨rep_non r2, k _ _ H S Fr.refl m (.bl _) (by rw [isNon_ok r1]; exact q)⟩
instance : SimR K rNotN dNotN where
  sim {v u x y H S Q Q'} r1 r2 m h k := by
    obtain ⟨rfl, q⟩ := non_elim h
    exact ⟨rep_non r2, k _ _ H S Fr.refl m (.bl _) (by rw [isNon_ok r1]; exact q)⟩
def dIsB (f : Bool → Bool → Bool) : D2 := fun x y S Q => match x, y with
  | .bl a, .bl b => Q (.bl (f a b)) S
  | _, _ => False
theorem bl2_elim {x y : PV} {R : Bool → Bool → Prop} (h : match x, y with | .bl i, .bl j => R i j | _, _ => False) : ∃ i j, x = .bl i ∧ y = .bl j ∧ R i j := by
  cases x <;> cases y <;> first | exact h.elim | exact ⟨_, _, rfl, rfl, h⟩
instance : SimR K rIsB (dIsB fun a b => decide (a = b)) where
  sim {v u x y H S Q Q'} r1 r2 m h k := by
    obtain ⟨i, j, rfl, rfl, q⟩ := bl2_elim h
    exact ⟨i, j, rep_bl r1, rep_bl r2, k _ _ H S Fr.refl m (.bl _) q⟩
instance : SimR K rNotB (dIsB fun a b => !decide (a = b)) where
  sim {v u x y H S Q Q'} r1 r2 m h k := by
    obtain ⟨i, j, rfl, rfl, q⟩ := bl2_elim h
    exact ⟨i, j, rep_bl r1, rep_bl r2, k _ _ H S Fr.refl m (.bl _) q⟩
/-! ### a sign in a text; flat things in a list or tuple -/
def rInSg : R2 := fun x y H Q => ∃ (c : Nat) (z : Str), x = .str ⟨#[c]⟩ ∧ y = .str z ∧ Q (.bl (decide (c ∈ z.cps.toList))) H
def rNotInSg : R2 := fun x y H Q => ∃ (c : Nat) (z : Str), x = .str ⟨#[c]⟩ ∧ y = .str z ∧ Q (.bl (!decide (c ∈ z.cps.toList))) H
theorem o_in_sg {X : Cx} : OpR X (compareOp .In) rInSg := op_in_sign
theorem o_notin_sg {X : Cx} : OpR X (compareOp .NotIn) rNotInSg := op_notIn_sign
def sgn (x : Str) : Option Nat := match x with
  | ⟨⟨[c]⟩⟩ => some c
  | _ => none
theorem sgn_some {x : Str} {c : Nat} (h : sgn x = some c) : x = ⟨#[c]⟩ := by
  obtain ⟨⟨l⟩⟩ := x
  cases l with
  | nil => cases h
  | cons a l =>
    cases l with
    | nil => cases h; rfl
    | cons b l => cases h
def dInSg (f : Bool → Bool) : D2 := fun x y S Q => match x, y with
  | .str a, .str z => optD (sgn a) fun c => Q (.bl (f (decide (c ∈ z.cps.toList)))) S
  | _, _ => False
instance : SimR K rInSg (dInSg id) where
  sim {v u x y H S Q Q'} r1 r2 m h k := by
    obtain ⟨a, z, rfl, rfl, h⟩ := str2_elim h
    obtain ⟨c, e, q⟩ := opt_elim h
    cases sgn_some e
    exact ⟨c, z, rep_str r1, rep_str r2, k _ _ H S Fr.refl m (.bl _) q⟩
instance : SimR K rNotInSg (dInSg not) where
  sim {v u x y H S Q Q'} r1 r2 m h k := by
    obtain ⟨a, z, rfl, rfl, h⟩ := str2_elim h
    obtain ⟨c, e, q⟩ := opt_elim h
    cases sgn_some e
    exact ⟨c, z, rep_str r1, rep_str r2, k _ _ H S Fr.refl m (.bl _) q⟩
def flatP : PV → Bool
  | .non => true | .bl _ => true | .int _ => true | .str _ => true
  | _ => false
theorem flat_of {H : Hp} {v : V} {x : PV} (r : Rep K H v x) (h : flatP x = true) : v = unsc x ∧ flatV v = true := by
  cases r <;> first | exact ⟨rfl, rfl⟩ | cases h
theorem flats_of {H : Hp} : ∀ {vs : List V} {xs : List PV}, Reps K H vs xs → xs.all flatP = true → vs = xs.map unsc ∧ vs.all flatV = true
  | _, _, .nil, _ => ⟨rfl, rfl⟩
  | _, _, .cons h r, e => by
    rw [List.all_cons, Bool.and_eq_true] at e
    obtain ⟨e1, f1⟩ := flat_of h e.1
    obtain ⟨e2, f2⟩ := flats_of r e.2
    exact ⟨by rw [List.map_cons, e1, e2], by rw [List.all_cons, f1, f2]; rfl⟩
/-- what a list or a tuple holds -/
def seqP (x : PV) (S : Mp) : Option (List PV) := match x with
  | .tup xs => some xs
  | .ktup xs => some xs
  | .kl xs => some xs
  | .loc p => match S p with
    | some (.lst xs) => some xs
    | some (.rol xs) => some xs
    | _ => none
  | _ => none
theorem seq_of {H : Hp} {S : Mp} {v : V} {x : PV} {xs : List PV} (m : Mt K H S) (r : Rep K H v x) (h : seqP x S = some xs) : ∃ p vs, v = .ref p ∧ Reps K H vs xs ∧ ((SqL K H p vs ∧ (x = .loc p ∨ x = .kl xs)) ∨ (SqT K H p vs ∧ (x = .tup xs ∨ x = .ktup xs))) := by
  cases x with
  | tup ys =>
    cases h
    obtain ⟨a, vs, rfl, h, rs⟩ := rep_tup r
    exact ⟨a, vs, rfl, rs, .inr ⟨SqT.of h, .inl rfl⟩⟩
  | ktup ys =>
    cases h
    obtain ⟨a, vs, rfl, h, rs⟩ := rep_ktup r
    exact ⟨a, vs, rfl, rs, .inr ⟨h.sq, .inr rfl⟩⟩
  | kl ys =>
    cases h
    obtain ⟨a, vs, rfl, h, rs⟩ := rep_kl r
    exact ⟨a, vs, rfl, rs, .inl ⟨h.sq, .inr rfl⟩⟩
  | loc p =>
    cases rep_loc r
    unfold seqP at h
    cases e : S p with
    | none => simp [e] at h
    | some o =>
      cases o with
      | lst ys =>
        simp only [e] at h
        cases h
        obtain ⟨vs, q, rs⟩ := m p _ e
        exact ⟨p, vs, rfl, rs, .inl ⟨SqL.of q, .inl rfl⟩⟩
      | rol ys =>
        simp only [e] at h
        cases h
        obtain ⟨vs, q, rs⟩ := m p _ e
        exact ⟨p, vs, rfl, rs, .inl ⟨.inl q, .inl rfl⟩⟩
      | _ => simp [e] at h
  | _ => cases h
def dInF (f : Bool → Bool) : D2 := fun x y S Q => optD (seqP y S) fun ys => flatP x = true ∧ ys.all flatP = true ∧ Q (.bl (f (inV (unsc x) (ys.map unsc)))) S
instance : SimR K (rIn K false) (dInF id) where
  sim {v u x y H S Q Q'} r1 r2 m h k := by
    obtain ⟨ys, e, h1, h2, q⟩ := opt_elim h
    obtain ⟨p, vs, rfl, rs, hs⟩ := seq_of m r2 e
    obtain ⟨e1, f1⟩ := flat_of r1 h1
    obtain ⟨e2, f2⟩ := flats_of rs h2
    subst e1 e2
    exact ⟨p, _, rfl, hs.imp (·.1) (·.1), f1, f2, k _ _ H S Fr.refl m (.bl _) q⟩
instance : SimR K (rIn K true) (dInF not) where
  sim {v u x y H S Q Q'} r1 r2 m h k := by
    obtain ⟨ys, e, h1, h2, q⟩ := opt_elim h
    obtain ⟨p, vs, rfl, rs, hs⟩ := seq_of m r2 e
    obtain ⟨e1, f1⟩ := flat_of r1 h1
    obtain ⟨e2, f2⟩ := flats_of rs h2
    subst e1 e2
    exact ⟨p, _, rfl, hs.imp (·.1) (·.1), f1, f2, k _ _ H S Fr.refl m (.bl _) q⟩
/-! ### items, slices -/
theorem atI_rep {H : Hp} {vs : List V} {xs : List PV} (r : Reps K H vs xs) {i : Int} {x : PV} (h : atI xs i = some x) : ∃ v, atI vs i = some v ∧ Rep K H v x := by
  unfold atI at h ⊢
  rw [r.length]
  cases e : ixN xs.length i with
  | none => rw [e] at h; cases h
  | some j =>
    rw [e] at h
    exact r.get h
def dIx : D2 := fun x y S Q => match y with
  | .int i => match x with
    | .str z => z.length ≤ sizeLine ∧ optD (atI z.cps.toList i) fun c => Q (.str ⟨#[c]⟩) S
    | x => optD (seqP x S) fun xs => optD (atI xs i) fun v => Q v S
  | _ => False
instance : SimR K (rIx K) dIx where
  sim {v u x y H S Q Q'} r1 r2 m h k := by
    obtain ⟨i, rfl, h⟩ := int_elim h
    cases rep_int r2
    have gen : (∃ xs, seqP x S = some xs ∧ ∃ z, atI xs i = some z ∧ Q' z S) → rIx K v (.int i) H Q := by
      rintro ⟨xs, e, z, ez, q⟩
      obtain ⟨p, vs, rfl, rs, hs⟩ := seq_of m r1 e
      obtain ⟨w, ew, rw⟩ := atI_rep rs ez
      rcases hs with ⟨hs, _⟩ | ⟨hs, _⟩
      · exact .inl ⟨p, vs, i, w, rfl, rfl, hs, ew, k w z H S Fr.refl m rw q⟩
      · exact .inr (.inl ⟨p, vs, i, w, rfl, rfl, hs, ew, k w z H S Fr.refl m rw q⟩)
    cases x with
    | str z =>
      obtain ⟨hl, h⟩ := h
      obtain ⟨c, e, q⟩ := opt_elim h
      cases rep_str r1
      exact .inr (.inr ⟨z, i, c, rfl, rfl, hl, e, k _ _ H S Fr.refl m (.str _) q⟩)
    | tup xs =>
      obtain ⟨z, ez, q⟩ := opt_elim h
      exact gen ⟨xs, rfl, z, ez, q⟩
    | ktup xs =>
      obtain ⟨z, ez, q⟩ := opt_elim h
      exact gen ⟨xs, rfl, z, ez, q⟩
    | kl xs =>
      obtain ⟨z, ez, q⟩ := opt_elim h
      exact gen ⟨xs, rfl, z, ez, q⟩
    | loc p =>
      obtain ⟨ys, e, h⟩ := opt_elim h
      obtain ⟨z, ez, q⟩ := opt_elim h
      exact gen ⟨ys, e, z, ez, q⟩
    | _ => exact h.elim
abbrev DO := DSt → Mp → (Option Int → Mp → Prop) → Prop
class SimO (K : PySem.W.Frag) (t : TO) (d : outParam DO) : Prop where
  sim : ∀ {σ : St} {ρ : DSt} {H : Hp} {S : Mp} {Q : Option Int → Hp → Prop} {Q' : Option Int → Mp → Prop}, Env K H σ ρ → Mt K H S → d ρ S Q' → (∀ o H' S', Fr S H S' H' → Mt K H' S' → Q' o S' → Q o H') → t σ H Q
def dNoPart : DO := fun _ S Q => Q none S
def dPart (a : DE) : DO := fun ρ S Q => a ρ S fun x S1 => match x with
  | .int i => Q (some i) S1
  | _ => False
instance : SimO K tNoPart dNoPart where
  sim {σ ρ H S Q Q'} e m h k := k none H S Fr.refl m h
instance {ta : TE} {da : DE} [ha : SimE K ta da] : SimO K (tPart ta) (dPart da) where
  sim {σ ρ H S Q Q'} e m h k := ha.sim e m h fun v x H1 S1 f1 m1 r1 q1 => by
    obtain ⟨i, rfl, q⟩ := int_elim q1
    exact ⟨i, rep_int r1, k _ H1 S1 f1 m1 q⟩
def cutP (xs : List PV) (lo hi : Option Int) : List PV := (xs.drop (HT.sIx xs.length 0 lo)).take (HT.sIx xs.length xs.length hi - HT.sIx xs.length 0 lo)
theorem cut_rep {H : Hp} {vs : List V} {xs : List PV} (r : Reps K H vs xs) (lo hi : Option Int) : Reps K H (cutV vs lo hi) (cutP xs lo hi) := by
  unfold cutV cutP
  rw [r.length]
  exact (r.drop _).take _
theorem cut_whole {xs : List PV} {lo hi : Option Int} (h : HT.sIx xs.length 0 lo = 0 ∧ HT.sIx xs.length xs.length hi = xs.length) : cutP xs lo hi = xs := by
  unfold cutP
  rw [h.1, h.2]
  simp
def rSlX (K : PySem.W.Frag) : V → Option Int → Option Int → Hp → VK → Prop := fun x lo hi H Q => rSlA K x lo hi H Q ∨ (rSlL K x lo hi H Q ∨ rSlS x lo hi H Q)
theorem sl_any {X : Cx} : SlR X (rSlX X.K) := SlR.or sl_tupA (SlR.or sl_list sl_str)
def dSlX : PV → Option Int → Option Int → Mp → DK → Prop := fun x lo hi S Q => match x with
  | .str z => z.length ≤ sizeLine ∧ Q (.str (cutS z lo hi)) S
  | .tup xs => Q (.tup (cutP xs lo hi)) S
  | .kl xs => ∀ q, S q = none → Q (.loc q) (mset S q (some (.lst (cutP xs lo hi))))
  | .loc p => optD (seqP (.loc p) S) fun xs => ∀ q, S q = none → Q (.loc q) (mset S q (some (.lst (cutP xs lo hi))))
  | _ => False
theorem slX_sim {x : PV} {v : V} {lo hi : Option Int} {H : Hp} {S : Mp} {Q : VK} {Q' : DK} (r : Rep K H v x) (m : Mt K H S) (h : dSlX x lo hi S Q') (k : ∀ v x H' S', Fr S H S' H' → Mt K H' S' → Rep K H' v x → Q' x S' → Q v H') : rSlX K v lo hi H Q := by
  cases x with
  | str z =>
    cases rep_str r
    exact .inr (.inr ⟨z, rfl, h.1, k _ _ H S Fr.refl m (.str _) h.2⟩)
  | tup xs =>
    obtain ⟨a, vs, rfl, hs, rs⟩ := rep_tup r
    refine .inl ⟨a, vs, rfl, SqT.of hs, fun hw => ?_, fun hw p hp => ?_⟩
    · rw [rs.length] at hw
      have e := cut_whole (xs := xs) (lo := lo) (hi := hi) hw
      exact k _ _ H S Fr.refl m (.tup hs rs) (by rw [← e]; exact h)
    · exact k _ _ _ S (Fr.newT hp) (m.newT hp) (new_tup (S := S) hp (cut_rep rs lo hi)) h
  | kl xs =>
    obtain ⟨q, vs, rfl, hs, rs⟩ := rep_kl r
    refine .inr (.inl ⟨q, vs, rfl, hs.sq, fun l hl => ?_⟩)
    exact k _ _ _ _ (Fr.new hl) (m.new hl fun o eo => by cases eo; exact new_lst hl (cut_rep rs lo hi)) (.loc l) (h l (m.freeS hl))
  | loc p =>
    obtain ⟨xs, e, h⟩ := opt_elim h
    obtain ⟨q, vs, rfl, rs, hs⟩ := seq_of m r e
    rcases hs with ⟨hs, _⟩ | ⟨_, z⟩
    · refine .inr (.inl ⟨q, vs, rfl, hs, fun l hl => ?_⟩)
      exact k _ _ _ _ (Fr.new hl) (m.new hl fun o eo => by cases eo; exact new_lst hl (cut_rep rs lo hi)) (.loc l) (h l (m.freeS hl))
    · rcases z with z | z <;> cases z
  | _ => exact h.elim
def dSl (a : DE) (lo hi : DO) : DE := fun ρ S Q => a ρ S fun x S1 => lo ρ S1 fun l S2 => hi ρ S2 fun u S3 => dSlX x l u S3 Q
instance {ta : TE} {da : DE} {tl th : TO} {dl dh : DO} [ha : SimE K ta da] [hl : SimO K tl dl] [hh : SimO K th dh] : SimE K (tSl (rSlX K) ta tl th) (dSl da dl dh) where
  sim {σ ρ H S Q Q'} e m h k := ha.sim e m h fun v x H1 S1 f1 m1 r1 q1 => hl.sim (e.mono (f1.tx m)) m1 q1 fun l H2 S2 f2 m2 q2 => hh.sim (e.mono ((f1.trans f2).tx m)) m2 q2 fun u H3 S3 f3 m3 q3 =>
    slX_sim (r1.mono ((f2.trans f3).tx m1)) m3 q3 fun v' x' H' S' f' m' r' q' => k v' x' H' S' (((f1.trans f2).trans f3).trans f') m' r' q'
def dRevL (a : DE) : DE := fun ρ S Q => a ρ S fun x S1 => match x with
  | .loc p => optD (seqP (.loc p) S1) fun xs => ∀ q, S1 q = none → Q (.loc q) (mset S1 q (some (.lst xs.reverse)))
  | _ => False
instance {ta : TE} {da : DE} [ha : SimE K ta da] : SimE K (tRevL K ta) (dRevL da) where
  sim {σ ρ H S Q Q'} e m h k := ha.sim e m h fun v x H1 S1 f1 m1 r1 q1 => by
    obtain ⟨p, rfl, h⟩ := loc_elim q1
    obtain ⟨xs, e2, h⟩ := opt_elim h
    obtain ⟨q, vs, rfl, rs, hs⟩ := seq_of m1 r1 e2
    rcases hs with ⟨hs, _⟩ | ⟨_, z⟩
    · refine ⟨q, vs, rfl, hs, fun l hl => ?_⟩
      exact k _ _ _ _ (f1.trans (Fr.new hl)) (m1.new hl fun o eo => by cases eo; exact new_lst hl rs.reverse) (.loc l) (h l (m1.freeS hl))
    · rcases z with z | z <;> cases z
def lstP (S : Mp) (p : Addr) : Option (List PV) := match S p with
  | some (.lst xs) => some xs
  | _ => none
theorem lstP_some {S : Mp} {p : Addr} {xs : List PV} (h : lstP S p = some xs) : S p = some (.lst xs) := by
  unfold lstP at h
  split at h
  · rename_i e; cases h; exact e
  · cases h
/-! ### + -/
def rPlus (K : PySem.W.Frag) : R2 := fun x y H Q => rI0 (fun i j => .int (i + j)) x y H Q ∨ ((fun x y H (Q : VK) => ∃ i j, x = .str i ∧ y = .str j ∧ i.length + j.length ≤ sizeLine ∧ Q (.str (i ++ j)) H) x y H Q ∨ (rCatA K x y H Q ∨ rCat x y H Q))
theorem op_plus {X : Cx} : OpR X (binaryOp .Add) (rPlus X.K) := OpR.or op_add (OpR.or op_add_str (OpR.or op_catA op_cat))
def dPlus : D2 := fun x y S Q => match x, y with
  | .int i, .int j => Q (.int (i + j)) S
  | .str i, .str j => i.length + j.length ≤ sizeLine ∧ Q (.str (i ++ j)) S
  | .tup xs, .tup ys => xs.length + ys.length ≤ sizeLine ∧ Q (.tup (xs ++ ys)) S
  | .loc p, .loc q => optD (lstP S p) fun xs => optD (lstP S q) fun ys => xs.length + ys.length ≤ sizeLine ∧ ∀ l, S l = none → Q (.loc l) (mset S l (some (.lst (xs ++ ys))))
  | _, _ => False
instance : SimR K (rPlus K) dPlus where
  sim {v u x y H S Q Q'} r1 r2 m h k := by
    cases x <;> cases y <;> first | exact h.elim | skip
    · cases rep_int r1; cases rep_int r2
      exact .inl ⟨_, _, rfl, rfl, k _ _ H S Fr.refl m (.int _) h⟩
    · cases rep_str r1; cases rep_str r2
      exact .inr (.inl ⟨_, _, rfl, rfl, h.1, k _ _ H S Fr.refl m (.str _) h.2⟩)
    · obtain ⟨a, vs, rfl, h1, q1⟩ := rep_tup r1
      obtain ⟨b, us, rfl, h2, q2⟩ := rep_tup r2
      obtain ⟨hl, h⟩ := h
      refine .inr (.inr (.inl ⟨a, b, vs, us, rfl, rfl, SqT.of h1, SqT.of h2, by rw [q1.length, q2.length]; exact hl, fun z => ?_, fun _ z => ?_, fun _ _ p hp => ?_⟩))
      · have e := q1.nil_iff.mp z
        subst e
        exact k _ _ H S Fr.refl m r2 h
      · have e := q2.nil_iff.mp z
        subst e
        exact k _ _ H S Fr.refl m r1 (by rw [List.append_nil] at h; exact h)
      · exact k _ _ _ S (Fr.newT hp) (m.newT hp) (new_tup (S := S) hp (q1.append q2)) h
    · rename_i p q
      cases rep_loc r1; cases rep_loc r2
      obtain ⟨xs, e1, h⟩ := opt_elim h
      obtain ⟨ys, e2, hl, h⟩ := opt_elim h
      obtain ⟨vs, q1, s1⟩ := m p _ (lstP_some e1)
      obtain ⟨us, q2, s2⟩ := m q _ (lstP_some e2)
      refine .inr (.inr (.inr ⟨p, q, vs, us, rfl, rfl, q1, q2, by rw [s1.length, s2.length]; exact hl, fun l hl => ?_⟩))
      exact k _ _ _ _ (Fr.new hl) (m.new hl fun o eo => by cases eo; exact new_lst hl (s1.append s2)) (.loc l) (h l (m.freeS hl))
/-! ### calls of built-ins -/
def rLen (K : PySem.W.Frag) : List V → Hp → VK → Prop := fun xs H Q => ∃ x n, xs = [x] ∧ LenV K x H n ∧ Q (.int n) H
theorem c_len {X : Cx} : CallR X (.builtin "len") (rLen X.K) := call_len
def dLen : DC := fun xs S Q => match xs with
  | [.str z] => z.length ≤ sizeLine ∧ Q (.int z.length) S
  | [x] => optD (seqP x S) fun ys => Q (.int ys.length) S
  | _ => False
theorem reps1 {H : Hp} {vs : List V} {x : PV} (r : Reps K H vs [x]) : ∃ v, vs = [v] ∧ Rep K H v x := by
  cases r with
  | cons h r => cases r; exact ⟨_, rfl, h⟩
theorem reps2 {H : Hp} {vs : List V} {x y : PV} (r : Reps K H vs [x, y]) : ∃ v u, vs = [v, u] ∧ Rep K H v x ∧ Rep K H u y := by
  cases r with
  | cons h r =>
    obtain ⟨u, rfl, h2⟩ := reps1 r
    exact ⟨_, _, rfl, h, h2⟩
theorem len_sim {x : PV} {v : V} {ys : List PV} {H : Hp} {S : Mp} (m : Mt K H S) (r : Rep K H v x) (e : seqP x S = some ys) : LenV K v H ys.length := by
  obtain ⟨p, vs, rfl, rs, hs⟩ := seq_of m r e
  rcases hs with ⟨hs, _⟩ | ⟨hs, _⟩
  · exact .inl ⟨vs, hs, rs.length.symm⟩
  · exact .inr ⟨vs, hs, rs.length.symm⟩
instance : SimC K (rLen K) dLen where
  sim {vs xs H S Q Q'} r m h k := by
    rcases xs with _ | ⟨x, _ | ⟨y, xs⟩⟩
    · exact h.elim
    · obtain ⟨v, rfl, r1⟩ := reps1 r
      cases x with
      | str z =>
        cases rep_str r1
        exact ⟨_, _, rfl, ⟨h.1, rfl⟩, k _ _ H S Fr.refl m (.int _) h.2⟩
      | tup ys => exact ⟨_, _, rfl, len_sim m r1 rfl, k _ _ H S Fr.refl m (.int _) h⟩
      | ktup ys => exact ⟨_, _, rfl, len_sim m r1 rfl, k _ _ H S Fr.refl m (.int _) h⟩
      | kl ys => exact ⟨_, _, rfl, len_sim m r1 rfl, k _ _ H S Fr.refl m (.int _) h⟩
      | loc p =>
        obtain ⟨ys, e, q⟩ := opt_elim h
        exact ⟨_, _, rfl, len_sim m r1 e, k _ _ H S Fr.refl m (.int _) q⟩
      | _ => exact h.elim
    · cases x <;> exact h.elim
def rMaxI : List V → Hp → VK → Prop := fun xs H Q => ∃ i j, xs = [.int i, .int j] ∧ Q (.int (if j > i then j else i)) H
def rMinI : List V → Hp → VK → Prop := fun xs H Q => ∃ i j, xs = [.int i, .int j] ∧ Q (.int (if j < i then j else i)) H
theorem c_max2 {X : Cx} (hc : X.calm = true) : CallR X (.builtin "max") rMaxI := call_max2 hc
theorem c_min2 {X : Cx} (hc : X.calm = true) : CallR X (.builtin "min") rMinI := call_min2 hc
def dI2 (g : Int → Int → Int) : DC := fun xs S Q => match xs with
  | [.int i, .int j] => Q (.int (g i j)) S
  | _ => False
theorem dI2_elim {xs : List PV} {R : Int → Int → Prop} (h : match xs with | [.int i, .int j] => R i j | _ => False) : ∃ i j, xs = [.int i, .int j] ∧ R i j := by
  rcases xs with _ | ⟨x, _ | ⟨y, _ | ⟨z, xs⟩⟩⟩
  · exact h.elim
  · cases x <;> exact h.elim
  · cases x <;> cases y <;> first | exact h.elim | exact ⟨_, _, rfl, h⟩
  · cases x <;> cases y <;> exact h.elim
instance : SimC K rMaxI (dI2 fun i j => if j > i then j else i) where
  sim {vs xs H S Q Q'} r m h k := by
    obtain ⟨i, j, rfl, q⟩ := dI2_elim h
    obtain ⟨v, u, rfl, r1, r2⟩ := reps2 r
    cases rep_int r1; cases rep_int r2
    exact ⟨i, j, rfl, k _ _ H S Fr.refl m (.int _) q⟩
instance : SimC K rMinI (dI2 fun i j => if j < i then j else i) where
  sim {vs xs H S Q Q'} r m h k := by
    obtain ⟨i, j, rfl, q⟩ := dI2_elim h
    obtain ⟨v, u, rfl, r1, r2⟩ := reps2 r
    cases rep_int r1; cases rep_int r2
    exact ⟨i, j, rfl, k _ _ H S Fr.refl m (.int _) q⟩
def rInt1 : List V → Hp → VK → Prop := fun xs H Q => (∃ i, xs = [.int i] ∧ Q (.int i) H) ∨ ∃ k, xs = [.bl k] ∧ Q (.int (if k then 1 else 0)) H
theorem c_int {X : Cx} : CallR X (.type "int") rInt1 := call_int1
def dInt1 : DC := fun xs S Q => match xs with
  | [.int i] => Q (.int i) S
  | [.bl b] => Q (.int (if b then 1 else 0)) S
  | _ => False
instance : SimC K rInt1 dInt1 where
  sim {vs xs H S Q Q'} r m h k := by
    rcases xs with _ | ⟨x, _ | ⟨y, xs⟩⟩
    · exact h.elim
    · obtain ⟨v, rfl, r1⟩ := reps1 r
      cases x with
      | int i => cases rep_int r1; exact .inl ⟨_, rfl, k _ _ H S Fr.refl m (.int _) h⟩
      | bl i => cases rep_bl r1; exact .inr ⟨_, rfl, k _ _ H S Fr.refl m (.int _) h⟩
      | _ => exact h.elim
    · cases x <;> exact h.elim
/-- isinstance with a built-in class -/
def isB (x : PV) (S : Mp) (n : String) : Bool := match x with
  | .int _ => n == "int"
  | .bl _ => n == "int" || n == "bool"
  | .str _ => n == "str"
  | .tup _ => n == "tuple"
  | .ktup _ => n == "tuple"
  | .loc p => match S p with
    | some (.lst _) => n == "list"
    | some (.rol _) => n == "list"
    | some (.dk _) => n == "dict"
    | some (.dt _) => n == "dict"
    | _ => false
  | _ => false
def okTy : List String := ["int", "bool", "str", "tuple", "list", "dict"]
def tyP (x : PV) (S : Mp) : Option String := match x with
  | .int _ => some "int"
  | .bl _ => some "bool"
  | .str _ => some "str"
  | .non => some "NoneType"
  | .tup _ => some "tuple"
  | .ktup _ => some "tuple"
  | .loc p => match S p with
    | some (.lst _) => some "list"
    | some (.dk _) => some "dict"
    | some (.dt _) => some "dict"
    | _ => none
  | _ => none
def dIsi : DC := fun xs S Q => match xs with
  | [x, .ty n] => (tyP x S).isSome = true ∧ n ∈ okTy ∧ Q (.bl (isB x S n)) S
  | _ => False
end
end DL

namespace PySem
open AutoSeq1 (wpAny_loadPart')
set_option maxHeartbeats 1000000 in
theorem meets_enumerate_new1B {v : Value} {o : Obj} {H : Heap → Prop} (B : Begins v o H) :
    Meets (Builtin.«enumerate.__new__» ⟨[.type "enumerate", v], []⟩) (fun _ R s => H s.heap ∧
      R (.ok (.ret (.ref (s.heap.push o).objs.size))) { s with heap := (s.heap.push o).push { cls := .type "enumerate", data := .fields #[.none, .bool false, .ref s.heap.objs.size, rawInt 0, .none, .none] } }) :=
  .of_wp fun prog w A R s h => by
    obtain ⟨hp, g, d, tk, os⟩ := s
    obtain ⟨hH, h⟩ := h
    have hsub := sub_enumerate
    have q1 : ∀ {A' : Around} {E : Value → Shared → Prop} {Q : Value → Shared → Prop}, Q (.ref hp.objs.size) ⟨hp.push o, g, d, tk, os⟩ → wpAny (model prog w) A' (pyIter v) Q E ⟨hp, g, d, tk, os⟩ :=
      fun q => B.iter prog w _ _ ⟨hp, g, d, tk, os⟩ _ hH q
    wp_walk using q1
    refine wpAny_stack_any fun st => wpAny_pure ?_
    split
    · rename_i c _ _ _ _ _
      cases (c == Value.type "enumerate")
      · wp_walk using q1
        exact ⟨_, rfl, h⟩
      · wp_walk using q1
        exact ⟨_, rfl, h⟩
    · wp_walk using q1
      exact ⟨_, rfl, h⟩
theorem call_enumerate_1B {prog : Program} {w : World} {A : Around} {E : Value → Shared → Prop} {s : Shared} {v : Value} {o : Obj} {H : Heap → Prop} {Q : Value → Shared → Prop} (B : Begins v o H) (h1 : H s.heap)
    (h : ∀ h', IsEnum h' (s.heap.objs.size + 1) s.heap.objs.size 0 .none → h'.get? s.heap.objs.size = some o → h'.objs.size = s.heap.objs.size + 2 →
      (∀ b o, s.heap.get? b = some o → h'.get? b = some o) → Q (.ref (s.heap.objs.size + 1)) { s with heap := h' }) :
    wpAny (model prog w) A (call (.type "enumerate") [v]) Q E s := by
  refine callType_new F.called_enumerate (by decide) (F.typeCall_enumerate_1 _) (F.newCall_enumerate_1 _) (fun obj => F.args_object_init_2 obj _) F.entry_enumerate_new
    (meets_enumerate_new1B B) ⟨h1, ?_⟩
  have hz : (s.heap.push o).objs.size = s.heap.objs.size + 1 := Heap.size_push ..
  show _ ∧ _
  rw [hz]
  have he : IsEnum ((s.heap.push o).push { cls := .type "enumerate", data := .fields #[.none, .bool false, .ref s.heap.objs.size, rawInt 0, .none, .none] }) (s.heap.objs.size + 1) s.heap.objs.size 0 .none := by
    have := Heap.get?_push_size (s.heap.push o) (o := { cls := .type "enumerate", data := .fields #[.none, .bool false, .ref s.heap.objs.size, rawInt 0, .none, .none] }) rfl
    rw [hz] at this; exact this
  refine ⟨⟨_, he, rfl⟩, h _ he (Heap.get?_push_of_some _ (Heap.get?_push_size _ B.free)) (by rw [Heap.size_push, hz]) fun b o x => Heap.get?_push_of_some _ (Heap.get?_push_of_some _ x)⟩
theorem wpAny_pyNext_enum_endT {prog : Program} {w : World} {A : Around} {E : Value → Shared → Prop} {s : Shared} {e it t : Addr} {j : Int} {i : Nat} {items : Array Value} {old : Value} {Q : Option Value → Shared → Prop} (hh : A.handled = none)
    (he : IsEnum s.heap e it j old) (hit : s.heap.IsTupleIter it t i) (hl : s.heap.IsTuple t items) (hx : items[i]? = none)
    (hQ : ∀ h', Heap.ExtBut it s.heap h' → Q none { s with heap := h' }) : wpAny (model prog w) A (pyNext (.ref e)) Q E s := by
  have hT : s.TypeIs (.ref e) "enumerate" := ⟨_, he, rfl⟩
  unfold pyNext
  refine wpAny_bind (wpAny_attempt (wpAny_callSpecial?_slot (name := Str.ofString "__next__") hT F.slot_enumerate_next
    (wpAny_call_entry F.slot_enumerate_next hT F.entry_enumerate_next ?_ (F.args_enumerate_next_1 _))))
  show wpAny _ _ (field (.ref e) 2 >>= _) _ _ _
  refine wpAny_bind (wpAny_field he rfl (x := .ref it) rfl ?_)
  refine wpAny_bind (wpAny_nextOf_tuple_end hh hit hl hx fun h' x he' hx' => ?_)
  obtain ⟨o, ho, hc⟩ := hx'
  refine wpAny_bind (wpAny_isInstance (T := "StopIteration") (b := true) ⟨o, ho, hc⟩ isSubtype_stop ?_)
  exact wpAny_pure (hQ _ he')
end PySem
namespace DL
open PySem L2 PyProof.Rows
def ItetT (K : PySem.W.Frag) (a : Addr) : It :=
  ⟨fun i H => ∃ (xs : List V) (x : V), SqT K H a xs ∧ xs[i]? = some x, fun i H v H' => ∃ T x, v = .ref T ∧ H T = none ∧ H' = upd H T (.tup [.int (i : Nat), x]) ∧ ∀ xs, SqT K H a xs → xs[i]? = some x, fun i H => ∃ xs : List V, SqT K H a xs ∧ xs.length ≤ i⟩
theorem turn_enumT {P : Program} {w : World} {K : PySem.W.Frag} {elts : List Expr} {kk : Nat} {tpos : Pos} (a e it : Addr) (hai : a ≠ it) (hae : a ≠ e) :
    Turn P w K (.Tuple elts kk tpos) (ItetT K a) [e, it] e (fun i h => (∃ old, IsEnum h e it ((i : Nat) : Int) old) ∧ h.IsTupleIter it a i ∧ e ≠ it) where
  mem := by simp
  obj := fun i h st b hb => by
    obtain ⟨⟨old, he⟩, ⟨o, ho, hc, hd⟩, _⟩ := st
    have e' : b = e ∨ b = it := by simpa using hb
    rcases e' with z | z
    · rw [z]; exact ⟨_, he, fun v q => nomatch q⟩
    · rw [z]; exact ⟨o, ho, fun v q => by rw [hd] at q; cases q⟩
  keep := fun i h h' st k => let ⟨⟨old, he⟩, hi, hne⟩ := st; ⟨⟨old, k e (by simp) _ he⟩, hi.at fun o q => k it (by simp) o q, hne⟩
  item := by
    intro X hP hw hK hc i pins s σ H E I hf st hg
    subst hP hw hK
    obtain ⟨⟨old, he⟩, hit, hne⟩ := st
    obtain ⟨xs, x, hq, hx⟩ := hg
    obtain ⟨its, rv, p, hz⟩ := I.tuple hq
    obtain ⟨u, hu, ru⟩ := rv.get hx
    have hel : e < s.heap.objs.size := Heap.lt_size he
    have hil : it < s.heap.objs.size := by obtain ⟨_, q, _⟩ := hit; exact Heap.lt_size q
    have hlt : i < its.toArray.size := by
      have := (List.getElem?_eq_some_iff.mp hu).1
      simpa using this
    refine wpAny_pyNext_enum_itemC (Draws.tuple (by exact I.ok.hd hc) it a hai its.toArray) he ⟨hit, p⟩ hlt hne (by simp [hne, Ne.symm hae]) fun y h' tk hy ho hst' hT hsz hk => ?_
    obtain rfl : u = y := by
      have : its[i]? = some y := by simpa using hy
      rw [hu] at this
      exact Option.some.inj this
    refine ⟨_, rfl, wpAny_letOwnedTupleGo_enum (s := { s with heap := h', toks := tk + 1 }) ho fun h'' he' sb => ?_⟩
    have hT2 : h''.get? s.heap.objs.size = some { cls := .type "tuple", data := .seq #[.int i tk, u] } := (sb.2 _ (Nat.ne_of_gt hel)).trans hT
    have new : ObjOk X.prog X.w (upd H s.heap.objs.size (.tup [.int (i : Nat), x])) h'' s.heap.objs.size (.tup [.int (i : Nat), x]) :=
      ⟨by show 2 ≤ sizeLine; decide, [.int i tk, u], .cons ⟨_, rfl⟩ (.cons ru .nil), ⟨_, hT2, rfl, _, rfl⟩⟩
    have I1 : Inv X pins σ (upd H s.heap.objs.size (.tup [.int (i : Nat), x])) { s with heap := h'', toks := tk + 1 } :=
      I.turnedNew (ch := [e, it]) (fun b ob hb q => (sb.2 b (fun z => hb (by simp [z]))).trans (hk b ob (fun z => hb (by simp [z])) (fun z => hb (by simp [z])) q)) hf (Nat.le_refl _) new
    refine ⟨.ref s.heap.objs.size, _, I1, rfl, ⟨_, x, rfl, I.hok.fresh (Nat.le_refl _), rfl, fun ys hy => by rw [I.tuple_inj hy hq]; exact hx⟩, ⟨⟨u, ?_⟩, hst'.1.at fun o q => (sb.2 it (Ne.symm hne)).trans q, hne⟩, fun b hb => ?_⟩
    · have e1 : ((i + 1 : Nat) : Int) = (i : Int) + 1 := by omega
      rw [e1]; exact he'
    · have hb' : b < s.heap.objs.size := by
        have e' : b = e ∨ b = it := by simpa using hb
        rcases e' with z | z
        · rw [z]; exact hel
        · rw [z]; exact hil
      rw [upd_ne (Nat.ne_of_lt hb')]
      exact (hf b hb).1
  done := by
    intro X hP hw hK hc i pins s σ H E I hf st hg
    subst hP hw hK
    obtain ⟨⟨old, he⟩, hit, hne⟩ := st
    obtain ⟨xs, hq, hx⟩ := hg
    obtain ⟨its, rv, p, hz⟩ := I.tuple hq
    obtain ⟨f0, f1, f2, f3, f4, f5⟩ := hf it (by simp)
    have hl := rv.length
    have ei : its.toArray[i]? = none := by simp; omega
    exact wpAny_pyNext_enum_endT (I.ok.hd hc) he hit p ei fun h' eb => ⟨rfl, I.turned (t' := s.toks) (fun b o hb q => eb b o hb q) f0 f1 f3 f4 f5⟩
  self := fun A i s Q E st h => let ⟨⟨_, he⟩, _⟩ := st; wpAny_pyIter_enum he h
def iEnumT (K : PySem.W.Frag) (ta : TA) : TI := fun σ H R => ta σ H fun vs H1 => ∃ a xs, vs = [.ref a] ∧ SqT K H1 a xs ∧ R (ItetT K a) H1
theorem pi_enumT {X : Cx} {e : Expr} {ta : TA} {p pos tpos : Pos} {elts : List Expr} {kk : Nat} (hg : Gl X "enumerate") (hm : X.mg "enumerate" = none) (ha : PA X [e] ta) (hs : starEach [e] X.env = [(false, eval e X.env)] := by rfl) :
    PI X (.Tuple elts kk tpos) (.Call (.Name "enumerate" p) [e] [] pos) (iEnumT X.K ta) := by
  refine ⟨fun pins s σ H R I h => ?_⟩
  refine Call_ (ld_blt I hg hm boot_enumerate (PyProof.Rows.callWith_type1 (thn (ha.run pos pins s σ H _ I h) fun us s1 ⟨vs, H1, I1, r1, q1⟩ => ?_) hs rfl))
  obtain ⟨a, xs, ex, hq, q⟩ := q1
  subst ex
  cases r1 with
  | cons r rr =>
    cases rr
    cases r
    obtain ⟨its, rv, p', hz⟩ := I1.tuple hq
    have hal : a < s1.heap.objs.size := p'.lt
    refine call_enumerate_1B (begins_tuple a its.toArray) p' fun h' he hit hsz hk => wpAny_pyIter_enum he ?_
    have I2 : Inv X pins σ H1 { s1 with heap := h' } := I1.kept (t' := s1.toks) hk
    refine ⟨s1.heap.objs.size + 1, [s1.heap.objs.size + 1, s1.heap.objs.size], _, _, H1, rfl, I2, turn_enumT a (s1.heap.objs.size + 1) s1.heap.objs.size (Nat.ne_of_lt hal) (Nat.ne_of_lt (Nat.lt_succ_of_lt hal)), ⟨⟨.none, he⟩, ⟨_, hit, rfl, rfl⟩, Nat.succ_ne_self _⟩, fun b hb => ?_, q⟩
    have e' : b = s1.heap.objs.size + 1 ∨ b = s1.heap.objs.size := by simpa using hb
    have hle : s1.heap.objs.size ≤ b := by
      rcases e' with z | z
      · rw [z]; exact Nat.le_add_right _ _
      · rw [z]; exact Nat.le_refl _
    exact I1.fpOk hle (I1.hok.fresh hle)
theorem walk_enumT {K : PySem.W.Frag} {a : Addr} {xs : List V} : Walk (ItetT K a) xs.length (fun H => SqT K H a xs) (YPair (fun i => some (.int (i : Nat))) (fun i => xs[i]?)) where
  goes i H hi hG := ⟨xs, xs[i], hG, List.getElem?_eq_getElem hi⟩
  stops H hG := ⟨xs, hG, Nat.le_refl _⟩
  yields i H v H' _ hG := fun ⟨T, x, e, hT, eH, hx⟩ => ⟨T, _, x, e, hT, eH, rfl, hx xs hG⟩
end DL

namespace DL
open PySem L2
section
variable {K : PySem.W.Frag}
/-! ### isinstance -/
def isT (a n : String) : Bool := if a = "int" then n == "int" else if a = "bool" then n == "int" || n == "bool" else if a = "str" then n == "str" else if a = "tuple" then n == "tuple" else if a = "list" then n == "list" else if a = "dict" then n == "dict" else false
def tyAll : List String := ["int", "bool", "str", "NoneType", "tuple", "list", "dict"]
theorem kit_tab : (tyAll.all fun a => okTy.all fun n => decide (kitB a n = some (isT a n))) = true := by decide +kernel
theorem kit_at {a n : String} (ha : a ∈ tyAll) (hn : n ∈ okTy) : kitB a n = some (isT a n) := by
  have h := List.all_eq_true.mp kit_tab a ha
  have h2 := List.all_eq_true.mp h n hn
  exact of_decide_eq_true h2
theorem rep_ty_of {H : Hp} {S : Mp} {v : V} {x : PV} {t : String} (m : Mt K H S) (r : Rep K H v x) (h : tyP x S = some t) : TyX K H v (.type t) ∧ t ∈ tyAll ∧ ∀ n, isB x S n = isT t n := by
  have hm : ∀ u ∈ tyAll, u ∈ tyAll := fun _ z => z
  cases x with
  | int i => cases h; cases rep_int r; exact ⟨.base (.int i), by decide, fun n => rfl⟩
  | bl i => cases h; cases rep_bl r; exact ⟨.base (.bl i), by decide, fun n => rfl⟩
  | str i => cases h; cases rep_str r; exact ⟨.base (.str i), by decide, fun n => rfl⟩
  | non => cases h; cases rep_non r; exact ⟨.base .non, by decide, fun n => rfl⟩
  | tup xs =>
    cases h
    obtain ⟨a, vs, rfl, hs, rs⟩ := rep_tup r
    exact ⟨.base (.tup hs), by decide, fun n => rfl⟩
  | ktup xs =>
    cases h
    obtain ⟨a, vs, rfl, ⟨o, its, n, hk, hc, _⟩ | ⟨o, hf, _⟩, rs⟩ := rep_ktup r
    · exact ⟨.kTuple hk hc, by decide, fun n => rfl⟩
    · exact ⟨.fTuple hf, by decide, fun n => rfl⟩
  | loc p =>
    cases rep_loc r
    unfold tyP at h
    cases e : S p with
    | none => simp [e] at h
    | some o =>
      cases o with
      | lst xs =>
        simp only [e] at h; cases h
        obtain ⟨vs, q, _⟩ := m p _ e
        exact ⟨.base (.lst q), by decide, fun n => by simp only [isB, e]; rfl⟩
      | dk xs =>
        simp only [e] at h; cases h
        obtain ⟨vs, q, _⟩ := m p _ e
        exact ⟨.base (.dK q), by decide, fun n => by simp only [isB, e]; rfl⟩
      | dt xs =>
        simp only [e] at h; cases h
        obtain ⟨vs, q, _⟩ := m p _ e
        exact ⟨.base (.dT q), by decide, fun n => by simp only [isB, e]; rfl⟩
      | _ => simp [e] at h
  | ty n => cases h
  | raw v => cases h
  | kl xs => cases h
instance : SimC K (rIsi K) dIsi where
  sim {vs xs H S Q Q'} r m h k := by
    obtain ⟨x, n, rfl, hs, hn, q⟩ : ∃ x n, xs = [x, .ty n] ∧ (tyP x S).isSome = true ∧ n ∈ okTy ∧ Q' (.bl (isB x S n)) S := by
      rcases xs with _ | ⟨x, _ | ⟨y, _ | ⟨z, xs⟩⟩⟩
      · exact h.elim
      · exact h.elim
      · cases y <;> first | exact h.elim | exact ⟨_, _, rfl, h⟩
      · cases y <;> exact h.elim
    obtain ⟨v, u, rfl, r1, r2⟩ := reps2 r
    cases rep_ty r2
    obtain ⟨t, et⟩ := Option.isSome_iff_exists.mp hs
    obtain ⟨ty, ht, he⟩ := rep_ty_of m r1 et
    exact ⟨v, .ty n, .type t, .type n, isT t n, rfl, .ty n, ty, kit_ty (kit_at ht hn), k _ _ H S Fr.refl m (.bl _) (by rw [← he n]; exact q)⟩
/-! ### list, tuple, all -/
def rListC (K : PySem.W.Frag) : List V → Hp → VK → Prop := fun xs H Q => ∃ p ys, xs = [.ref p] ∧ (SqL K H p ys ∨ SqT K H p ys) ∧ ∀ l, H l = none → Q (.ref l) (upd H l (.lst ys))
theorem c_list {X : Cx} : CallR X (.type "list") (rListC X.K) := call_list_of
def dListC : DC := fun xs S Q => match xs with
  | [x] => optD (seqP x S) fun ys => ∀ l, S l = none → Q (.loc l) (mset S l (some (.lst ys)))
  | _ => False
theorem one_elim {xs : List PV} {R : PV → Prop} (h : match xs with | [x] => R x | _ => False) : ∃ x, xs = [x] ∧ R x := by
  rcases xs with _ | ⟨x, _ | ⟨y, xs⟩⟩
  · exact h.elim
  · exact ⟨x, rfl, h⟩
  · exact h.elim
instance : SimC K (rListC K) dListC where
  sim {vs xs H S Q Q'} r m h k := by
    obtain ⟨x, rfl, h⟩ := one_elim h
    obtain ⟨ys, e, h⟩ := opt_elim h
    obtain ⟨v, rfl, r1⟩ := reps1 r
    obtain ⟨p, vs, rfl, rs, hs⟩ := seq_of m r1 e
    refine ⟨p, vs, rfl, hs.imp (·.1) (·.1), fun l hl => ?_⟩
    exact k _ _ _ _ (Fr.new hl) (m.new hl fun o eo => by cases eo; exact new_lst hl rs) (.loc l) (h l (m.freeS hl))
def rTupC (K : PySem.W.Frag) : List V → Hp → VK → Prop := fun xs H Q => ∃ p ys, xs = [.ref p] ∧ ((SqL K H p ys ∧ ∀ l, H l = none → Q (.ref l) (upd H l (.tup ys))) ∨ (SqT K H p ys ∧ Q (.ref p) H))
theorem c_tuple {X : Cx} : CallR X (.type "tuple") (rTupC X.K) := call_tuple_of
def noK : PV → Prop
  | .ktup _ => False
  | _ => True
def dTupC : DC := fun xs S Q => match xs with
  | [x] => optD (seqP x S) fun ys => noK x ∧ Q (.tup ys) S
  | _ => False
instance : SimC K (rTupC K) dTupC where
  sim {vs xs H S Q Q'} r m h k := by
    obtain ⟨x, rfl, h⟩ := one_elim h
    obtain ⟨ys, e, h⟩ := opt_elim h
    obtain ⟨v, rfl, r1⟩ := reps1 r
    obtain ⟨p, vs, rfl, rs, hs⟩ := seq_of m r1 e
    rcases hs with ⟨hs, _⟩ | ⟨hs, rfl | rfl⟩
    · refine ⟨p, vs, rfl, .inl ⟨hs, fun l hl => ?_⟩⟩
      exact k _ _ _ S (Fr.newT hl) (m.newT hl) (new_tup (S := S) hl rs) h.2
    · exact ⟨p, vs, rfl, .inr ⟨hs, k _ _ H S Fr.refl m r1 h.2⟩⟩
    · exact h.1.elim
def allB : List PV → Option Bool
  | [] => some true
  | .bl b :: r => (allB r).map (b && ·)
  | _ :: _ => none
theorem allB_some : ∀ {xs : List PV} {b : Bool}, allB xs = some b → ∃ bs : List Bool, xs = bs.map PV.bl ∧ b = bs.all id
  | [], b, h => by cases h; exact ⟨[], rfl, rfl⟩
  | .bl c :: r, b, h => by
    unfold allB at h
    cases e : allB r with
    | none => rw [e] at h; cases h
    | some d =>
      rw [e] at h
      obtain ⟨bs, rfl, rfl⟩ := allB_some e
      cases h
      exact ⟨c :: bs, rfl, rfl⟩
  | .non :: _, _, h => by cases h
  | .int _ :: _, _, h => by cases h
  | .str _ :: _, _, h => by cases h
  | .tup _ :: _, _, h => by cases h
  | .ktup _ :: _, _, h => by cases h
  | .loc _ :: _, _, h => by cases h
  | .ty _ :: _, _, h => by cases h
  | .raw _ :: _, _, h => by cases h
  | .kl _ :: _, _, h => by cases h
theorem reps_bls {H : Hp} : ∀ {vs : List V} {bs : List Bool}, Reps K H vs (bs.map PV.bl) → vs = bs.map V.bl
  | _, [], .nil => rfl
  | _, b :: bs, .cons h r => by rw [rep_bl h, reps_bls r]; rfl
def dAllC : DC := fun xs S Q => match xs with
  | [x] => match x with
    | .loc p => optD (lstP S p) fun ys => optD (allB ys) fun b => Q (.bl b) S
    | _ => False
  | _ => False
instance : SimC K (rAll K) dAllC where
  sim {vs xs H S Q Q'} r m h k := by
    obtain ⟨x, rfl, h⟩ := one_elim h
    obtain ⟨p, rfl, h⟩ := loc_elim h
    obtain ⟨ys, e, h⟩ := opt_elim h
    obtain ⟨b, eb, h⟩ := opt_elim h
    obtain ⟨bs, rfl, rfl⟩ := allB_some eb
    obtain ⟨v, rfl, r1⟩ := reps1 r
    cases rep_loc r1
    obtain ⟨vs, q, rs⟩ := m p _ (lstP_some e)
    cases reps_bls rs
    exact ⟨p, bs, rfl, SqL.of q, k _ _ H S Fr.refl m (.bl _) h⟩
/-! ### methods -/
def dAppend : DM := fun x xs S Q => match x, xs with
  | .loc l, [y] => optD (lstP S l) fun ys => ys.length < sizeLine ∧ Q .non (mset S l (some (.lst (ys ++ [y]))))
  | _, _ => False
instance : SimM K rAppend dAppend where
  sim {v x vs xs H S Q Q'} r rs m h k := by
    obtain ⟨l, y, rfl, rfl, h⟩ : ∃ l y, x = .loc l ∧ xs = [y] ∧ optD (lstP S l) fun ys => ys.length < sizeLine ∧ Q' .non (mset S l (some (.lst (ys ++ [y])))) := by
      rcases xs with _ | ⟨y, _ | ⟨z, xs⟩⟩ <;> cases x <;> first | exact h.elim | exact ⟨_, _, rfl, rfl, h⟩
    obtain ⟨ys, e, hl, q⟩ := opt_elim h
    obtain ⟨u, rfl, r1⟩ := reps1 rs
    cases rep_loc r
    have e' := lstP_some e
    obtain ⟨ws, hH, rw'⟩ := m l _ e'
    refine ⟨l, ws, u, rfl, rfl, hH, by rw [rw'.length]; exact hl, ?_⟩
    refine k _ _ _ _ (Fr.put e') (m.put e' fun o eo => ?_) .non q
    cases eo
    exact ⟨_, upd_same, (rw'.append (.cons r1 .nil)).mono (Tx.put (m l _ e'))⟩
def dExtend : DM := fun x xs S Q => match x, xs with
  | .loc l, [.loc b] => optD (lstP S l) fun ys => optD (lstP S b) fun zs => ys.length + zs.length ≤ sizeLine ∧ Q .non (mset S l (some (.lst (ys ++ zs))))
  | _, _ => False
instance : SimM K rExtend dExtend where
  sim {v x vs xs H S Q Q'} r rs m h k := by
    obtain ⟨l, b, rfl, rfl, h⟩ : ∃ l b, x = .loc l ∧ xs = [.loc b] ∧ optD (lstP S l) fun ys => optD (lstP S b) fun zs => ys.length + zs.length ≤ sizeLine ∧ Q' .non (mset S l (some (.lst (ys ++ zs)))) := by
      rcases xs with _ | ⟨y, _ | ⟨z, xs⟩⟩
      · cases x <;> exact h.elim
      · cases x <;> cases y <;> first | exact h.elim | exact ⟨_, _, rfl, rfl, h⟩
      · cases x <;> cases y <;> exact h.elim
    obtain ⟨ys, e, h⟩ := opt_elim h
    obtain ⟨zs, e2, hl, q⟩ := opt_elim h
    obtain ⟨u, rfl, r1⟩ := reps1 rs
    cases rep_loc r
    cases rep_loc r1
    have e' := lstP_some e
    obtain ⟨ws, hH, rw'⟩ := m l _ e'
    obtain ⟨us, hB, rb⟩ := m b _ (lstP_some e2)
    refine ⟨l, b, ws, us, rfl, rfl, hH, hB, by rw [rw'.length, rb.length]; exact hl, ?_⟩
    refine k _ _ _ _ (Fr.put e') (m.put e' fun o eo => ?_) .non q
    cases eo
    exact ⟨_, upd_same, (rw'.append rb).mono (Tx.put (m l _ e'))⟩
def dPop : DM := fun x xs S Q => match x, xs with
  | .loc l, [] => optD (lstP S l) fun ys => optD (ys[ys.length - 1]?) fun y => Q y (mset S l (some (.lst ys.dropLast)))
  | _, _ => False
instance : SimM K rPop dPop where
  sim {v x vs xs H S Q Q'} r rs m h k := by
    obtain ⟨l, rfl, rfl, h⟩ : ∃ l, x = .loc l ∧ xs = [] ∧ optD (lstP S l) fun ys => optD (ys[ys.length - 1]?) fun y => Q' y (mset S l (some (.lst ys.dropLast))) := by
      rcases xs with _ | ⟨y, xs⟩ <;> cases x <;> first | exact h.elim | exact ⟨_, rfl, rfl, h⟩
    obtain ⟨ys, e, h⟩ := opt_elim h
    obtain ⟨y, ey, q⟩ := opt_elim h
    cases rs
    cases rep_loc r
    have e' := lstP_some e
    obtain ⟨ws, hH, rw'⟩ := m l _ e'
    obtain ⟨u, hu, ru⟩ := rw'.get (i := ys.length - 1) ey
    refine ⟨l, ws, u, rfl, rfl, hH, by rw [rw'.length]; exact hu, ?_⟩
    have tx := Tx.put (u := .lst ws.dropLast) (m l _ e')
    refine k _ _ _ _ (Fr.put e') (m.put e' fun o eo => ?_) (ru.mono tx) q
    cases eo
    exact ⟨_, upd_same, rw'.dropLast.mono tx⟩
def dBits (a : DE) : DE := fun ρ S Q => a ρ S fun x S1 => match x with
  | .int i => Q (.int (Builtin.Int.intBits i : Nat)) S1
  | _ => False
instance {ta : TE} {da : DE} [ha : SimE K ta da] : SimE K (tBits ta) (dBits da) where
  sim {σ ρ H S Q Q'} e m h k := ha.sim e m h fun v x H1 S1 f1 m1 r1 q1 => by
    obtain ⟨i, rfl, q⟩ := int_elim q1
    exact ⟨i, rep_int r1, k _ _ H1 S1 f1 m1 (.int _) q⟩
/-! ### attributes -/
def dFld (K : PySem.W.Frag) (a : DE) (f : Str) : DE := fun ρ S Q => a ρ S fun x S1 => match x with
  | .loc p => ∃ C fs, S1 p = some (.ins C fs) ∧ Cls K C ∧ NoAttr K C f ∧ optD (fs.lookup f) fun v => Q v S1
  | _ => False
instance {f : Str} {ta : TE} {da : DE} [ha : SimE K ta da] : SimE K (tFld K ta f) (dFld K da f) where
  sim {σ ρ H S Q Q'} e m h k := ha.sim e m h fun v x H1 S1 f1 m1 r1 q1 => by
    obtain ⟨p, rfl, C, fs, hp, c, n, h⟩ := loc_elim q1
    obtain ⟨y, ey, q⟩ := opt_elim h
    cases rep_loc r1
    obtain ⟨dx, us, hH, rk⟩ := m1 p _ hp
    obtain ⟨u, hu, ru⟩ := rk.look_some ey
    exact ⟨p, C, dx, us, u, rfl, hH, c, n, hu, k _ _ H1 S1 f1 m1 ru q⟩
def putP (f : Str) (v : PV) : List (Str × PV) → List (Str × PV)
  | [] => [(f, v)]
  | (g, x) :: r => if g = f then (g, v) :: r else (g, x) :: putP f v r
theorem putP_rep {H : Hp} {f : Str} {v : V} {x : PV} (h : Rep K H v x) : ∀ {us : List (Str × V)} {fs : List (Str × PV)}, RKV K H us fs → RKV K H (putF f v us) (putP f x fs)
  | _, _, .nil => .cons h .nil
  | _, _, .cons (k := g) h1 r => by
    unfold putF putP
    by_cases e : g = f
    · rw [if_pos e, if_pos e]; exact .cons h r
    · rw [if_neg e, if_neg e]; exact .cons h1 (putP_rep h r)
theorem RKV.length {κ : Type} {H : Hp} : ∀ {us : List (κ × V)} {fs : List (κ × PV)}, RKV K H us fs → us.length = fs.length
  | _, _, .nil => rfl
  | _, _, .cons _ r => congrArg (· + 1) (RKV.length r)
def dsFld (K : PySem.W.Frag) (a v : DE) (f : Str) : DS := fun D ρ S => v ρ S fun y S1 => a ρ S1 fun x S2 => match x with
  | .loc p => ∃ C fs, S2 p = some (.ins C fs) ∧ Cls K C ∧ NoAttr K C f ∧ fs.length < 1000 ∧ D.nx ρ (mset S2 p (some (.ins C (putP f y fs))))
  | _ => False
instance {f : Str} {ta tv : TE} {da dv : DE} [ha : SimE K ta da] [hv : SimE K tv dv] : SimS K (sFld K ta tv f) (dsFld K da dv f) where
  sim {σ ρ H S D D'} e m h k := hv.sim e m h fun v y H1 S1 f1 m1 r1 q1 => ha.sim (e.mono (f1.tx m)) m1 q1 fun u x H2 S2 f2 m2 r2 q2 => by
    obtain ⟨p, rfl, C, fs, hp, c, n, hl, q⟩ := loc_elim q2
    cases rep_loc r2
    obtain ⟨dx, us, hH, rk⟩ := m2 p _ hp
    have tx := Tx.put (u := .ins C dx (putF f v us)) (m2 p _ hp)
    have f12 := f1.trans f2
    refine ⟨p, C, dx, us, rfl, hH, c, n, by rw [rk.length]; exact hl, k.nx _ _ _ _ (f12.trans (Fr.put hp)) (m2.put hp fun o eo => ?_) ((e.mono (f12.tx m)).mono tx) q⟩
    cases eo
    exact ⟨dx, _, upd_same, putP_rep ((r1.mono (f2.tx m1)).mono tx) (rk.mono tx)⟩
/-! ### o[i] = v on lists -/
abbrev DSet := PV → PV → PV → Mp → (Mp → Prop) → Prop
class SimSet (K : PySem.W.Frag) (t : TSet) (d : outParam DSet) : Prop where
  sim : ∀ {o i v : V} {po pi pv : PV} {H : Hp} {S : Mp} {Q : Hp → Prop} {Q' : Mp → Prop}, Rep K H o po → Rep K H i pi → Rep K H v pv → Mt K H S → d po pi pv S Q' → (∀ H' S', Fr S H S' H' → Mt K H' S' → Q' S' → Q H') → t o i v H Q
def dSetL : DSet := fun o i v S Q => match o, i with
  | .loc p, .int k => optD (lstP S p) fun xs => optD (ixN xs.length k) fun j => Q (mset S p (some (.lst (xs.set j v))))
  | _, _ => False
instance : SimSet K rSetL dSetL where
  sim {o i v po pi pv H S Q Q'} ro ri rv m h k := by
    obtain ⟨p, n, rfl, rfl, h⟩ : ∃ p n, po = .loc p ∧ pi = .int n ∧ optD (lstP S p) fun xs => optD (ixN xs.length n) fun j => Q' (mset S p (some (.lst (xs.set j pv)))) := by
      cases po <;> cases pi <;> first | exact h.elim | exact ⟨_, _, rfl, rfl, h⟩
    obtain ⟨xs, e, h⟩ := opt_elim h
    obtain ⟨j, ej, q⟩ := opt_elim h
    cases rep_loc ro
    cases rep_int ri
    have e' := lstP_some e
    obtain ⟨ws, hH, rw'⟩ := m p _ e'
    refine ⟨p, ws, n, j, rfl, rfl, hH, by rw [rw'.length]; exact ej, ?_⟩
    have tx := Tx.put (u := .lst (ws.set j v)) (m p _ e')
    refine k _ _ (Fr.put e') (m.put e' fun o eo => ?_) q
    cases eo
    exact ⟨_, upd_same, (rw'.set rv j).mono tx⟩
def dgSub (o i : DE) (t : DSet) : DG := fun v ρ S Q => o ρ S fun po S1 => i ρ S1 fun pi S2 => t po pi v S2 fun S3 => Q ρ S3
instance {to ti : TE} {t : TSet} {d0 di : DE} {dt : DSet} [ho : SimE K to d0] [hi : SimE K ti di] [ht : SimSet K t dt] : SimG K (gSub to ti t) (dgSub d0 di dt) [] where
  sim {v x σ ρ H S Q Q'} r e m h k := ho.sim e m h fun v1 x1 H1 S1 f1 m1 r1 q1 => hi.sim (e.mono (f1.tx m)) m1 q1 fun v2 x2 H2 S2 f2 m2 r2 q2 =>
    ht.sim (r1.mono (f2.tx m1)) r2 (r.mono ((f1.trans f2).tx m)) m2 q2 fun H3 S3 f3 m3 q3 =>
      have f := (f1.trans f2).trans f3
      k σ ρ H3 S3 f m3 (e.mono (f.tx m)) rfl (fun _ _ => rfl) q3
/-! ### dicts -/
def lkP {κ : Type} [DecidableEq κ] (kvs : List (κ × PV)) (k : κ) : Option PV := (kvs.find? fun kv => decide (kv.1 = k)).map (·.2)
def putKP {κ : Type} [DecidableEq κ] (kvs : List (κ × PV)) (k : κ) (v : PV) : List (κ × PV) :=
  if (kvs.any fun kv => decide (kv.1 = k)) = true then kvs.map (fun kv => if kv.1 = k then (kv.1, v) else kv) else kvs ++ [(k, v)]
theorem RKV.find {κ : Type} [DecidableEq κ] {H : Hp} (k : κ) : ∀ {us : List (κ × V)} {kvs : List (κ × PV)}, RKV K H us kvs → (lkP kvs k = none ∧ valV us k = none) ∨ ∃ v x, lkP kvs k = some x ∧ valV us k = some v ∧ Rep K H v x
  | _, _, .nil => .inl ⟨rfl, rfl⟩
  | _, _, .cons (k := g) h r => by
    unfold lkP valV
    by_cases e : g = k
    · refine .inr ⟨_, _, ?_, ?_, h⟩
      · rw [List.find?_cons_of_pos (by simp [e])]; rfl
      · rw [List.find?_cons_of_pos (by simp [e])]; rfl
    · rw [List.find?_cons_of_neg (by simp [e]), List.find?_cons_of_neg (by simp [e])]
      exact RKV.find k r
theorem RKV.keys {κ : Type} {H : Hp} : ∀ {us : List (κ × V)} {kvs : List (κ × PV)}, RKV K H us kvs → us.map (·.1) = kvs.map (·.1)
  | _, _, .nil => rfl
  | _, _, .cons _ r => by rw [List.map_cons, List.map_cons, RKV.keys r]
theorem RKV.anyK {κ : Type} [DecidableEq κ] {H : Hp} (k : κ) : ∀ {us : List (κ × V)} {kvs : List (κ × PV)}, RKV K H us kvs → (us.any fun kv => decide (kv.1 = k)) = (kvs.any fun kv => decide (kv.1 = k))
  | _, _, .nil => rfl
  | _, _, .cons _ r => by rw [List.any_cons, List.any_cons, RKV.anyK k r]
theorem RKV.repl {κ : Type} [DecidableEq κ] {H : Hp} (k : κ) {v : V} {x : PV} (rv : Rep K H v x) : ∀ {us : List (κ × V)} {kvs : List (κ × PV)}, RKV K H us kvs → RKV K H (us.map fun kv => if kv.1 = k then (kv.1, v) else kv) (kvs.map fun kv => if kv.1 = k then (kv.1, x) else kv)
  | _, _, .nil => .nil
  | _, _, .cons (k := g) h r => by
    by_cases e : g = k
    · simp only [List.map_cons, if_pos e]
      exact .cons rv (RKV.repl k rv r)
    · simp only [List.map_cons, if_neg e]
      exact .cons h (RKV.repl k rv r)
theorem RKV.snoc {κ : Type} {H : Hp} (k : κ) {v : V} {x : PV} (rv : Rep K H v x) : ∀ {us : List (κ × V)} {kvs : List (κ × PV)}, RKV K H us kvs → RKV K H (us ++ [(k, v)]) (kvs ++ [(k, x)])
  | _, _, .nil => .cons rv .nil
  | _, _, .cons h r => .cons h (RKV.snoc k rv r)
theorem RKV.put {κ : Type} [DecidableEq κ] {H : Hp} {us : List (κ × V)} {kvs : List (κ × PV)} (r : RKV K H us kvs) (k : κ) {v : V} {x : PV} (rv : Rep K H v x) : RKV K H (putK us k v) (putKP kvs k x) := by
  unfold putK putKP
  rw [r.anyK k]
  split
  · exact r.repl k rv
  · exact r.snoc k rv
def keyP : PV → Option Key
  | .int i => some (.inl i)
  | .str s => some (.inr s)
  | _ => none
theorem keyP_of {H : Hp} {v : V} {x : PV} {k : Key} (r : Rep K H v x) (h : keyP x = some k) : v = kV k := by
  cases r <;> cases h <;> rfl
def keysP : List PV → Option (List Key)
  | [] => some []
  | x :: r => match keyP x, keysP r with
    | some k, some ks => some (k :: ks)
    | _, _ => none
theorem keysP_of {H : Hp} : ∀ {vs : List V} {xs : List PV} {ks : List Key}, Reps K H vs xs → keysP xs = some ks → vs = ks.map kV
  | _, _, _, .nil, h => by cases h; rfl
  | _, x :: xs, ks, .cons h r, e => by
    unfold keysP at e
    cases e1 : keyP x with
    | none => simp [e1] at e
    | some k =>
      cases e2 : keysP xs with
      | none => simp [e1, e2] at e
      | some l =>
        simp only [e1, e2] at e
        cases e
        rw [keyP_of h e1, keysP_of r e2]
        rfl
/-- what a dict of the view has at a key: none if it is no key of its sort -/
def atD (S : Mp) (x y : PV) : Option (Option PV) := match x with
  | .loc a => match S a with
    | some (.dk kvs) => (keyP y).map (lkP kvs)
    | some (.rdk kvs) => (keyP y).map (lkP kvs)
    | some (.dt kvs) => match y with
      | .tup ys => (keysP ys).map (lkP kvs)
      | _ => none
    | _ => none
  | _ => none
def ORep (K : PySem.W.Frag) (H : Hp) (w : Option V) : Option PV → Prop
  | none => w = none
  | some z => ∃ c, w = some c ∧ Rep K H c z
theorem at_dget {H : Hp} {S : Mp} {v u : V} {x y : PV} {o : Option PV} (m : Mt K H S) (r1 : Rep K H v x) (r2 : Rep K H u y) (h : atD S x y = some o) :
    ∃ a w, v = .ref a ∧ DGet H a u w ∧ ORep K H w o := by
  cases x with
  | loc a =>
    cases rep_loc r1
    unfold atD at h
    cases e : S a with
    | none => simp [e] at h
    | some q =>
      cases q with
      | dk kvs =>
        simp only [e] at h
        cases e1 : keyP y with
        | none => simp [e1] at h
        | some k =>
          simp only [e1, Option.map_some] at h
          cases h
          obtain ⟨us, hH, rk⟩ := m a _ e
          cases keyP_of r2 e1
          refine ⟨a, valV us k, rfl, .inl ⟨us, k, Rd.of hH, rfl, rfl⟩, ?_⟩
          rcases rk.find k with ⟨h1, h2⟩ | ⟨c, z, h1, h2, h3⟩
          · rw [h1]; exact h2
          · rw [h1]; exact ⟨c, h2, h3⟩
      | rdk kvs =>
        simp only [e] at h
        cases e1 : keyP y with
        | none => simp [e1] at h
        | some k =>
          simp only [e1, Option.map_some] at h
          cases h
          obtain ⟨od, us, hH, rk⟩ := m a _ e
          cases keyP_of r2 e1
          refine ⟨a, valV us k, rfl, .inl ⟨us, k, .inr ⟨od, hH⟩, rfl, rfl⟩, ?_⟩
          rcases rk.find k with ⟨h1, h2⟩ | ⟨c, z, h1, h2, h3⟩
          · rw [h1]; exact h2
          · rw [h1]; exact ⟨c, h2, h3⟩
      | dt kvs =>
        simp only [e] at h
        cases y with
        | tup ys =>
          simp only at h
          cases e1 : keysP ys with
          | none => simp [e1] at h
          | some k =>
            simp only [e1, Option.map_some] at h
            cases h
            obtain ⟨us, hH, rk⟩ := m a _ e
            obtain ⟨b, vs, rfl, hb, rs⟩ := rep_tup r2
            cases keysP_of rs e1
            refine ⟨a, valV us k, rfl, .inr ⟨us, k, b, Rd.of hH, rfl, hb, rfl⟩, ?_⟩
            rcases rk.find k with ⟨h1, h2⟩ | ⟨c, z, h1, h2, h3⟩
            · rw [h1]; exact h2
            · rw [h1]; exact ⟨c, h2, h3⟩
        | _ => cases h
      | _ => simp [e] at h
  | _ => cases h
def dDGet (d y : DE) : DE := fun ρ S Q => d ρ S fun x S1 => y ρ S1 fun z S2 => optD (atD S2 x z) fun o => optD o fun v => Q v S2
instance {td ty : TE} {dd dy : DE} [hd : SimE K td dd] [hy : SimE K ty dy] : SimE K (tDGet td ty) (dDGet dd dy) where
  sim {σ ρ H S Q Q'} e m h k := hd.sim e m h fun v x H1 S1 f1 m1 r1 q1 => hy.sim (e.mono (f1.tx m)) m1 q1 fun u y H2 S2 f2 m2 r2 q2 => by
    obtain ⟨o, e1, q2⟩ := opt_elim q2
    obtain ⟨z, rfl, q⟩ := opt_elim q2
    obtain ⟨a, w, rfl, g, c, rfl, rc⟩ := at_dget m2 (r1.mono (f2.tx m1)) r2 e1
    exact ⟨a, c, rfl, g, k _ _ H2 S2 (f1.trans f2) m2 rc q⟩
def dDIn (f : Bool → Bool) (y d : DE) : DE := fun ρ S Q => y ρ S fun z S1 => d ρ S1 fun x S2 => optD (atD S2 x z) fun o => Q (.bl (f o.isSome)) S2
theorem at_some {H : Hp} {o : Option PV} {w : Option V} (h : ORep K H w o) : w.isSome = o.isSome := by
  cases o with
  | none => cases h; rfl
  | some z => obtain ⟨c, rfl, _⟩ := h; rfl
instance {td ty : TE} {dd dy : DE} [hd : SimE K td dd] [hy : SimE K ty dy] : SimE K (tDIn ty td) (dDIn id dy dd) where
  sim {σ ρ H S Q Q'} e m h k := hy.sim e m h fun v x H1 S1 f1 m1 r1 q1 => hd.sim (e.mono (f1.tx m)) m1 q1 fun u y H2 S2 f2 m2 r2 q2 => by
    obtain ⟨o, e1, q⟩ := opt_elim q2
    obtain ⟨a, w, rfl, g, c⟩ := at_dget m2 r2 (r1.mono (f2.tx m1)) e1
    exact ⟨a, w, rfl, g, k _ _ H2 S2 (f1.trans f2) m2 (.bl _) (by rw [at_some c]; exact q)⟩
instance {td ty : TE} {dd dy : DE} [hd : SimE K td dd] [hy : SimE K ty dy] : SimE K (tDNotIn ty td) (dDIn not dy dd) where
  sim {σ ρ H S Q Q'} e m h k := hy.sim e m h fun v x H1 S1 f1 m1 r1 q1 => hd.sim (e.mono (f1.tx m)) m1 q1 fun u y H2 S2 f2 m2 r2 q2 => by
    obtain ⟨o, e1, q⟩ := opt_elim q2
    obtain ⟨a, w, rfl, g, c⟩ := at_dget m2 r2 (r1.mono (f2.tx m1)) e1
    exact ⟨a, w, rfl, g, k _ _ H2 S2 (f1.trans f2) m2 (.bl _) (by rw [at_some c]; exact q)⟩
def isDk (S : Mp) (x : PV) : Prop := match x with
  | .loc a => (∃ kvs, S a = some (.dk kvs)) ∨ (∃ kvs, S a = some (.dt kvs)) ∨ ∃ kvs, S a = some (.rdk kvs)
  | _ => False
theorem isDk_of {H : Hp} {S : Mp} {v : V} {x : PV} (m : Mt K H S) (r : Rep K H v x) (h : isDk S x) : ∃ a, v = .ref a ∧ IsD H a := by
  cases x with
  | loc a =>
    cases rep_loc r
    rcases h with ⟨kvs, h⟩ | ⟨kvs, h⟩ | ⟨kvs, h⟩
    · obtain ⟨us, q, _⟩ := m a _ h; exact ⟨a, rfl, .inl ⟨us, Rd.of q⟩⟩
    · obtain ⟨us, q, _⟩ := m a _ h; exact ⟨a, rfl, .inr ⟨us, Rd.of q⟩⟩
    · obtain ⟨od, us, q, _⟩ := m a _ h; exact ⟨a, rfl, .inl ⟨us, .inr ⟨od, q⟩⟩⟩
  | _ => exact h.elim
def dDGet1 (d y : DE) : DE := fun ρ S Q => d ρ S fun x S1 => isDk S1 x ∧ y ρ S1 fun z S2 => optD (atD S2 x z) fun o => Q (o.getD .non) S2
instance {td ty : TE} {dd dy : DE} [hd : SimE K td dd] [hy : SimE K ty dy] : SimE K (tDGet1 td ty) (dDGet1 dd dy) where
  sim {σ ρ H S Q Q'} e m h k := hd.sim e m h fun v x H1 S1 f1 m1 r1 q1 => by
    obtain ⟨a, rfl, hI⟩ := isDk_of m1 r1 q1.1
    refine ⟨a, rfl, hI, hy.sim (e.mono (f1.tx m)) m1 q1.2 fun u y H2 S2 f2 m2 r2 q2 => ?_⟩
    obtain ⟨o, e1, q⟩ := opt_elim q2
    obtain ⟨b, w, eb, g, c⟩ := at_dget m2 (r1.mono (f2.tx m1)) r2 e1
    cases eb
    refine ⟨w, g, k _ _ H2 S2 (f1.trans f2) m2 ?_ q⟩
    cases o with
    | none => cases c; exact .non
    | some z => obtain ⟨d, rfl, rd⟩ := c; exact rd
/-- the store behind d[k] = v -/
def putD (S : Mp) (x y v : PV) : Option Mp := match x with
  | .loc a => match S a with
    | some (.dk kvs) => if kvs.length < sizeLine then (keyP y).map fun k => mset S a (some (.dk (putKP kvs k v))) else none
    | some (.dt kvs) => match y with
      | .tup ys => if kvs.length < sizeLine then (keysP ys).map fun k => mset S a (some (.dt (putKP kvs k v))) else none
      | _ => none
    | _ => none
  | _ => none
theorem put_dput {H : Hp} {S S' : Mp} {o i w : V} {x y v : PV} (m : Mt K H S) (r1 : Rep K H o x) (r2 : Rep K H i y) (r3 : Rep K H w v) (h : putD S x y v = some S') :
    ∃ a H', o = .ref a ∧ DPut H a i w H' ∧ Fr S H S' H' ∧ Mt K H' S' := by
  cases x with
  | loc a =>
    cases rep_loc r1
    unfold putD at h
    cases e : S a with
    | none => simp [e] at h
    | some q =>
      cases q with
      | dk kvs =>
        simp only [e] at h
        split at h
        · rename_i hl
          cases e1 : keyP y with
          | none => simp [e1] at h
          | some k =>
            simp only [e1, Option.map_some] at h
            cases h
            obtain ⟨us, hH, rk⟩ := m a _ e
            cases keyP_of r2 e1
            have tx := Tx.put (u := .dK (putK us k w)) (m a _ e)
            refine ⟨a, _, rfl, .inl ⟨us, k, hH, rfl, by rw [rk.length]; exact hl, rfl⟩, Fr.put e, m.put e fun q eq => ?_⟩
            cases eq
            exact ⟨_, upd_same, (rk.put k r3).mono tx⟩
        · cases h
      | dt kvs =>
        simp only [e] at h
        cases y with
        | tup ys =>
          simp only at h
          split at h
          · rename_i hl
            cases e1 : keysP ys with
            | none => simp [e1] at h
            | some k =>
              simp only [e1, Option.map_some] at h
              cases h
              obtain ⟨us, hH, rk⟩ := m a _ e
              obtain ⟨b, vs, rfl, hb, rs⟩ := rep_tup r2
              cases keysP_of rs e1
              have tx := Tx.put (u := .dT (putK us k w)) (m a _ e)
              refine ⟨a, _, rfl, .inr ⟨us, k, b, hH, rfl, hb, by rw [rk.length]; exact hl, rfl⟩, Fr.put e, m.put e fun q eq => ?_⟩
              cases eq
              exact ⟨_, upd_same, (rk.put k r3).mono tx⟩
          · cases h
        | _ => cases h
      | _ => simp [e] at h
  | _ => cases h
def dsDPut (d y v : DE) : DS := fun D ρ S => v ρ S fun w S1 => d ρ S1 fun x S2 => y ρ S2 fun z S3 => optD (putD S3 x z w) fun S4 => D.nx ρ S4
instance {td ty tv : TE} {dd dy dv : DE} [hd : SimE K td dd] [hy : SimE K ty dy] [hv : SimE K tv dv] : SimS K (sDPut td ty tv) (dsDPut dd dy dv) where
  sim {σ ρ H S D D'} e m h k := hv.sim e m h fun w pw H1 S1 f1 m1 r1 q1 => hd.sim (e.mono (f1.tx m)) m1 q1 fun v x H2 S2 f2 m2 r2 q2 => hy.sim (e.mono ((f1.trans f2).tx m)) m2 q2 fun u y H3 S3 f3 m3 r3 q3 => by
    obtain ⟨S4, e1, q⟩ := opt_elim q3
    obtain ⟨a, H4, rfl, g, f4, m4⟩ := put_dput m3 (r2.mono (f3.tx m2)) r3 (r1.mono ((f2.trans f3).tx m1)) e1
    have f := ((f1.trans f2).trans f3).trans f4
    exact ⟨a, H4, rfl, g, k.nx _ _ H4 S4 f m4 (e.mono (f.tx m)) q⟩
/-- d.setdefault(k, x) of int and text keys -/
def setD (S : Mp) (x y v : PV) : Option (PV × Mp) := match x with
  | .loc a => match S a with
    | some (.dk kvs) => if kvs.length < sizeLine then match keyP y with
      | some k => match lkP kvs k with
        | some z => some (z, S)
        | none => some (v, mset S a (some (.dk (putKP kvs k v))))
      | none => none
      else none
    | _ => none
  | _ => none
def dDSetd (d y v : DE) : DE := fun ρ S Q => d ρ S fun x S1 => isDk S1 x ∧ y ρ S1 fun z S2 => v ρ S2 fun w S3 => optD (setD S3 x z w) fun p => Q p.1 p.2
instance {td ty tv : TE} {dd dy dv : DE} [hd : SimE K td dd] [hy : SimE K ty dy] [hv : SimE K tv dv] : SimE K (tDSetd td ty tv) (dDSetd dd dy dv) where
  sim {σ ρ H S Q Q'} e m h k := hd.sim e m h fun v x H1 S1 f1 m1 r1 q1 => by
    obtain ⟨a, rfl, hI⟩ := isDk_of m1 r1 q1.1
    refine ⟨a, rfl, hI, hy.sim (e.mono (f1.tx m)) m1 q1.2 fun u y H2 S2 f2 m2 r2 q2 => hv.sim (e.mono ((f1.trans f2).tx m)) m2 q2 fun w pw H3 S3 f3 m3 r3 q3 => ?_⟩
    have f := (f1.trans f2).trans f3
    have r1' := r1.mono ((f2.trans f3).tx m1)
    have r2' := r2.mono (f3.tx m2)
    obtain ⟨p, e1, q⟩ := opt_elim q3
    cases x with
    | loc b =>
      cases rep_loc r1'
      unfold setD at e1
      cases e2 : S3 a with
      | none => simp [e2] at e1
      | some o =>
        cases o with
        | dk kvs =>
          simp only [e2] at e1
          split at e1
          · rename_i hl
            cases e3 : keyP y with
            | none => simp [e3] at e1
            | some key =>
              simp only [e3] at e1
              obtain ⟨us, hH, rk⟩ := m3 a _ e2
              cases keyP_of r2' e3
              refine ⟨us, key, hH, rfl, by rw [rk.length]; exact hl, fun c hc => ?_, fun hc => ?_⟩
              · rcases rk.find key with ⟨h1, h2⟩ | ⟨c', z, h1, h2, h3⟩
                · rw [hc] at h2; cases h2
                · rw [hc] at h2; cases h2
                  rw [h1] at e1; cases e1
                  exact k _ _ H3 S3 f m3 h3 q
              · rcases rk.find key with ⟨h1, h2⟩ | ⟨c', z, h1, h2, h3⟩
                · rw [h1] at e1; cases e1
                  have tx := Tx.put (u := .dK (putK us key w)) (m3 a _ e2)
                  refine k _ _ _ _ (f.trans (Fr.put e2)) (m3.put e2 fun q eq => ?_) (r3.mono tx) q
                  cases eq
                  exact ⟨_, upd_same, (rk.put key r3).mono tx⟩
                · rw [hc] at h2; cases h2
          · cases e1
        | _ => simp [e2] at e1
    | _ => cases e1
end
end DL

namespace DL
open PySem L2
section
variable {K : PySem.W.Frag}
/-! ### what is walked -/
def tupP : PV → Option (List PV)
  | .tup xs => some xs
  | .ktup xs => some xs
  | _ => none
theorem tupP_of {H : Hp} {v : V} {x : PV} {xs : List PV} (r : Rep K H v x) (h : tupP x = some xs) : ∃ a vs, v = .ref a ∧ SqT K H a vs ∧ Reps K H vs xs := by
  cases x with
  | tup ys =>
    cases h
    obtain ⟨a, vs, rfl, h, rs⟩ := rep_tup r
    exact ⟨a, vs, rfl, SqT.of h, rs⟩
  | ktup ys =>
    cases h
    obtain ⟨a, vs, rfl, h, rs⟩ := rep_ktup r
    exact ⟨a, vs, rfl, h.sq, rs⟩
  | _ => cases h
def dITup (a : DE) : DI := fun ρ S R => a ρ S fun x S1 => optD (tupP x) fun xs => R xs S1 []
theorem wk_tup {H1 : Hp} {a : Addr} {vs : List V} {xs : List PV} (rs : Reps K H1 vs xs) : DWk K H1 (Itt K a) xs (fun _ H => SqT K H a vs ∧ Reps K H vs xs) where
  goes i S H hi g := walk_tup.goes i H (by rw [g.2.length]; exact hi) g.1
  stops S H g := by rw [← g.2.length]; exact walk_tup.stops H g.1
  yld i S H x H' hi g hy := by
    obtain ⟨rfl, hx⟩ := walk_tup.yields i H x H' (by rw [g.2.length]; exact hi) g.1 hy
    obtain ⟨p, hp, rp⟩ := g.2.getV hx
    exact ⟨fun _ _ z => z, p, hp, rp⟩
  keep S H S' H' m f g := ⟨(f.tx m).sq g.1, g.2.mono (f.tx m)⟩
  oth S H p ws _ tx g := ⟨tx.sq g.1, g.2.mono tx⟩
instance {tl : TE} {dl : DE} [hl : SimE K tl dl] : SimI K (iTup K tl) (dITup dl) where
  sim {σ ρ H S R R'} e m h k := hl.sim e m h fun v x H1 S1 f1 m1 r1 q1 => by
    obtain ⟨xs, ex, q⟩ := opt_elim q1
    obtain ⟨a, vs, rfl, hs, rs⟩ := tupP_of r1 ex
    exact ⟨a, rfl, ⟨vs, hs⟩, k _ H1 xs S1 [] _ f1 m1 (wk_tup rs) ⟨hs, rs⟩ lk_no q⟩
/-- a list is only read while it is walked: what comes back behind, and what it holds -/
def lrP (S : Mp) (p : Addr) : Option (Lk × List PV) := match S p with
  | some (.lst xs) => some ([(p, .lst xs)], xs)
  | some (.rol xs) => some ([], xs)
  | _ => none
def ldP (S : Mp) (p : Addr) (xs : List PV) : Mp := mset S p (some (.rol xs))
def dIList (a : DE) : DI := fun ρ S R => a ρ S fun x S1 => match x with
  | .loc p => optD (lrP S1 p) fun o => R o.2 (ldP S1 p o.2) o.1
  | _ => False
structure LrOk (K : PySem.W.Frag) (H : Hp) (S : Mp) (p : Addr) (o : Lk × List PV) (u : HO) (vs : List V) : Prop where
  hu : H p = some u
  sq : ∀ H', H' p = some u → SqL K H' p vs
  rs : Reps K H vs o.2
  fr : Fr S H (ldP S p o.2) H
  mt : Mt K H (ldP S p o.2)
  back : ∀ q ∈ o.1, q.1 = p ∧ ¬ Ro (S p) ∧ ∀ H', H' p = some u → Reps K H' vs o.2 → MoOk K H' q.1 q.2
  again : lrP (ldP S p o.2) p = some ([], o.2)
theorem lr_of {H : Hp} {S : Mp} {p : Addr} {o : Lk × List PV} (m : Mt K H S) (h : lrP S p = some o) : ∃ u vs, LrOk K H S p o u vs := by
  unfold lrP at h
  split at h
  · rename_i xs e
    cases h
    obtain ⟨vs, q, rs⟩ := m p _ e
    refine ⟨_, vs, q, fun H' z => SqL.of z, rs, Fr.seen e, m.seen ⟨vs, .inl q, rs⟩, fun z hz => ?_, ?_⟩
    · cases List.mem_singleton.mp hz
      exact ⟨rfl, by rw [e]; exact id, fun H' h1 h2 => ⟨vs, h1, h2⟩⟩
    · unfold lrP ldP; rw [mset_same]
  · rename_i xs e
    cases h
    obtain ⟨vs, q, rs⟩ := m p _ e
    have e2 : ldP S p xs = S := mset_self e
    have e3 : lrP (ldP S p xs) p = some ([], xs) := by unfold lrP ldP; rw [mset_same]
    rcases q with q | ⟨o, q⟩
    · exact ⟨_, vs, q, fun H' z => SqL.of z, rs, by rw [e2]; exact Fr.refl, by rw [e2]; exact m, fun z hz => (by cases hz), e3⟩
    · exact ⟨_, vs, q, fun H' z => .inl (.inr ⟨o, z⟩), rs, by rw [e2]; exact Fr.refl, by rw [e2]; exact m, fun z hz => (by cases hz), e3⟩
  · cases h
theorem LrOk.lk {H H0 : Hp} {S S0 : Mp} {p : Addr} {o : Lk × List PV} {u : HO} {vs : List V} {G : Mp → Hp → Prop} (l : LrOk K H S p o u vs) (f : Fr S0 H0 S H) (g : ∀ S' H', G S' H' → H' p = some u ∧ Reps K H' vs o.2) : LkOk K S0 H0 H G o.1 := fun q hq => by
  obtain ⟨rfl, h1, h2⟩ := l.back q hq
  exact ⟨by rw [l.hu]; simp, fun u' e z => h1 (by rw [(f _ u' e z).2]; exact z), fun S' H' hg => h2 H' (g S' H' hg).1 (g S' H' hg).2⟩
theorem wk_list {H1 : Hp} {a : Addr} {u : HO} {vs : List V} {xs : List PV} (h1 : H1 a = some u) (sq : ∀ H', H' a = some u → SqL K H' a vs) : DWk K H1 (Itl K a) xs (fun S H => H a = some u ∧ S a = some (.rol xs) ∧ Reps K H vs xs) where
  goes i S H hi g := walk_list.goes i H (by rw [g.2.2.length]; exact hi) (sq H g.1)
  stops S H g := by rw [← g.2.2.length]; exact walk_list.stops H (sq H g.1)
  yld i S H x H' hi g hy := by
    obtain ⟨rfl, hx⟩ := walk_list.yields i H x H' (by rw [g.2.2.length]; exact hi) (sq H g.1) hy
    obtain ⟨p, hp, rp⟩ := g.2.2.getV hx
    exact ⟨fun _ _ z => z, p, hp, rp⟩
  keep S H S' H' m f g := by
    obtain ⟨h2, n2⟩ := f a u g.1 (by rw [g.2.1]; exact trivial)
    exact ⟨h2, n2.trans g.2.1, g.2.2.mono (f.tx m)⟩
  oth S H p ws hp tx g := by
    have ne : a ≠ p := ne_of_none h1 hp
    exact ⟨by rw [upd_ne ne]; exact g.1, g.2.1, g.2.2.mono tx⟩
instance {tl : TE} {dl : DE} [hl : SimE K tl dl] : SimI K (iList K tl) (dIList dl) where
  sim {σ ρ H S R R'} e m h k := hl.sim e m h fun v x H1 S1 f1 m1 r1 q1 => by
    obtain ⟨p, rfl, q1⟩ := loc_elim q1
    obtain ⟨o, eo, q⟩ := opt_elim q1
    cases rep_loc r1
    obtain ⟨u, vs, l⟩ := lr_of m1 eo
    exact ⟨p, rfl, ⟨vs, l.sq H1 l.hu⟩, k _ H1 o.2 _ o.1 _ (f1.trans l.fr) l.mt (wk_list l.hu l.sq) ⟨l.hu, mset_same, l.rs⟩ (l.lk f1 fun S' H' g => ⟨g.1, g.2.2⟩) q⟩
def rngP : Int → Nat → List PV
  | _, 0 => []
  | lo, n + 1 => .int lo :: rngP (lo + 1) n
theorem rngP_length : ∀ (n : Nat) (lo : Int), (rngP lo n).length = n
  | 0, _ => rfl
  | n + 1, lo => congrArg (· + 1) (rngP_length n (lo + 1))
theorem rngP_get : ∀ (n : Nat) (lo : Int) (i : Nat), i < n → (rngP lo n)[i]? = some (.int (lo + i))
  | 0, _, _, h => absurd h (Nat.not_lt_zero _)
  | n + 1, lo, 0, _ => by simp [rngP]
  | n + 1, lo, i + 1, h => by
    have := rngP_get n (lo + 1) i (by omega)
    simp only [rngP, List.getElem?_cons_succ, this]
    congr 2
    omega
theorem wk_range {H1 : Hp} {lo : Int} {n : Nat} : DWk K H1 (Itr lo n) (rngP lo n) (fun _ _ => True) where
  goes i S H hi _ := walk_range.goes i H (by rw [rngP_length] at hi; exact hi) trivial
  stops S H _ := by rw [rngP_length]; exact walk_range.stops H trivial
  yld i S H x H' hi _ hy := by
    rw [rngP_length] at hi
    obtain ⟨rfl, rfl⟩ := walk_range.yields i H x H' hi trivial hy
    exact ⟨fun _ _ z => z, _, rngP_get n lo i hi, .int _⟩
  keep _ _ _ _ _ _ _ := trivial
  oth _ _ _ _ _ _ _ := trivial
def dIRng1 (a : DA) : DI := fun ρ S R => a ρ S fun xs S1 => match xs with
  | [.int j] => -(2 ^ 62) ≤ j ∧ j < 2 ^ 62 ∧ R (rngP 0 j.toNat) S1 []
  | _ => False
instance {ta : TA} {da : DA} [ha : SimA K ta da] : SimI K (iRng1 ta) (dIRng1 da) where
  sim {σ ρ H S R R'} e m h k := ha.sim e m h fun vs xs H1 S1 f1 m1 r1 q1 => by
    obtain ⟨j, rfl, h1, h2, q⟩ : ∃ j, xs = [.int j] ∧ -(2 ^ 62) ≤ j ∧ j < 2 ^ 62 ∧ R' (rngP 0 j.toNat) S1 [] := by
      rcases xs with _ | ⟨x, _ | ⟨y, xs⟩⟩
      · exact q1.elim
      · cases x <;> first | exact q1.elim | exact ⟨_, rfl, q1⟩
      · cases x <;> exact q1.elim
    obtain ⟨v, rfl, r⟩ := reps1 r1
    cases rep_int r
    exact ⟨j, rfl, h1, h2, k _ H1 _ S1 [] _ f1 m1 wk_range trivial lk_no q⟩
def dIRng2 (a : DA) : DI := fun ρ S R => a ρ S fun xs S1 => match xs with
  | [.int i, .int j] => (-(2 ^ 62) ≤ i ∧ i < 2 ^ 62 ∧ -(2 ^ 62) ≤ j ∧ j < 2 ^ 62) ∧ R (rngP i (j - i).toNat) S1 []
  | _ => False
instance {ta : TA} {da : DA} [ha : SimA K ta da] : SimI K (iRng2 ta) (dIRng2 da) where
  sim {σ ρ H S R R'} e m h k := ha.sim e m h fun vs xs H1 S1 f1 m1 r1 q1 => by
    obtain ⟨i, j, rfl, h1, q⟩ := dI2_elim q1
    obtain ⟨v, u, rfl, r, r'⟩ := reps2 r1
    cases rep_int r; cases rep_int r'
    exact ⟨i, j, rfl, h1, k _ H1 _ S1 [] _ f1 m1 wk_range trivial lk_no q⟩
def sgnsP (z : Str) : List PV := z.cps.toList.map fun c => .str ⟨#[c]⟩
theorem wk_str {H1 : Hp} {z : Str} : DWk K H1 (Its z) (sgnsP z) (fun _ _ => True) where
  goes i S H hi _ := walk_str.goes i H (by simpa [sgnsP] using hi) trivial
  stops S H _ := by
    have e : (sgnsP z).length = z.cps.size := by simp [sgnsP]
    rw [e]; exact walk_str.stops H trivial
  yld i S H x H' hi _ hy := by
    obtain ⟨rfl, c, hc, rfl⟩ := walk_str.yields i H x H' (by simpa [sgnsP] using hi) trivial hy
    refine ⟨fun _ _ z => z, .str ⟨#[c]⟩, ?_, .str _⟩
    unfold sgnsP
    rw [List.getElem?_map, show z.cps.toList[i]? = some c by simpa using hc]
    rfl
  keep _ _ _ _ _ _ _ := trivial
  oth _ _ _ _ _ _ _ := trivial
def dIStr (a : DE) : DI := fun ρ S R => a ρ S fun x S1 => match x with
  | .str z => R (sgnsP z) S1 []
  | _ => False
instance {tl : TE} {dl : DE} [hl : SimE K tl dl] : SimI K (iStr tl) (dIStr dl) where
  sim {σ ρ H S R R'} e m h k := hl.sim e m h fun v x H1 S1 f1 m1 r1 q1 => by
    obtain ⟨z, rfl, q⟩ := str_elim q1
    cases rep_str r1
    exact ⟨z, rfl, k _ H1 _ S1 [] _ f1 m1 wk_str trivial lk_no q⟩
/-! ### pairs -/
def enumP : Nat → List PV → List PV
  | _, [] => []
  | i, x :: xs => .tup [.int i, x] :: enumP (i + 1) xs
theorem enumP_length : ∀ (xs : List PV) (i : Nat), (enumP i xs).length = xs.length
  | [], _ => rfl
  | _ :: xs, i => congrArg (· + 1) (enumP_length xs (i + 1))
theorem enumP_get : ∀ (xs : List PV) (k i : Nat) (x : PV), xs[i]? = some x → (enumP k xs)[i]? = some (.tup [.int ((k + i : Nat) : Int), x])
  | [], _, _, _, h => by simp at h
  | y :: xs, k, 0, x, h => by simp at h; subst h; simp [enumP]
  | y :: xs, k, i + 1, x, h => by
    have := enumP_get xs (k + 1) i x (by simpa using h)
    simp only [enumP, List.getElem?_cons_succ, this]
    congr 4
    omega
def zipP : List PV → List PV → List PV
  | x :: xs, y :: ys => .tup [x, y] :: zipP xs ys
  | _, _ => []
theorem zipP_length : ∀ (xs ys : List PV), (zipP xs ys).length = min xs.length ys.length
  | [], _ => by simp [zipP]
  | _ :: _, [] => by simp [zipP]
  | _ :: xs, _ :: ys => by simp [zipP, zipP_length xs ys]
theorem zipP_get : ∀ (xs ys : List PV) (i : Nat) (x y : PV), xs[i]? = some x → ys[i]? = some y → (zipP xs ys)[i]? = some (.tup [x, y])
  | [], _, _, _, _, h, _ => by simp at h
  | _ :: _, [], _, _, _, _, h => by simp at h
  | a :: xs, b :: ys, 0, x, y, h1, h2 => by simp at h1 h2; subst h1 h2; rfl
  | a :: xs, b :: ys, i + 1, x, y, h1, h2 => by
    have := zipP_get xs ys i x y (by simpa using h1) (by simpa using h2)
    simpa [zipP] using this
theorem ext_new {H : Hp} {T : Addr} {u : HO} (h : H T = none) : ∀ a o, H a = some o → upd H T u a = some o := fun a o e => by rw [upd_ne (ne_of_none e h)]; exact e
theorem pair_rep {H : Hp} {T : Addr} {x y : V} {px py : PV} (h : H T = none) (rx : Rep K H x px) (ry : Rep K H y py) : Rep K (upd H T (.tup [x, y])) (.ref T) (.tup [px, py]) :=
  .tup upd_same (.cons (rx.mono (Tx.new h)) (.cons (ry.mono (Tx.new h)) .nil))
theorem wk_enum {H1 : Hp} {a : Addr} {u : HO} {vs : List V} {xs : List PV} (h1 : H1 a = some u) (sq : ∀ H', H' a = some u → SqL K H' a vs) : DWk K H1 (Ite K a) (enumP 0 xs) (fun S H => H a = some u ∧ S a = some (.rol xs) ∧ Reps K H vs xs) where
  goes i S H hi g := walk_enum.goes i H (by rw [g.2.2.length]; rw [enumP_length] at hi; exact hi) (sq H g.1)
  stops S H g := by rw [enumP_length, ← g.2.2.length]; exact walk_enum.stops H (sq H g.1)
  yld i S H x H' hi g hy := by
    obtain ⟨T, y, z, rfl, hT, rfl, ey, ez⟩ := walk_enum.yields i H x H' (by rw [g.2.2.length]; rw [enumP_length] at hi; exact hi) (sq H g.1) hy
    cases ey
    obtain ⟨p, hp, rp⟩ := g.2.2.getV ez
    refine ⟨ext_new hT, _, enumP_get xs 0 i p hp, ?_⟩
    rw [Nat.zero_add]
    exact pair_rep hT (.int _) rp
  keep S H S' H' m f g := by
    obtain ⟨h2, n2⟩ := f a u g.1 (by rw [g.2.1]; exact trivial)
    exact ⟨h2, n2.trans g.2.1, g.2.2.mono (f.tx m)⟩
  oth S H p ws hp tx g := by
    have ne : a ≠ p := ne_of_none h1 hp
    exact ⟨by rw [upd_ne ne]; exact g.1, g.2.1, g.2.2.mono tx⟩
def dIEnum (a : DA) : DI := fun ρ S R => a ρ S fun xs S1 => match xs with
  | [.loc p] => optD (lrP S1 p) fun o => R (enumP 0 o.2) (ldP S1 p o.2) o.1
  | _ => False
theorem loc1_elim {xs : List PV} {R : Addr → Prop} (h : match xs with | [.loc p] => R p | _ => False) : ∃ p, xs = [.loc p] ∧ R p := by
  rcases xs with _ | ⟨x, _ | ⟨y, xs⟩⟩
  · exact h.elim
  · cases x <;> first | exact h.elim | exact ⟨_, rfl, h⟩
  · cases x <;> exact h.elim
instance {ta : TA} {da : DA} [ha : SimA K ta da] : SimI K (iEnum K ta) (dIEnum da) where
  sim {σ ρ H S R R'} e m h k := ha.sim e m h fun vs0 xs H1 S1 f1 m1 r1 q1 => by
    obtain ⟨p, rfl, q1⟩ := loc1_elim q1
    obtain ⟨o, eo, q⟩ := opt_elim q1
    obtain ⟨v, rfl, r⟩ := reps1 r1
    cases rep_loc r
    obtain ⟨u, vs, l⟩ := lr_of m1 eo
    exact ⟨p, vs, rfl, l.sq H1 l.hu, k _ H1 _ _ o.1 _ (f1.trans l.fr) l.mt (wk_enum l.hu l.sq) ⟨l.hu, mset_same, l.rs⟩ (l.lk f1 fun S' H' g => ⟨g.1, g.2.2⟩) q⟩
theorem wk_enumT {H1 : Hp} {a : Addr} {vs : List V} {xs : List PV} : DWk K H1 (ItetT K a) (enumP 0 xs) (fun _ H => SqT K H a vs ∧ Reps K H vs xs) where
  goes i S H hi g := walk_enumT.goes i H (by rw [g.2.length]; rw [enumP_length] at hi; exact hi) g.1
  stops S H g := by rw [enumP_length, ← g.2.length]; exact walk_enumT.stops H g.1
  yld i S H x H' hi g hy := by
    obtain ⟨T, y, z, rfl, hT, rfl, ey, ez⟩ := walk_enumT.yields i H x H' (by rw [g.2.length]; rw [enumP_length] at hi; exact hi) g.1 hy
    cases ey
    obtain ⟨p, hp, rp⟩ := g.2.getV ez
    refine ⟨ext_new hT, _, enumP_get xs 0 i p hp, ?_⟩
    rw [Nat.zero_add]
    exact pair_rep hT (.int _) rp
  keep S H S' H' m f g := ⟨(f.tx m).sq g.1, g.2.mono (f.tx m)⟩
  oth S H p ws _ tx g := ⟨tx.sq g.1, g.2.mono tx⟩
def dIEnumT (a : DA) : DI := fun ρ S R => a ρ S fun xs S1 => match xs with
  | [x] => optD (tupP x) fun ys => R (enumP 0 ys) S1 []
  | _ => False
instance {ta : TA} {da : DA} [ha : SimA K ta da] : SimI K (iEnumT K ta) (dIEnumT da) where
  sim {σ ρ H S R R'} e m h k := ha.sim e m h fun vs0 xs H1 S1 f1 m1 r1 q1 => by
    obtain ⟨x, rfl, q1⟩ := one_elim q1
    obtain ⟨ys, ey, q⟩ := opt_elim q1
    obtain ⟨v, rfl, r⟩ := reps1 r1
    obtain ⟨a, vs, rfl, hs, rs⟩ := tupP_of r ey
    exact ⟨a, vs, rfl, hs, k _ H1 _ S1 [] _ f1 m1 wk_enumT ⟨hs, rs⟩ lk_no q⟩
theorem wk_zipT {H1 : Hp} {a b : Addr} {vs us : List V} {xs ys : List PV} : DWk K H1 (RZ.ItzT K a b) (zipP xs ys) (fun _ H => (SqT K H a vs ∧ Reps K H vs xs) ∧ SqT K H b us ∧ Reps K H us ys) where
  goes i S H hi g := by
    rw [zipP_length] at hi
    have h1 : i < vs.length := by rw [g.1.2.length]; omega
    have h2 : i < us.length := by rw [g.2.2.length]; omega
    exact ⟨vs, us, vs[i], us[i], g.1.1, g.2.1, List.getElem?_eq_getElem h1, List.getElem?_eq_getElem h2⟩
  stops S H g := ⟨vs, us, g.1.1, g.2.1, by rw [zipP_length, g.1.2.length, g.2.2.length]; omega⟩
  yld i S H x H' hi g hy := by
    obtain ⟨T, y, z, rfl, hT, rfl, ey, ez⟩ := hy
    obtain ⟨p, hp, rp⟩ := g.1.2.getV (ey vs g.1.1)
    obtain ⟨q, hq, rq⟩ := g.2.2.getV (ez us g.2.1)
    exact ⟨ext_new hT, _, zipP_get xs ys i p q hp hq, pair_rep hT rp rq⟩
  keep S H S' H' m f g := ⟨⟨(f.tx m).sq g.1.1, g.1.2.mono (f.tx m)⟩, (f.tx m).sq g.2.1, g.2.2.mono (f.tx m)⟩
  oth S H p ws _ tx g := ⟨⟨tx.sq g.1.1, g.1.2.mono tx⟩, tx.sq g.2.1, g.2.2.mono tx⟩
theorem wk_zip {H1 : Hp} {a b : Addr} {u w : HO} {vs us : List V} {xs ys : List PV} (h1 : H1 a = some u) (h2 : H1 b = some w) (sa : ∀ H', H' a = some u → SqL K H' a vs) (sb : ∀ H', H' b = some w → SqL K H' b us) :
    DWk K H1 (Itz K a b) (zipP xs ys) (fun S H => (H a = some u ∧ S a = some (.rol xs) ∧ Reps K H vs xs) ∧ H b = some w ∧ S b = some (.rol ys) ∧ Reps K H us ys) where
  goes i S H hi g := by
    rw [zipP_length] at hi
    have h1 : i < vs.length := by rw [g.1.2.2.length]; omega
    have h2 : i < us.length := by rw [g.2.2.2.length]; omega
    exact ⟨vs, us, vs[i], us[i], sa H g.1.1, sb H g.2.1, List.getElem?_eq_getElem h1, List.getElem?_eq_getElem h2⟩
  stops S H g := ⟨vs, us, sa H g.1.1, sb H g.2.1, by rw [zipP_length, g.1.2.2.length, g.2.2.2.length]; omega⟩
  yld i S H x H' hi g hy := by
    obtain ⟨T, y, z, rfl, hT, rfl, ey, ez⟩ := hy
    obtain ⟨p, hp, rp⟩ := g.1.2.2.getV (ey vs (sa H g.1.1))
    obtain ⟨q, hq, rq⟩ := g.2.2.2.getV (ez us (sb H g.2.1))
    exact ⟨ext_new hT, _, zipP_get xs ys i p q hp hq, pair_rep hT rp rq⟩
  keep S H S' H' m f g := by
    obtain ⟨e1, n1⟩ := f a u g.1.1 (by rw [g.1.2.1]; exact trivial)
    obtain ⟨e2, n2⟩ := f b w g.2.1 (by rw [g.2.2.1]; exact trivial)
    exact ⟨⟨e1, n1.trans g.1.2.1, g.1.2.2.mono (f.tx m)⟩, e2, n2.trans g.2.2.1, g.2.2.2.mono (f.tx m)⟩
  oth S H p ws hp tx g := by
    have na : a ≠ p := ne_of_none h1 hp
    have nb : b ≠ p := ne_of_none h2 hp
    exact ⟨⟨by rw [upd_ne na]; exact g.1.1, g.1.2.1, g.1.2.2.mono tx⟩, by rw [upd_ne nb]; exact g.2.1, g.2.2.1, g.2.2.2.mono tx⟩
/-- zip of two tuples or of two lists -/
def dIZip (a : DA) : DI := fun ρ S R => a ρ S fun xs S1 => match xs with
  | [.tup x, .tup y] => R (zipP x y) S1 []
  | [.loc p, .loc q] => optD (lrP S1 p) fun o => optD (lrP (ldP S1 p o.2) q) fun o2 => R (zipP o.2 o2.2) (ldP (ldP S1 p o.2) q o2.2) (o2.1 ++ o.1)
  | _ => False
theorem lk_app {S0 : Mp} {H0 H1 : Hp} {G : Mp → Hp → Prop} {l1 l2 : Lk} (a : LkOk K S0 H0 H1 G l1) (b : LkOk K S0 H0 H1 G l2) : LkOk K S0 H0 H1 G (l1 ++ l2) := fun p hp => (List.mem_append.mp hp).elim (a p) (b p)
instance {ta : TA} {da : DA} [ha : SimA K ta da] : SimI K (RZ.iZipA K ta) (dIZip da) where
  sim {σ ρ H S R R'} e m h k := ha.sim e m h fun vs0 xs H1 S1 f1 m1 r1 q1 => by
    have cs : (∃ x y, xs = [.tup x, .tup y] ∧ R' (zipP x y) S1 []) ∨ ∃ p q, xs = [.loc p, .loc q] ∧ optD (lrP S1 p) fun o => optD (lrP (ldP S1 p o.2) q) fun o2 => R' (zipP o.2 o2.2) (ldP (ldP S1 p o.2) q o2.2) (o2.1 ++ o.1) := by
      rcases xs with _ | ⟨x, _ | ⟨y, _ | ⟨z, xs⟩⟩⟩
      · exact q1.elim
      · cases x <;> exact q1.elim
      · cases x <;> cases y <;> first | exact q1.elim | exact .inl ⟨_, _, rfl, q1⟩ | exact .inr ⟨_, _, rfl, q1⟩
      · cases x <;> cases y <;> exact q1.elim
    rcases cs with ⟨x, y, rfl, q⟩ | ⟨p, q, rfl, q1⟩
    · obtain ⟨v, u, rfl, r, r'⟩ := reps2 r1
      obtain ⟨a, vs, rfl, hs, rs⟩ := rep_tup r
      obtain ⟨b, us, rfl, ht, rt⟩ := rep_tup r'
      exact ⟨a, b, vs, us, rfl, .inr ⟨SqT.of hs, SqT.of ht, k _ H1 _ S1 [] _ f1 m1 wk_zipT ⟨⟨SqT.of hs, rs⟩, SqT.of ht, rt⟩ lk_no q⟩⟩
    · obtain ⟨o, eo, q1⟩ := opt_elim q1
      obtain ⟨o2, eo2, q2⟩ := opt_elim q1
      obtain ⟨v, u, rfl, r, r'⟩ := reps2 r1
      cases rep_loc r; cases rep_loc r'
      obtain ⟨u, vs, l⟩ := lr_of m1 eo
      obtain ⟨w, us, l2⟩ := lr_of l.mt eo2
      have hx : ldP (ldP S1 p o.2) q o2.2 p = some (.rol o.2) := by
        by_cases z : p = q
        · subst z
          rw [l.again] at eo2
          cases eo2
          exact mset_same
        · exact (mset_ne z).trans mset_same
      refine ⟨p, q, vs, us, rfl, .inl ⟨l.sq H1 l.hu, l2.sq H1 l2.hu, k _ H1 _ _ _ _ ((f1.trans l.fr).trans l2.fr) l2.mt (wk_zip l.hu l2.hu l.sq l2.sq) ⟨⟨l.hu, hx, l.rs⟩, l2.hu, mset_same, l2.rs⟩
        (lk_app (l2.lk (f1.trans l.fr) fun S' H' g => ⟨g.2.1, g.2.2.2⟩) (l.lk f1 fun S' H' g => ⟨g.1.1, g.1.2.2⟩)) q2⟩⟩
/-! ### a dict's keys, the dict standing still -/
theorem wk_keys {H1 : Hp} {d : Addr} {o : Obj} {us : List (Key × V)} {kvs : List (Key × PV)} (h1 : H1 d = some (.frz o (.dK us))) (hk : us.map (·.1) = kvs.map (·.1)) :
    DWk K H1 (Itk d o us) (kvs.map fun kv => sc (kV kv.1)) (fun S H => H d = some (.frz o (.dK us)) ∧ S d = some (.rdk kvs)) where
  goes i S H hi g := walk_keys.goes i H (by have := congrArg List.length hk; simp at this hi; omega) g.1
  stops S H g := by
    have e : (kvs.map fun kv => sc (kV kv.1)).length = us.length := by have := congrArg List.length hk; simp at this; simp; omega
    rw [e]; exact walk_keys.stops H g.1
  yld i S H x H' hi g hy := by
    obtain ⟨rfl, key, v, hkv, rfl⟩ := walk_keys.yields i H x H' (by have := congrArg List.length hk; simp at this hi; omega) g.1 hy
    refine ⟨fun _ _ z => z, sc (kV key), ?_, sc_kV key _⟩
    have e1 : (us.map (·.1))[i]? = some key := by rw [List.getElem?_map, hkv]; rfl
    rw [hk, List.getElem?_map] at e1
    rw [List.getElem?_map]
    cases e2 : kvs[i]? with
    | none => rw [e2] at e1; cases e1
    | some kv => rw [e2] at e1; cases e1; rfl
  keep S H S' H' m f g := by
    obtain ⟨h2, n2⟩ := f d _ g.1 (by rw [g.2]; exact trivial)
    exact ⟨h2, n2.trans g.2⟩
  oth S H p ws hp tx g := by
    have ne : d ≠ p := ne_of_none h1 hp
    exact ⟨by rw [upd_ne ne]; exact g.1, g.2⟩
def rdP (S : Mp) (x : PV) : Option (List (Key × PV)) := match x with
  | .loc p => match S p with
    | some (.rdk kvs) => some kvs
    | _ => none
  | _ => none
theorem rdP_some {S : Mp} {x : PV} {kvs : List (Key × PV)} (h : rdP S x = some kvs) : ∃ p, x = .loc p ∧ S p = some (.rdk kvs) := by
  cases x with
  | loc p =>
    unfold rdP at h
    simp only at h
    split at h
    · rename_i e; cases h; exact ⟨p, rfl, e⟩
    · cases h
  | _ => cases h
def keysOf (kvs : List (Key × PV)) : List PV := kvs.map fun kv => sc (kV kv.1)
def dIKeys (a : DE) : DI := fun ρ S R => a ρ S fun x S1 => optD (rdP S1 x) fun kvs => R (keysOf kvs) S1 []
instance {tl : TE} {dl : DE} [hl : SimE K tl dl] : SimI K (iKeys tl) (dIKeys dl) where
  sim {σ ρ H S R R'} e m h k := hl.sim e m h fun v x H1 S1 f1 m1 r1 q1 => by
    obtain ⟨kvs, ek, q⟩ := opt_elim q1
    obtain ⟨p, rfl, es⟩ := rdP_some ek
    cases rep_loc r1
    obtain ⟨od, us, hH, rk⟩ := m1 p _ es
    exact ⟨p, od, rfl, .inl ⟨us, hH, k _ H1 _ S1 [] _ f1 m1 (wk_keys hH rk.keys) ⟨hH, es⟩ lk_no q⟩⟩
/-- a statement, an expression while a dict stands still -/
def dLock (t : DS) : DS := fun D ρ S => ∃ a kvs, S a = some (.dk kvs) ∧ t (bkD [(a, .dk kvs)] D) ρ (mset S a (some (.rdk kvs)))
def dLockE (t : DE) : DE := fun ρ S Q => ∃ a kvs, S a = some (.dk kvs) ∧ t ρ (mset S a (some (.rdk kvs))) fun x S' => Q x (mset S' a (some (.dk kvs)))
structure Locks (K : PySem.W.Frag) (S : Mp) (H : Hp) (a : Addr) (od : Obj) (kvs : List (Key × PV)) (us : List (Key × V)) : Prop where
  tx : Tx H (upd H a (.frz od (.dK us)))
  mt : Mt K (upd H a (.frz od (.dK us))) (mset S a (some (.rdk kvs)))
  back : ∀ H' S', Fr (mset S a (some (.rdk kvs))) (upd H a (.frz od (.dK us))) S' H' → Mt K H' S' →
    H' a = some (.frz od (.dK us)) ∧ Fr S H (mset S' a (some (.dk kvs))) (upd H' a (.dK us)) ∧ Mt K (upd H' a (.dK us)) (mset S' a (some (.dk kvs))) ∧ Tx H' (upd H' a (.dK us))
theorem locks {S : Mp} {H : Hp} {a : Addr} {od : Obj} {kvs : List (Key × PV)} {us : List (Key × V)} (m : Mt K H S) (hS : S a = some (.dk kvs)) (hH : H a = some (.dK us)) (rk : RKV K H us kvs) : Locks K S H a od kvs us := by
  have txu : Tx H (upd H a (.frz od (.dK us))) := Tx.put (m a _ hS)
  have m0 : Mt K (upd H a (.frz od (.dK us))) (mset S a (some (.rdk kvs))) := m.put hS fun q eq => by cases eq; exact ⟨od, us, upd_same, rk.mono txu⟩
  refine ⟨txu, m0, fun H' S' f m' => ?_⟩
  obtain ⟨ha, na⟩ := f a _ upd_same (by rw [mset_same]; exact trivial)
  rw [mset_same] at na
  have tx' : Tx H' (upd H' a (.dK us)) := Tx.at ha id
  obtain ⟨od', us', ha', rk'⟩ := m' a _ na
  rw [ha] at ha'
  cases ha'
  refine ⟨ha, fun b o hb nb => ?_, fun b o eo => ?_, tx'⟩
  · have ne : b ≠ a := fun z => by rw [z, hS] at nb; exact nb
    obtain ⟨h1, h2⟩ := f b o (by rw [upd_ne ne]; exact hb) (by rw [mset_ne ne]; exact nb)
    rw [mset_ne ne] at h2
    rw [upd_ne ne, mset_ne ne]
    exact ⟨h1, h2⟩
  · by_cases z : b = a
    · subst z
      rw [mset_same] at eo
      cases eo
      exact ⟨us, upd_same, rk'.mono tx'⟩
    · rw [mset_ne z] at eo
      exact (m' b o eo).mono tx' (upd_ne z)
instance {t : TS} {dt : DS} [ht : SimS K t dt] : SimS K (tLock t) (dLock dt) where
  sim {σ ρ H S D D'} e m h k := by
    obtain ⟨a, kvs, hS, h⟩ := h
    obtain ⟨us, hH, rk⟩ := m a _ hS
    refine ⟨a, .dK us, hH, trivial, fun od => ?_⟩
    have l := locks (od := od) m hS hH rk
    refine ht.sim (e.mono l.tx) l.mt h ⟨fun σ' ρ' H' S' f m' e' q => ?_, fun v x H' S' f m' r' q => ?_, fun σ' ρ' H' S' f m' e' q => ?_, fun σ' ρ' H' S' f m' e' q => ?_⟩
    · obtain ⟨b1, b2, b3, b4⟩ := l.back H' S' f m'
      exact ⟨b1, k.nx σ' ρ' _ _ b2 b3 (e'.mono b4) q⟩
    · obtain ⟨b1, b2, b3, b4⟩ := l.back H' S' f m'
      exact ⟨b1, k.rt v x _ _ b2 b3 (r'.mono b4) q⟩
    · obtain ⟨b1, b2, b3, b4⟩ := l.back H' S' f m'
      exact ⟨b1, k.bk σ' ρ' _ _ b2 b3 (e'.mono b4) q⟩
    · obtain ⟨b1, b2, b3, b4⟩ := l.back H' S' f m'
      exact ⟨b1, k.ct σ' ρ' _ _ b2 b3 (e'.mono b4) q⟩
instance {t : TE} {dt : DE} [ht : SimE K t dt] : SimE K (tLockE t) (dLockE dt) where
  sim {σ ρ H S Q Q'} e m h k := by
    obtain ⟨a, kvs, hS, h⟩ := h
    obtain ⟨us, hH, rk⟩ := m a _ hS
    refine ⟨a, .dK us, hH, trivial, fun od => ?_⟩
    have l := locks (od := od) m hS hH rk
    refine ht.sim (e.mono l.tx) l.mt h fun v x H' S' f m' r' q => ?_
    obtain ⟨b1, b2, b3, b4⟩ := l.back H' S' f m'
    exact ⟨b1, k v x _ _ b2 b3 (r'.mono b4) q⟩
end
end DL

namespace DL
open PySem PySem.Spec PyProof.Rows L2
section
variable {K : PySem.W.Frag}
/-! ### a def -/
def startD (N : List Str) (xs : List PV) : DSt := xs.map some ++ List.replicate (N.length - xs.length) none
theorem env_start {H : Hp} {N : List Str} {vs : List V} {xs : List PV} (r : Reps K H vs xs) : Env K H (L2.start N vs) (startD N xs) := by
  refine ⟨by simp [L2.start, startD, r.length], fun i x q => ?_⟩
  unfold startD at q
  by_cases hi : i < (xs.map some).length
  · rw [List.getElem?_append_left hi, List.getElem?_map] at q
    cases e : xs[i]? with
    | none => rw [e] at q; cases q
    | some y =>
      rw [e] at q
      cases q
      obtain ⟨v, h1, h2⟩ := r.get e
      refine ⟨v, ?_, h2⟩
      unfold L2.start
      rw [List.getElem?_append_left (by simp at hi ⊢; rw [r.length]; exact hi), List.getElem?_map, h1]
      rfl
  · rw [List.getElem?_append_right (by omega), List.getElem?_replicate] at q
    split at q <;> cases q
theorem fnD {P : Program} {w : World} {mg : Str → Option Value} {base : Heap} {x qual : Str} {st : Stmt} {f : Addr} {fd : FuncData} {N ps : List Str} {k : Nat} {G : DSp} (F : Fun K x qual st f fd) (Sc : FnScope N ps (defScope st)) (len : ∀ xs S Q, G xs S Q → xs.length = ps.length)
    (hbody : ∀ (cdv : Value) (A : Around) (outer : List PySem.Env) (s : Shared) (H : Hp) (E : XK), Room k (A.deeper (envOfC qual (defScope st) s.heap.objs.size f cdv)) →
      ∃ t, PSs (cxOf CX0 P w K mg base N qual (defScope st) f cdv A outer s H E).nox (defBody st) t ∧ ∃ d, SimS K t d ∧ ∀ xs S Q, G xs S Q → d { nx := fun _ S' => Q .non S', rt := Q } (startD N xs) S) : FnOk P w K mg base CX0 (k + 1) f fd ps (spD K G) := by
  refine F.ok Sc (fun vs H Q E h => ?_) (fun cdv A outer s H vs Q E hr h => ?_)
  · obtain ⟨xs, S, Q', r, m, g, _⟩ := h
    rw [r.length]
    exact len xs S Q' g
  · obtain ⟨t, ht, d, hd, hb⟩ := hbody cdv A outer s H E hr
    obtain ⟨xs, S, Q', r, m, g, k'⟩ := h
    refine ⟨t, ht, hd.sim (env_start r) m (hb xs S Q' g) ⟨fun σ' ρ' H' S' f' m' e' q => k' .non .non H' S' f' m' .non q, k', fun _ _ _ _ _ _ _ q => q, fun _ _ _ _ _ _ _ q => q⟩⟩
end
end DL

namespace DL
open PySem PySem.Spec PyProof.Rows L2
section
variable {K : PySem.W.Frag}
/-! ### data: trees of None, bools, ints, texts, tuples; one list on top -/
mutual
def dat : PV → Option PyData
  | .non => some .none
  | .bl b => some (.bool b)
  | .int i => some (.int i)
  | .str x => some (.str x)
  | .tup xs => (dats xs).map PyData.tuple
  | .ktup xs => (dats xs).map PyData.tuple
  | .kl _ => none
  | .loc _ => none
  | .ty _ => none
  | .raw _ => none
def dats : List PV → Option (List PyData)
  | [] => some []
  | x :: xs => match dat x, dats xs with
    | some d, some ds => some (d :: ds)
    | _, _ => none
end
def datS (S : Mp) (x : PV) : Option PyData := match x with
  | .loc p => (seqP (.loc p) S).bind fun xs => (dats xs).map PyData.list
  | x => dat x
theorem dats_cons {x : PV} {xs : List PV} {es : List PyData} (h : dats (x :: xs) = some es) : ∃ d ds, dat x = some d ∧ dats xs = some ds ∧ es = d :: ds := by
  rw [dats] at h
  cases h1 : dat x with
  | none => simp [h1] at h
  | some d =>
    cases h2 : dats xs with
    | none => simp [h1, h2] at h
    | some ds => simp only [h1, h2, Option.some.injEq] at h; exact ⟨d, ds, rfl, rfl, h.symm⟩
mutual
theorem dp_of {H : Hp} : ∀ {v : V} {x : PV} {d : PyData}, Rep K H v x → dat x = some d → Dp K H v d
  | _, _, _, .non, e => by simp only [dat, Option.some.injEq] at e; subst e; exact .non
  | _, _, _, .bl b, e => by simp only [dat, Option.some.injEq] at e; subst e; exact .bl b
  | _, _, _, .int b, e => by simp only [dat, Option.some.injEq] at e; subst e; exact .int b
  | _, _, _, .str b, e => by simp only [dat, Option.some.injEq] at e; subst e; exact .str b
  | _, _, _, .ty b, e => by simp [dat] at e
  | _, _, _, .loc b, e => by simp [dat] at e
  | _, _, _, .raw b, e => by simp [dat] at e
  | _, _, _, .kl _ _, e => by simp [dat] at e
  | _, _, d, .tup (xs := xs) h r, e => by
    rw [dat] at e
    obtain ⟨ds, e1, rfl⟩ := Option.map_eq_some_iff.mp e
    exact .tup (SqT.of h) (dps_of r e1)
  | _, _, d, .ktup (xs := xs) h r, e => by
    rw [dat] at e
    obtain ⟨ds, e1, rfl⟩ := Option.map_eq_some_iff.mp e
    exact .tup h.sq (dps_of r e1)
theorem dps_of {H : Hp} : ∀ {vs : List V} {xs : List PV} {ds : List PyData}, Reps K H vs xs → dats xs = some ds → DpAll K H vs ds
  | _, _, _, .nil, e => by rw [dats] at e; cases e; exact .nil
  | _, _, _, .cons h r, e => by
    obtain ⟨d, ds, e1, e2, rfl⟩ := dats_cons e
    exact .cons (dp_of h e1) (dps_of r e2)
end
theorem dpS_of {H : Hp} {S : Mp} {v : V} {x : PV} {d : PyData} (m : Mt K H S) (r : Rep K H v x) (e : datS S x = some d) : Dp K H v d := by
  cases x with
  | loc p =>
    unfold datS at e
    obtain ⟨xs, e1, e2⟩ := Option.bind_eq_some_iff.mp e
    obtain ⟨ds, e3, rfl⟩ := Option.map_eq_some_iff.mp e2
    obtain ⟨q, vs, rfl, rs, hs⟩ := seq_of m r e1
    rcases hs with ⟨hs, _⟩ | ⟨_, z | z⟩
    · exact .lst hs (dps_of rs e3)
    · cases z
    · cases z
  | _ => exact dp_of r e
def dEqD (f : Bool → Bool) : D2 := fun x y S Q => optD (datS S x) fun d => optD (datS S y) fun e => SeqAt.shaped d = true ∧ SeqAt.shaped e = true ∧ Q (.bl (f (PyData.eqv d e))) S
instance : SimR K (rEqD K) (dEqD id) where
  sim {v u x y H S Q Q'} r1 r2 m h k := by
    obtain ⟨d, e1, h⟩ := opt_elim h
    obtain ⟨e, e2, h1, h2, q⟩ := opt_elim h
    exact ⟨d, e, dpS_of m r1 e1, dpS_of m r2 e2, h1, h2, k _ _ H S Fr.refl m (.bl _) q⟩
instance : SimR K (rNeD K) (dEqD not) where
  sim {v u x y H S Q Q'} r1 r2 m h k := by
    obtain ⟨d, e1, h⟩ := opt_elim h
    obtain ⟨e, e2, h1, h2, q⟩ := opt_elim h
    exact ⟨d, e, dpS_of m r1 e1, dpS_of m r2 e2, h1, h2, k _ _ H S Fr.refl m (.bl _) q⟩
/-- data in a tuple of data -/
def rInT (K : PySem.W.Frag) (f : Bool → Bool) : R2 := fun x y H Q => ∃ d ds, Dp K H x d ∧ Dp K H y (.tuple ds) ∧ SeqAt.shaped d = true ∧ SeqAt.shaped (.tuple ds) = true ∧ Q (.bl (f (ds.any fun z => PyData.eqv z d))) H
theorem o_inDT {X : Cx} (hu : X.A.units + 65 < cLine) : OpR X (compareOp .In) (rInT X.K id) := by
  intro pins s σ H x y v u Q I rx ry h
  obtain ⟨d, ds, hd, he, sd, se, q⟩ := h
  obtain ⟨as, r1⟩ := Dp.reads I d x v hd rx
  obtain ⟨bs, r2⟩ := Dp.reads I (.tuple ds) y u he ry
  exact SeqAt.in_tuple_reads r2 r1 (SeqAt.canLay_of_shaped se) (SeqAt.canLay_of_shaped sd) (room_in_shaped sd hu) ⟨.bl _, H, I, rfl, q⟩
theorem o_notInDT {X : Cx} (hu : X.A.units + 65 < cLine) : OpR X (compareOp .NotIn) (rInT X.K not) := by
  intro pins s σ H x y v u Q I rx ry h
  obtain ⟨d, ds, hd, he, sd, se, q⟩ := h
  obtain ⟨as, r1⟩ := Dp.reads I d x v hd rx
  obtain ⟨bs, r2⟩ := Dp.reads I (.tuple ds) y u he ry
  exact SeqAt.notIn_tuple_reads r2 r1 (SeqAt.canLay_of_shaped se) (SeqAt.canLay_of_shaped sd) (room_in_shaped sd hu) ⟨.bl _, H, I, rfl, q⟩
def dInT (f : Bool → Bool) : D2 := fun x y S Q => optD (datS S x) fun d => optD (dat y) fun e => match e with
  | .tuple ds => SeqAt.shaped d = true ∧ SeqAt.shaped (.tuple ds) = true ∧ Q (.bl (f (ds.any fun z => PyData.eqv z d))) S
  | _ => False
instance {f : Bool → Bool} : SimR K (rInT K f) (dInT f) where
  sim {v u x y H S Q Q'} r1 r2 m h k := by
    obtain ⟨d, e1, h⟩ := opt_elim h
    obtain ⟨e, e2, h⟩ := opt_elim h
    cases e with
    | tuple ds => exact ⟨d, ds, dpS_of m r1 e1, dp_of r2 e2, h.1, h.2.1, k _ _ H S Fr.refl m (.bl _) h.2.2⟩
    | _ => exact h.elim
theorem room65 {k : Nat} {A : Around} (hr : Room k A) : A.units + 65 < cLine := by have := hr.un; omega
theorem room64 {k : Nat} {A : Around} (hr : Room k A) : A.units + 64 < cLine := by have := hr.un; omega
/-! ### repr -/
def rRepr (K : PySem.W.Frag) : List V → Hp → VK → Prop := fun xs H Q => ∃ a d, xs = [.ref a] ∧ Dp K H (.ref a) d ∧ SeqAt.shaped d = true ∧ d.showable = true ∧ d.shown.length ≤ sizeLine ∧ Q (.str d.shown) H
theorem c_repr {X : Cx} (hg : X.A.guards = some []) {k : Nat} (hr : Room k X.A) : CallR X (.builtin "repr") (rRepr X.K) := by
  intro pins s σ H xs us Q I r h
  obtain ⟨a, d, rfl, hd, hs, hw, hz, q⟩ := h
  obtain ⟨u, rfl, ru⟩ := vals1 r
  cases ru
  obtain ⟨as, rd⟩ := Dp.reads I d _ _ hd rfl
  have hdp := SeqAt.depth_of_shaped hs
  refine repr_of_reads' rd hw (PyData.noDict_hsm (PyData.hasDict_of_canLay d (SeqAt.canLay_of_shaped hs))) hg (by have := hr.un; omega) (fun _ _ e => e) (fun h' u tk hk => ?_) hz
  exact ⟨.str d.shown, H, I.kept hk, ⟨_, rfl⟩, q⟩
def box : PyData → Bool
  | .list _ => true
  | .tuple _ => true
  | _ => false
def dRepr : DC := fun xs S Q => match xs with
  | [x] => optD (datS S x) fun d => box d = true ∧ SeqAt.shaped d = true ∧ d.showable = true ∧ d.shown.length ≤ sizeLine ∧ Q (.str d.shown) S
  | _ => False
theorem dp_ref {H : Hp} {v : V} {d : PyData} (h : Dp K H v d) (e : box d = true) : ∃ a, v = .ref a := by
  cases h <;> first | exact ⟨_, rfl⟩ | cases e
instance : SimC K (rRepr K) dRepr where
  sim {vs xs H S Q Q'} r m h k := by
    obtain ⟨x, rfl, h⟩ := one_elim h
    obtain ⟨d, e, hm, h1, h2, h3, q⟩ := opt_elim h
    obtain ⟨v, rfl, r1⟩ := reps1 r
    have hd := dpS_of m r1 e
    obtain ⟨a, rfl⟩ := dp_ref hd hm
    exact ⟨a, d, rfl, hd, h1, h2, h3, k _ _ H S Fr.refl m (.str _) q⟩
/-! ### names of the module -/
/-- the name n of the module holds the tree x -/
structure GV (K : PySem.W.Frag) (mg : Str → Option Value) (n : Str) (x : PV) : Prop where
  ex : ∃ (u : Value) (v : V), mg n = some u ∧ RelV v u ∧ ∀ H, Rep K H v x
def tGV (K : PySem.W.Frag) (x : PV) : TE := fun _ H Q => ∀ v, (∀ H', Rep K H' v x) → Q v H
theorem pe_gv {X : Cx} {n : Str} {x : PV} {pos : Pos} (hg : Gl X n) (g : GV X.K X.mg n x) (hd : (n == ("__debug__" : Str)) = false := by decide) : PE X (.Name n pos) (tGV X.K x) := by
  obtain ⟨u, v, hm, r, hr⟩ := g.ex
  exact ⟨fun pins s σ H Q I h => (pe_glob hg hm r hd).run pins s σ H Q I (h v hr)⟩
instance {x : PV} : SimE K (tGV K x) (dC x) where
  sim {σ ρ H S Q Q'} e m h k := fun v r => k v x H S Fr.refl m (r H) h
theorem pe_cls {X : Cx} {x : Str} {n : String} {pos : Pos} (hg : Gl X x) (hm : X.mg x = none) (hv : bootBuiltins x = some (.type n)) (hn : x ≠ "__name__" := by decide) (hd : (x == ("__debug__" : Str)) = false := by decide) : PE X (.Name x pos) (tC (.ty n)) := pe_bltn hg hm hv rfl hn hd
/-! ### a written dict's get, the key there -/
structure WG (K : PySem.W.Frag) (w : World) (mg : Str → Option Value) (n : Str) (tab : List (Str × Int)) : Prop where
  ex : ∃ a, mg n = some (.ref a) ∧ (∃ es m, K.lookup a = some ⟨.type "dict", none, .dict es m, #[]⟩ ∧ PySem.W.KeysLit w.params es.toList) ∧ (a == sysModules) = false ∧ ∀ z v, tab.lookup z = some v → ∃ t, PySem.W.nsIn K a z = some (some (.int v t))
def tWGet (tab : List (Str × Int)) (ty : TE) : TE := fun σ H Q => ty σ H fun y H2 => ∃ z v, y = .str z ∧ tab.lookup z = some v ∧ Q (.int v) H2
theorem pe_wget {X : Cx} {n : Str} {tab : List (Str × Int)} {e : Expr} {ty : TE} {np apos cpos : Pos} (hg : Gl X n) (g : WG X.K X.w X.mg n tab) (he : PE X e ty) (m : M1 X (.Name n np) "get" apos e cpos) (hd : (n == ("__debug__" : Str)) = false := by decide) :
    PE X (.Call (.Attribute (.Name n np) "get" apos) [e] [] cpos) (tWGet tab ty) := by
  obtain ⟨a, hm, ⟨es, mm, hl, hk⟩, low, ht⟩ := g.ex
  refine ⟨fun pins s σ H Q I h => ?_⟩
  refine wpAny_Call_method m.base m.few m.line PySem.F.plainAttrs_dict PySem.F.slot_dict_get PySem.F.type_dict_get (thn ((pe_glob (v := .ref a) (pos := np) hg hm rfl hd).run pins s σ H (fun x H1 => x = .ref a ∧ H1 = H) I ⟨rfl, rfl⟩) fun u s1 ⟨x, H1, I1, rx, ex, eH⟩ => ?_)
  subst ex eH
  obtain rfl : u = Value.ref a := rx
  have hmo := fun (s : Shared) (hK : X.K.In s.heap) => PySem.W.mapOf_K (prog := X.prog) (w := X.w) hK hl hk
  refine ⟨(hmo s1 I1.kIn).typeIs, fun b q => ?_, ?_⟩
  · cases q
    exact ⟨_, I1.kIn _ _ hl, rfl⟩
  · rw [m.trees]
    refine Calls.callWith_builtin rfl (Calls.evalArgs_plain (Calls.spliced_cons (thn (he.run pins s1 σ H1 _ I1 h) fun iv s2 ⟨y, H2, I2, ry, z, v, ey, ez, q2⟩ => Calls.spliced_nil ?_)))
    subst ey
    obtain ⟨t, rfl⟩ := ry
    obtain ⟨t2, hn⟩ := ht z v ez
    have hf := PySem.W.find_K hl hn
    refine call_meetsIn PySem.F.slot_dict_get (hmo s2 I2.kIn).typeIs PySem.F.entry_dict_get (PySem.F.args_dict_get_2 _ _) (meets_dict_get (strKind X.prog X.w) a (strKind_is X.prog X.w z t) low) ⟨_, hmo s2 I2.kIn, ?_⟩
    rw [hf]
    exact ⟨.int v, H2, I2.tok _, ⟨t2, rfl⟩, q2⟩
def dWGet (tab : List (Str × Int)) (y : DE) : DE := fun ρ S Q => y ρ S fun z S1 => match z with
  | .str z => optD (tab.lookup z) fun v => Q (.int v) S1
  | _ => False
instance {tab : List (Str × Int)} {ty : TE} {dy : DE} [hy : SimE K ty dy] : SimE K (tWGet tab ty) (dWGet tab dy) where
  sim {σ ρ H S Q Q'} e m h k := hy.sim e m h fun v x H1 S1 f1 m1 r1 q1 => by
    obtain ⟨z, rfl, h⟩ := str_elim q1
    obtain ⟨i, e1, q⟩ := opt_elim h
    exact ⟨z, i, rep_str r1, e1, k _ _ H1 S1 f1 m1 (.int _) q⟩
/-! ### a local name that holds a def -/
structure Hld (P : Program) (w : World) (K : PySem.W.Frag) (mg : Str → Option Value) (base : Heap) (k : Nat) (D : Addr → Option DSp) : Prop where
  ex : ∀ f F, D f = some F → Held P w K mg base k f (spD K F)
theorem pe_calA {X : Cx} {k i : Nat} {D : Addr → Option DSp} {x : Str} {p pos : Pos} {e : Expr} {es : List Expr} {t : TA} (A : Hld X.prog X.w X.K X.mg X.base k D) (hr : Room k X.A) (hN : X.N[i]? = some x) (hv : Vis X.env.scope x) (ha : PA X (e :: es) t)
    (hdb : (x == ("__debug__" : Str)) = false := by decide) (hcd : (x == ("__classdict__" : Str)) = false := by decide)
    (he : starEach (e :: es) X.env = (false, eval e X.env) :: starEach es X.env := by rfl) (hpl : (backTo pos (starEach es X.env)).any (·.1) = false := by rfl) : PE X (.Call (.Name x p) (e :: es) [] pos) (tCallA i (fun f => (D f).map (spD X.K)) t) :=
  pe_callA (fun f sp h => by
    obtain ⟨F, e1, rfl⟩ := Option.map_eq_some_iff.mp h
    exact A.ex f F e1) hr hN hv ha hdb hcd he hpl
def dCallA (i : Nat) (D : Addr → Option DSp) (a : DA) : DE := fun ρ S Q => match getv ρ i with
  | some (.loc f) => optD (D f) fun F => a ρ S fun xs S1 => F xs S1 Q
  | _ => False
instance {i : Nat} {D : Addr → Option DSp} {ta : TA} {da : DA} [ha : SimA K ta da] : SimE K (tCallA i (fun f => (D f).map (spD K)) ta) (dCallA i D da) where
  sim {σ ρ H S Q Q'} e m h k := by
    unfold dCallA getv at h
    cases q : ρ[i]? with
    | none => rw [q] at h; exact h.elim
    | some o =>
      cases o with
      | none => rw [q] at h; exact h.elim
      | some x =>
        rw [q] at h
        cases x with
        | loc f =>
          obtain ⟨F, eF, h⟩ := opt_elim h
          obtain ⟨v, a, b⟩ := e.2 i _ q
          cases rep_loc b
          refine ⟨f, spD K F, a, by simp only [eF, Option.map_some], ha.sim e m h fun vs xs H1 S1 f1 m1 r1 q1 => ?_⟩
          exact ⟨xs, S1, Q', r1, m1, q1, fun v x H' S' f' m' r' q' => k v x H' S' (f1.trans f') m' r' q'⟩
        | _ => exact h.elim
/-! ### {k: v, ..} written out -/
def dPairs : List (DE × DE) → DSt → Mp → (List (PV × PV) → Mp → Prop) → Prop
  | [], _, S, Q => Q [] S
  | (a, b) :: r, ρ, S, Q => a ρ S fun x S1 => b ρ S1 fun y S2 => dPairs r ρ S2 fun ps S3 => Q ((x, y) :: ps) S3
class SimPs (K : PySem.W.Frag) (t : List (TE × TE)) (d : outParam (List (DE × DE))) : Prop where
  sim : ∀ {σ : L2.St} {ρ : DSt} {H : Hp} {S : Mp} {Q : List (V × V) → Hp → Prop} {Q' : List (PV × PV) → Mp → Prop}, Env K H σ ρ → Mt K H S → dPairs d ρ S Q' →
    (∀ vs xs H' S', Fr S H S' H' → Mt K H' S' → Paired (fun p q => Rep K H' p.1 q.1 ∧ Rep K H' p.2 q.2) vs xs → Q' xs S' → Q vs H') → tPairs t σ H Q
instance : SimPs K [] [] where
  sim {σ ρ H S Q Q'} e m h k := k [] [] H S Fr.refl m .nil h
theorem paired_mono {H H' : Hp} (t : Tx H H') : ∀ {vs : List (V × V)} {xs : List (PV × PV)}, Paired (fun p q => Rep K H p.1 q.1 ∧ Rep K H p.2 q.2) vs xs → Paired (fun p q => Rep K H' p.1 q.1 ∧ Rep K H' p.2 q.2) vs xs
  | _, _, .nil => .nil
  | _, _, .cons h r => .cons ⟨h.1.mono t, h.2.mono t⟩ (paired_mono t r)
instance {ta tb : TE} {tr : List (TE × TE)} {da db : DE} {dr : List (DE × DE)} [ha : SimE K ta da] [hb : SimE K tb db] [hr : SimPs K tr dr] : SimPs K ((ta, tb) :: tr) ((da, db) :: dr) where
  sim {σ ρ H S Q Q'} e m h k := ha.sim e m h fun v x H1 S1 f1 m1 r1 q1 => hb.sim (e.mono (f1.tx m)) m1 q1 fun u y H2 S2 f2 m2 r2 q2 =>
    hr.sim (e.mono ((f1.trans f2).tx m)) m2 q2 fun vs xs H3 S3 f3 m3 r3 q3 => k _ _ H3 S3 ((f1.trans f2).trans f3) m3 (.cons ⟨r1.mono ((f2.trans f3).tx m1), r2.mono (f3.tx m2)⟩ r3) q3
def keyed : List (PV × PV) → Option (List (Key × PV))
  | [] => some []
  | (x, y) :: r => match keyP x, keyed r with
    | some k, some ks => some ((k, y) :: ks)
    | _, _ => none
theorem keyed_of {H : Hp} : ∀ {vs : List (V × V)} {xs : List (PV × PV)} {kvs : List (Key × PV)}, Paired (fun p q => Rep K H p.1 q.1 ∧ Rep K H p.2 q.2) vs xs → keyed xs = some kvs → ∃ us : List (Key × V), vs = us.map (fun kv => (kV kv.1, kv.2)) ∧ RKV K H us kvs
  | _, _, _, .nil, e => by cases e; exact ⟨[], rfl, .nil⟩
  | _, (x, y) :: xs, kvs, .cons (a := p) h r, e => by
    rw [keyed] at e
    cases e1 : keyP x with
    | none => simp [e1] at e
    | some k =>
      cases e2 : keyed xs with
      | none => simp [e1, e2] at e
      | some l =>
        simp only [e1, e2, Option.some.injEq] at e
        subst e
        obtain ⟨us, rfl, rk⟩ := keyed_of r e2
        refine ⟨(k, p.2) :: us, ?_, .cons h.2 rk⟩
        obtain ⟨p1, p2⟩ := p
        rw [List.map_cons]
        have := keyP_of h.1 e1
        simp only at this
        rw [this]
def mergeP (kvs : List (Key × PV)) (l : List (Key × PV)) : List (Key × PV) := l.foldl (fun a kv => putKP a kv.1 kv.2) kvs
theorem merge_rep {H : Hp} : ∀ {us : List (Key × V)} {kvs : List (Key × PV)} {ws : List (Key × V)} {ls : List (Key × PV)}, RKV K H us kvs → RKV K H ws ls → RKV K H (mergeK us ws) (mergeP kvs ls)
  | _, _, _, _, a, .nil => a
  | us, kvs, _, _, a, .cons (k := k) (v := v) (x := x) h r => merge_rep (us := putK us k v) (kvs := putKP kvs k x) (a.put k h) r
def dDisp (ds : List (DE × DE)) : DE := fun ρ S Q => dPairs ds ρ S fun ps S1 => optD (keyed ps) fun kvs => kvs.length ≤ 15 ∧ ∀ p, S1 p = none → Q (.loc p) (mset S1 p (some (.dk (mergeP [] kvs))))
instance {ts : List (TE × TE)} {ds : List (DE × DE)} [hs : SimPs K ts ds] : SimE K (tDisp ts) (dDisp ds) where
  sim {σ ρ H S Q Q'} e m h k := by
    intro p hp
    have nS : S p = none := m.freeS hp
    have f0 : Fr S H S (upd H p (.dK [])) := Fr.newT hp
    refine hs.sim (e.mono (Tx.new hp)) (m.newU hp) h fun vs xs H2 S2 f2 m2 r2 q2 => ?_
    obtain ⟨kvs, ek, hl, q⟩ := opt_elim q2
    obtain ⟨us, rfl, rk⟩ := keyed_of r2 ek
    obtain ⟨h2, n2⟩ := f2.out upd_same nS
    refine ⟨h2, us, rfl, by rw [rk.length]; exact hl, ?_⟩
    have tx : Tx H2 (upd H2 p (.dK (mergeK [] us))) := Tx.at h2 id
    refine k _ _ _ (mset S2 p (some (.dk (mergeP [] kvs)))) (fun a o ha ra => ?_) (fun a o eo => ?_) (.loc p) (q p n2)
    · have ne : a ≠ p := ne_of_none ha hp
      obtain ⟨h3, n3⟩ := f2 a o (by rw [upd_ne ne]; exact ha) ra
      rw [upd_ne ne, mset_ne ne]
      exact ⟨h3, n3⟩
    · by_cases z : a = p
      · subst z
        rw [mset_same] at eo
        cases eo
        exact ⟨_, upd_same, (merge_rep .nil rk).mono tx⟩
      · rw [mset_ne z] at eo
        exact (m2 a o eo).mono tx (upd_ne z)
def dDNew : DE := fun _ S Q => ∀ p, S p = none → Q (.loc p) (mset S p (some (.dk [])))
/-- a, b, c = x, y, z -/
def dPar3 (i j l : Nat) (a : DA) : DS := fun D ρ S => a ρ S fun xs S1 => match xs with
  | [x, y, z] => D.nx (((ρ.set i (some x)).set j (some y)).set l (some z)) S1
  | _ => False
instance {i j l : Nat} {ta : TA} {da : DA} [ha : SimA K ta da] : SimS K (tPar3 i j l ta) (dPar3 i j l da) where
  sim {σ ρ H S D D'} e m h k := ha.sim e m h fun vs xs H1 S1 f1 m1 r1 q1 => by
    obtain ⟨x, y, z, rfl, q2⟩ : ∃ x y z, xs = [x, y, z] ∧ D'.nx (((ρ.set i (some x)).set j (some y)).set l (some z)) S1 := by
      rcases xs with _ | ⟨x, _ | ⟨y, _ | ⟨z, _ | _⟩⟩⟩
      · exact q1.elim
      · exact q1.elim
      · exact q1.elim
      · exact ⟨x, y, z, rfl, q1⟩
      · exact q1.elim
    cases r1 with
    | cons h1 r1 =>
      obtain ⟨v2, v3, rfl, h2, h3⟩ := reps2 r1
      exact ⟨_, _, _, rfl, k.nx _ _ H1 S1 f1 m1 ((((e.mono (f1.tx m)).set i h1).set j h2).set l h3) q2⟩
/-! ### calls by the bundles Cal, Met, Mak; keywords -/
structure CalK (P : Program) (w : World) (K : PySem.W.Frag) (mg : Str → Option Value) (base : Heap) (k : Nat) (x : Str) (ks : List Str) (sp : Sp) (gV : List V → List V → List V) : Prop where
  ex : ∃ (f : Addr) (fd : FuncData) (ps : List Str) (g : List Value → List Value → List Value), FnOk P w K mg base CX0 k f fd ps sp ∧ mg x = some (.ref f) ∧ PySem.W.keepIn K (.ref f) = true ∧ KBinds K fd ps ks g gV
end
end DL

/-! Trees as keys: hash, ==, < of nested tuples of ints and texts. -/
namespace DL
open PySem PySem.Spec PyProof.Rows L2
open PySem.SeqAt Ob
open PySem.AutoSeq1 (wpAny_loadPart')
open PySem.MeetsSeq PySem.MeetsSeq2 PySem.MeetsSeq3 PySem.SeqRoads2
mutual
def toNK : PV → Option NestedKey
  | .non => some .none
  | .int i => some (.num i)
  | .str x => some (.text x)
  | .tup xs => (toNKs xs).map NestedKey.tup
  | .ktup xs => (toNKs xs).map NestedKey.tup
  | .bl _ => none
  | .kl _ => none
  | .loc _ => none
  | .ty _ => none
  | .raw _ => none
def toNKs : List PV → Option (List NestedKey)
  | [] => some []
  | x :: xs => match toNK x, toNKs xs with
    | some d, some ds => some (d :: ds)
    | _, _ => none
end
theorem toNKs_cons {x : PV} {xs : List PV} {es : List NestedKey} (h : toNKs (x :: xs) = some es) : ∃ d ds, toNK x = some d ∧ toNKs xs = some ds ∧ es = d :: ds := by
  rw [toNKs] at h
  cases h1 : toNK x with
  | none => simp [h1] at h
  | some d =>
    cases h2 : toNKs xs with
    | none => simp [h1, h2] at h
    | some ds => simp only [h1, h2, Option.some.injEq] at h; exact ⟨d, ds, rfl, rfl, h.symm⟩
mutual
/-- the value v in the heap h is the key k (no bools) -/
inductive NkIs (h : Heap) : NestedKey → Value → Prop
  | none : NkIs h .none .none
  | int (i t) : NkIs h (.num i) (.int i t)
  | text (x t) : NkIs h (.text x) (.str x t)
  | tup {a o vs n ks} : h.get? a = some o → o.cls = .type "tuple" → o.data = .seq vs n → NkAll h ks vs.toList → NkIs h (.tup ks) (.ref a)
inductive NkAll (h : Heap) : List NestedKey → List Value → Prop
  | nil : NkAll h [] []
  | cons {k v ks vs} : NkIs h k v → NkAll h ks vs → NkAll h (k :: ks) (v :: vs)
end
mutual
theorem NkIs.nest {h : Heap} : ∀ {k : NestedKey} {v : Value}, NkIs h k v → NestedIs h k v
  | _, _, .none => .none
  | _, _, .int i t => .int i t
  | _, _, .text i t => .text i t
  | _, _, .tup a b c d => .tup a b c (NkAll.nest d)
theorem NkAll.nest {h : Heap} : ∀ {k : List NestedKey} {v : List Value}, NkAll h k v → NestedAll h k v
  | _, _, .nil => .nil
  | _, _, .cons a b => .cons (NkIs.nest a) (NkAll.nest b)
end
mutual
theorem NkIs.at {h h' : Heap} (hk : ∀ a o vs n, h.get? a = some o → o.cls = .type "tuple" → o.data = .seq vs n → h'.get? a = some o) : ∀ {k : NestedKey} {v : Value}, NkIs h k v → NkIs h' k v
  | _, _, .none => .none
  | _, _, .int i t => .int i t
  | _, _, .text i t => .text i t
  | _, _, .tup a b c d => .tup (hk _ _ _ _ a b c) b c (NkAll.at hk d)
theorem NkAll.at {h h' : Heap} (hk : ∀ a o vs n, h.get? a = some o → o.cls = .type "tuple" → o.data = .seq vs n → h'.get? a = some o) : ∀ {k : List NestedKey} {v : List Value}, NkAll h k v → NkAll h' k v
  | _, _, .nil => .nil
  | _, _, .cons a b => .cons (NkIs.at hk a) (NkAll.at hk b)
end
theorem NkAll.length {h : Heap} {ks : List NestedKey} {vs : List Value} (r : NkAll h ks vs) : vs.length = ks.length := NestedAll.length _ _ r.nest
section
variable {X : Cx} {pins : List (Addr × Obj)} {σ : L2.St} {H : Hp} {s : Shared}
mutual
theorem nest_of (I : Inv X pins σ H s) : ∀ {v : V} {x : PV} {k : NestedKey} {u : Value}, Rep X.K H v x → toNK x = some k → RelV v u → NkIs s.heap k u
  | _, _, _, _, .non, e, r => by simp only [toNK, Option.some.injEq] at e; subst e; cases r; exact .none
  | _, _, _, _, .bl b, e, r => by simp [toNK] at e
  | _, _, _, _, .int b, e, r => by simp only [toNK, Option.some.injEq] at e; subst e; obtain ⟨t, rfl⟩ := r; exact .int _ _
  | _, _, _, _, .str b, e, r => by simp only [toNK, Option.some.injEq] at e; subst e; obtain ⟨t, rfl⟩ := r; exact .text _ _
  | _, _, _, _, .ty b, e, r => by simp [toNK] at e
  | _, _, _, _, .loc b, e, r => by simp [toNK] at e
  | _, _, _, _, .raw b, e, r => by simp [toNK] at e
  | _, _, _, _, .kl _ _, e, r => by simp [toNK] at e
  | _, _, _, _, .tup (xs := xs) h q, e, r => by
    rw [toNK] at e
    obtain ⟨ds, e1, rfl⟩ := Option.map_eq_some_iff.mp e
    obtain rfl := (show _ = Value.ref _ from r)
    obtain ⟨its, rv, ⟨o, ho, hc, n, hd⟩, hz⟩ := I.tuple (SqT.of h)
    exact .tup ho hc hd (nests_of I q e1 rv)
  | _, _, _, _, .ktup (xs := xs) h q, e, r => by
    rw [toNK] at e
    obtain ⟨ds, e1, rfl⟩ := Option.map_eq_some_iff.mp e
    obtain rfl := (show _ = Value.ref _ from r)
    obtain ⟨its, rv, ⟨o, ho, hc, n, hd⟩, hz⟩ := I.tuple h.sq
    exact .tup ho hc hd (nests_of I q e1 rv)
theorem nests_of (I : Inv X pins σ H s) : ∀ {vs : List V} {xs : List PV} {ks : List NestedKey} {us : List Value}, Reps X.K H vs xs → toNKs xs = some ks → Vals vs us → NkAll s.heap ks us
  | _, _, _, _, .nil, e, r => by rw [toNKs] at e; cases e; cases r; exact .nil
  | _, _, _, _, .cons h q, e, r => by
    obtain ⟨d, ds, e1, e2, rfl⟩ := toNKs_cons e
    cases r with
    | cons r1 r2 => exact .cons (nest_of I h e1 r1) (nests_of I q e2 r2)
end
end
/-! ### order -/
mutual
/-- x < y: none where two things of different kinds must be compared -/
def ltNK : NestedKey → NestedKey → Option Bool
  | .num i, .num j => some (decide (i < j))
  | .text x, .text y => some (decide (x.cps.toList < y.cps.toList))
  | .tup xs, .tup ys => ltNKs xs ys
  | _, _ => none
def ltNKs : List NestedKey → List NestedKey → Option Bool
  | [], [] => some false
  | [], _ :: _ => some true
  | _ :: _, [] => some false
  | x :: xs, y :: ys => if NestedKey.beq x y = true then ltNKs xs ys else ltNK x y
end
theorem tup_ltF (l b : Addr) (items items2 : Array Value) (n n2 : Nat) (dd dd2 : Option Addr) (sl sl2 : Array (Option Value)) (e r : Nat → Bool) :
    Meets (Builtin.«tuple.__lt__» ⟨[.ref l, .ref b], []⟩)
      (fun A R s => s.heap.get? l = some { cls := .type "tuple", dict := dd, data := .seq items n, slots := sl } ∧ s.heap.get? b = some { cls := .type "tuple", dict := dd2, data := .seq items2 n2, slots := sl2 } ∧
        (∀ j (h1 : j < items.size) (h2 : j < items2.size), EqAt A.in1 s items[j] items2[j] (e j)) ∧
        (∀ j (h1 : j < items.size) (h2 : j < items2.size), (∀ i, i < j → e i = true) → e j = false → RcOp .Lt A.in1 s items[j] items2[j] (r j)) ∧
        R (.ok (.ret (.bool (lexAt e r (decide (items.size < items2.size)) 0 (min items.size items2.size))))) s) :=
  .of_wp fun prog w A R s h => by
    obtain ⟨hp, g, d, tk, os⟩ := s; obtain ⟨hl, hb, he, hr, h⟩ := h
    have f2 := AutoSeq1.sub_tuple_tuple
    have hZ : (items.toList.zip items2.toList).length = min items.size items2.size := by simp
    wp_walk using wpAny_loadPart' hl, wpAny_loadPart' hb, wpAny_forIn_list _ (fun rest b s' => b.1 = none ∧ s' = ⟨hp, g, d, tk, os⟩ ∧ ∃ i, (∀ i', i' < i → e i' = true) ∧ rest = (items.toList.zip items2.toList).drop i ∧
      R (.ok (.ret (.bool (lexAt e r (decide (items.size < items2.size)) i (min items.size items2.size - i))))) ⟨hp, g, d, tk, os⟩) _
    case turn =>
      rintro ⟨y, x⟩ rest b s' ⟨hb', rfl, i, hi, hz, hR⟩
      have hlt : i < (items.toList.zip items2.toList).length := by
        rcases Nat.lt_or_ge i (items.toList.zip items2.toList).length with h' | h'
        · exact h'
        · rw [List.drop_of_length_le h'] at hz; cases hz
      have hm : i < min items.size items2.size := hZ ▸ hlt
      have h1 : i < items.size := Nat.lt_of_lt_of_le hm (Nat.min_le_left _ _)
      have h2 : i < items2.size := Nat.lt_of_lt_of_le hm (Nat.min_le_right _ _)
      rw [List.drop_eq_getElem_cons hlt] at hz
      injection hz with hyx hrest
      have hy : y = items[i] := by have := congrArg Prod.fst hyx; simpa using this
      have hx : x = items2[i] := by have := congrArg Prod.snd hyx; simpa using this
      subst hy hx
      rw [show min items.size items2.size - i = (min items.size items2.size - (i + 1)) + 1 by omega, lexAt_succ] at hR
      refine wpAny_bind (he i h1 h2 prog w _ _ ?_)
      cases hei : e i with
      | true =>
        rw [hei, if_pos rfl] at hR
        wp_walk
        exact ⟨rfl, rfl, i + 1, fun i' h' => (by rcases Nat.lt_or_eq_of_le (Nat.le_of_lt_succ h') with z | z; exact hi i' z; rw [z]; exact hei), hrest, hR⟩
      | false =>
        rw [hei, if_neg Bool.false_ne_true] at hR
        have hri := hr i h1 h2 hi hei prog w
        wp_walk using hri
        exact ⟨_, rfl, by simpa using hR⟩
    case fin =>
      rintro ⟨b1, b2⟩ s' ⟨hb', rfl, i, hi, hz, hR⟩
      simp only at hb'
      subst hb'
      have hge : min items.size items2.size ≤ i := by
        rcases Nat.lt_or_ge i (items.toList.zip items2.toList).length with h' | h'
        · rw [List.drop_eq_getElem_cons h'] at hz; cases hz
        · exact hZ ▸ h'
      rw [Nat.sub_eq_zero_of_le hge, lexAt_zero] at hR
      wp_walk
      exact ⟨_, rfl, by simpa [Builtin.Tuple.tupleCompareSizes] using hR⟩
    case h =>
      exact ⟨rfl, rfl, 0, fun i' h' => absurd h' (Nat.not_lt_zero _), rfl, by simpa using h⟩
theorem tups_ltF {A : Around} {s : Shared} {l b : Addr} {items items2 : Array Value} {e r : Nat → Bool} (hl : s.heap.IsTuple l items) (hb : s.heap.IsTuple b items2) (hu : A.units < cLine)
    (he : ∀ j (h1 : j < items.size) (h2 : j < items2.size), EqAt A.in1 s items[j] items2[j] (e j))
    (hr : ∀ j (h1 : j < items.size) (h2 : j < items2.size), (∀ i, i < j → e i = true) → e j = false → RcOp .Lt A.in1 s items[j] items2[j] (r j)) :
    RcOp .Lt A s (.ref l) (.ref b) (lexAt e r (decide (items.size < items2.size)) 0 (min items.size items2.size)) := fun prog w E Q h => by
  obtain ⟨⟨cls, dd, data, sl⟩, ho, hc, n, hd⟩ := id hl
  obtain ⟨⟨cls2, dd2, data2, sl2⟩, ho2, hc2, n2, hd2⟩ := id hb
  simp only at hc hd hc2 hd2
  subst hc hd hc2 hd2
  exact richCompare_meets_room (op := .Lt) ⟨_, ho, rfl⟩ ⟨_, ho2, rfl⟩ F.slot_tuple_lt F.entry_tuple_lt (F.args_tuple_lt_2 _ _) (tup_ltF l b items items2 n n2 dd dd2 sl sl2 e r)
    ⟨ho, ho2, he, hr, ⟨(fun x => nomatch x), h⟩⟩ hu
/-- the lists' order by places -/
def eAt (xs ys : List NestedKey) (j : Nat) : Bool := NestedKey.beq (xs.getD j .none) (ys.getD j .none)
def rAt (xs ys : List NestedKey) (j : Nat) : Bool := (ltNK (xs.getD j .none) (ys.getD j .none)).getD false
theorem lexAt_shift {e r e' r' : Nat → Bool} {z : Bool} (h1 : ∀ j, e' j = e (j + 1)) (h2 : ∀ j, r' j = r (j + 1)) : ∀ (n i : Nat), lexAt e r z (i + 1) n = lexAt e' r' z i n
  | 0, _ => rfl
  | n + 1, i => by rw [lexAt_succ, lexAt_succ, h1, h2, lexAt_shift h1 h2 n (i + 1)]
theorem ltNKs_at : ∀ {xs ys : List NestedKey} {b : Bool}, ltNKs xs ys = some b →
    lexAt (eAt xs ys) (rAt xs ys) (decide (xs.length < ys.length)) 0 (min xs.length ys.length) = b ∧
    ∀ j, j < xs.length → j < ys.length → (∀ i, i < j → eAt xs ys i = true) → eAt xs ys j = false → ltNK (xs.getD j .none) (ys.getD j .none) = some (rAt xs ys j)
  | [], [], b, h => by rw [ltNKs] at h; cases h; exact ⟨rfl, fun j h => absurd h (Nat.not_lt_zero _)⟩
  | [], _ :: _, b, h => by rw [ltNKs] at h; cases h; exact ⟨by simp [lexAt_zero], fun j h => absurd h (Nat.not_lt_zero _)⟩
  | _ :: _, [], b, h => by rw [ltNKs] at h; cases h; exact ⟨by simp [lexAt_zero], fun j _ h => absurd h (Nat.not_lt_zero _)⟩
  | x :: xs, y :: ys, b, h => by
    rw [ltNKs] at h
    have e0 : eAt (x :: xs) (y :: ys) 0 = NestedKey.beq x y := rfl
    have hm : min (x :: xs).length (y :: ys).length = min xs.length ys.length + 1 := by simp only [List.length_cons]; omega
    rw [hm, lexAt_succ, e0]
    by_cases q : NestedKey.beq x y = true
    · rw [if_pos q] at h
      obtain ⟨h1, h2⟩ := ltNKs_at h
      rw [if_pos q]
      refine ⟨?_, fun j hx hy ha he => ?_⟩
      · rw [lexAt_shift (e' := eAt xs ys) (r' := rAt xs ys) (fun j => rfl) (fun j => rfl), ← h1]
        congr 1
        simp
      · cases j with
        | zero => rw [e0, q] at he; cases he
        | succ j => exact h2 j (by simpa using hx) (by simpa using hy) (fun i hi => ha (i + 1) (by omega)) he
    · rw [if_neg q] at h
      rw [if_neg q]
      have r0 : rAt (x :: xs) (y :: ys) 0 = b := by show (ltNK x y).getD false = b; rw [h]; rfl
      refine ⟨r0, fun j hx hy ha he => ?_⟩
      cases j with
      | zero => rw [r0]; exact h
      | succ j => exact absurd (ha 0 (Nat.succ_pos _)) (by rw [e0]; exact q)
theorem nested_at {h : Heap} : ∀ {ks : List NestedKey} {vs : List Value}, NkAll h ks vs → ∀ j (hj : j < vs.length), NkIs h (ks.getD j .none) vs[j]
  | _, _, .nil, j, hj => absurd hj (Nat.not_lt_zero _)
  | _, _, .cons h1 h2, 0, _ => h1
  | _, _, .cons h1 h2, j + 1, hj => nested_at h2 j (by simpa using hj)
theorem depth_at : ∀ (ks : List NestedKey) (j : Nat), NestedKey.depth (ks.getD j .none) ≤ NestedKey.depthAll ks
  | [], j => by simp [NestedKey.depth, NestedKey.depthAll]
  | k :: ks, 0 => by simp only [List.getD_cons_zero, NestedKey.depthAll]; omega
  | k :: ks, j + 1 => by have := depth_at ks j; simp only [List.getD_cons_succ, NestedKey.depthAll]; omega
theorem rc_ltNK : ∀ (n : Nat) (x y : NestedKey) (A : Around) (s : Shared) (a b : Value) (r : Bool), NkIs s.heap x a → NkIs s.heap y b → x.depth ≤ n → y.depth ≤ n → A.units + n < cLine → ltNK x y = some r → RcOp .Lt A s a b r := by
  intro n
  induction n with
  | zero =>
    intro x y A s a b r hx hy dx dy hu h
    cases x with
    | none => cases y <;> simp [ltNK] at h
    | num i =>
      cases y with
      | num j =>
        simp only [ltNK, Option.some.injEq] at h
        subst h
        cases hx; cases hy
        exact RcOp.lt_int _ _ _ _
      | _ => simp [ltNK] at h
    | text i =>
      cases y with
      | text j =>
        simp only [ltNK, Option.some.injEq] at h
        subst h
        cases hx; cases hy
        exact fun prog w E Q q => DT.rcLt_str A s _ _ _ _ prog w E Q q
      | _ => simp [ltNK] at h
    | tup ks => simp [NestedKey.depth] at dx
  | succ n ih =>
    intro x y A s a b r hx hy dx dy hu h
    cases x with
    | tup ks =>
      cases y with
      | tup ls =>
        rw [ltNK] at h
        obtain ⟨h1, h2⟩ := ltNKs_at h
        cases hx with
        | @tup a o vs n1 _ g1 c1 d1 k1 =>
          cases hy with
          | @tup b o2 ws n2 _ g2 c2 d2 k2 =>
            have l1 := NkAll.length k1
            have l2 := NkAll.length k2
            simp only [NestedKey.depth] at dx dy
            have hu1 : ∀ B : Around, B.units = A.in1.units → B.units + n < cLine := fun B e => by rw [e, Around.in1_units]; omega
            have R := tups_ltF (A := A) (s := s) (e := eAt ks ls) (r := rAt ks ls) (l := a) (b := b) (items := vs) (items2 := ws) ⟨o, g1, c1, n1, d1⟩ ⟨o2, g2, c2, n2, d2⟩ (by omega)
              (fun j j1 j2 => by
                have q1 := nested_at k1 j (by simpa using j1)
                have q2 := nested_at k2 j (by simpa using j2)
                have z1 := depth_at ks j
                have z2 := depth_at ls j
                exact eqAt_key _ _ A.in1 s _ _ q1.nest q2.nest (by rw [Around.in1_units]; omega))
              (fun j j1 j2 ha he => by
                have q1 := nested_at k1 j (by simpa using j1)
                have q2 := nested_at k2 j (by simpa using j2)
                have z1 := depth_at ks j
                have z2 := depth_at ls j
                exact ih _ _ A.in1 s _ _ _ q1 q2 (by omega) (by omega) (hu1 _ rfl) (h2 j (by rw [← l1]; simpa using j1) (by rw [← l2]; simpa using j2) ha he))
            have e1 : vs.size = ks.length := by rw [← l1]; simp
            have e2 : ws.size = ls.length := by rw [← l2]; simp
            rw [e1, e2, h1] at R
            exact R
      | _ => simp [ltNK] at h
    | none => cases y <;> simp [ltNK] at h
    | num i =>
      cases y with
      | num j => exact ih _ _ A s a b r hx hy (by simp [NestedKey.depth]) (by simp [NestedKey.depth]) (by omega) h
      | _ => simp [ltNK] at h
    | text i =>
      cases y with
      | text j => exact ih _ _ A s a b r hx hy (by simp [NestedKey.depth]) (by simp [NestedKey.depth]) (by omega) h
      | _ => simp [ltNK] at h
section
variable {K : PySem.W.Frag}
def rLtN (K : PySem.W.Frag) : R2 := fun x y H Q => ∃ px py k l b, Rep K H x px ∧ Rep K H y py ∧ toNK px = some k ∧ toNK py = some l ∧ k.depth ≤ 8 ∧ l.depth ≤ 8 ∧ ltNK k l = some b ∧ Q (.bl b) H
theorem o_ltN {X : Cx} {k : Nat} (hr : Room k X.A) : OpR X (compareOp .Lt) (rLtN X.K) := by
  intro pins s σ H x y v u Q I rx ry h
  obtain ⟨px, py, k, l, b, hx, hy, ex, ey, dx, dy, hb, q⟩ := h
  have n1 := nest_of I hx ex rx
  have n2 := nest_of I hy ey ry
  have R := rc_ltNK 8 k l X.A s v u b n1 n2 dx dy (by have := hr.un; omega) hb
  exact R X.prog X.w X.xe (EP X pins σ Q) ⟨.bl b, H, I, rfl, q⟩
def dLtN : D2 := fun x y S Q => optD (toNK x) fun k => optD (toNK y) fun l => k.depth ≤ 8 ∧ l.depth ≤ 8 ∧ optD (ltNK k l) fun b => Q (.bl b) S
instance : SimR K (rLtN K) dLtN where
  sim {v u x y H S Q Q'} r1 r2 m h k := by
    obtain ⟨a, e1, h⟩ := opt_elim h
    obtain ⟨b, e2, d1, d2, h⟩ := opt_elim h
    obtain ⟨c, e3, q⟩ := opt_elim h
    exact ⟨x, y, a, b, c, r1, r2, e1, e2, d1, d2, e3, k _ _ H S Fr.refl m (.bl _) q⟩
end
end DL

/-! A total order of nested keys; sorting by it. -/
namespace DL
open PySem PySem.Spec PyProof.Rows L2
/-! ### a total order -/
def rankN : NestedKey → Nat
  | .none => 0 | .num _ => 1 | .text _ => 2 | .tup _ => 3
mutual
def ltT : NestedKey → NestedKey → Bool
  | .num i, .num j => decide (i < j)
  | .text x, .text y => decide (x.cps.toList < y.cps.toList)
  | .tup xs, .tup ys => ltTs xs ys
  | x, y => decide (rankN x < rankN y)
def ltTs : List NestedKey → List NestedKey → Bool
  | [], [] => false
  | [], _ :: _ => true
  | _ :: _, [] => false
  | x :: xs, y :: ys => ltT x y || (NestedKey.beq x y && ltTs xs ys)
end
theorem beq_iff' {a b : NestedKey} : NestedKey.beq a b = true ↔ a = b := ⟨NestedKey.eq_of_beq a b, fun e => e ▸ NestedKey.beq_self a⟩
theorem beqAll_iff' {a b : List NestedKey} : NestedKey.beqAll a b = true ↔ a = b := ⟨NestedKey.eq_of_beqAll a b, fun e => e ▸ NestedKey.beqAll_self a⟩
theorem lstr_irr (l : List Nat) : ¬ l < l := List.lt_irrefl l
mutual
theorem ltT_irr : ∀ x : NestedKey, ltT x x = false
  | .none => by simp [ltT]
  | .num i => by simp [ltT]
  | .text i => by simp only [ltT, decide_eq_false_iff_not]; exact lstr_irr _
  | .tup xs => by rw [ltT]; exact ltTs_irr xs
theorem ltTs_irr : ∀ x : List NestedKey, ltTs x x = false
  | [] => by simp [ltTs]
  | x :: xs => by rw [ltTs, ltT_irr x, ltTs_irr xs]; simp
end
mutual
theorem ltT_tri : ∀ x y : NestedKey, ltT x y = false → ltT y x = false → x = y
  | .none, y, h1, h2 => by cases y <;> simp [ltT, rankN] at h1 h2 ⊢
  | .num i, y, h1, h2 => by
    cases y <;> simp [ltT, rankN] at h1 h2 ⊢
    omega
  | .text x, y, h1, h2 => by
    cases y with
    | text z =>
      simp only [ltT, decide_eq_false_iff_not] at h1 h2
      have e : x.cps.toList = z.cps.toList := List.le_antisymm (List.not_lt.mp h2) (List.not_lt.mp h1)
      obtain ⟨c⟩ := x
      obtain ⟨d⟩ := z
      simp only [NestedKey.text.injEq, Str.mk.injEq]
      exact Array.toList_inj.mp e
    | _ => simp [ltT, rankN] at h1 h2
  | .tup xs, y, h1, h2 => by
    cases y with
    | tup ys =>
      rw [ltT] at h1 h2
      rw [ltTs_tri xs ys h1 h2]
    | _ => simp [ltT, rankN] at h1 h2
theorem ltTs_tri : ∀ x y : List NestedKey, ltTs x y = false → ltTs y x = false → x = y
  | [], [], _, _ => rfl
  | [], _ :: _, h, _ => by simp [ltTs] at h
  | _ :: _, [], _, h => by simp [ltTs] at h
  | x :: xs, y :: ys, h1, h2 => by
    rw [ltTs, Bool.or_eq_false_iff] at h1 h2
    have e := ltT_tri x y h1.1 h2.1
    subst e
    rw [NestedKey.beq_self, Bool.true_and] at h1 h2
    rw [ltTs_tri xs ys h1.2 h2.2]
end
mutual
theorem ltT_trans : ∀ x y z : NestedKey, ltT x y = true → ltT y z = true → ltT x z = true
  | .none, y, z, h1, h2 => by cases y <;> cases z <;> simp [ltT, rankN] at h1 h2 ⊢
  | .num i, y, z, h1, h2 => by
    cases y <;> cases z <;> simp [ltT, rankN] at h1 h2 ⊢
    omega
  | .text x, y, z, h1, h2 => by
    cases y <;> cases z <;> simp [ltT, rankN] at h1 h2 ⊢
    exact List.lt_trans h1 h2
  | .tup xs, y, z, h1, h2 => by
    cases y with
    | tup ys =>
      cases z with
      | tup zs =>
        rw [ltT] at h1 h2 ⊢
        exact ltTs_trans xs ys zs h1 h2
      | _ => simp [ltT, rankN] at h2
    | _ => simp [ltT, rankN] at h1
theorem ltTs_trans : ∀ x y z : List NestedKey, ltTs x y = true → ltTs y z = true → ltTs x z = true
  | [], [], _, h, _ => by simp [ltTs] at h
  | [], _ :: _, [], _, h => by simp [ltTs] at h
  | [], _ :: _, _ :: _, _, _ => by simp [ltTs]
  | _ :: _, [], _, h, _ => by simp [ltTs] at h
  | _ :: _, _ :: _, [], _, h => by simp [ltTs] at h
  | x :: xs, y :: ys, z :: zs, h1, h2 => by
    rw [ltTs, Bool.or_eq_true, Bool.and_eq_true] at h1 h2 ⊢
    rcases h1 with h1 | ⟨e1, h1⟩
    · rcases h2 with h2 | ⟨e2, h2⟩
      · exact .inl (ltT_trans x y z h1 h2)
      · rw [beq_iff'] at e2; subst e2; exact .inl h1
    · rw [beq_iff'] at e1
      subst e1
      rcases h2 with h2 | ⟨e2, h2⟩
      · exact .inl h2
      · exact .inr ⟨e2, ltTs_trans xs ys zs h1 h2⟩
end
theorem ltT_asym {x y : NestedKey} (h : ltT x y = true) : ltT y x = false := by
  cases q : ltT y x with
  | false => rfl
  | true =>
    have := ltT_trans x y x h q
    rw [ltT_irr] at this
    cases this
theorem swoN (k : Value → NestedKey) : SrtO.Swo fun v u => ltT (k v) (k u) where
  asym _ _ h := ltT_asym h
  tr x y z h1 h2 := by
    cases q : ltT (k z) (k x) with
    | false => rfl
    | true =>
      cases p : ltT (k x) (k y) with
      | true => have := ltT_trans _ _ _ q p; rw [h2] at this; cases this
      | false =>
        have e := ltT_tri _ _ p h1
        rw [← e] at h2
        rw [h2] at q
        cases q
mutual
theorem ltNK_T : ∀ {x y : NestedKey} {b : Bool}, ltNK x y = some b → ltT x y = b
  | .num i, .num j, b, h => by simp only [ltNK, Option.some.injEq] at h; rw [ltT, h]
  | .text i, .text j, b, h => by simp only [ltNK, Option.some.injEq] at h; rw [ltT, h]
  | .tup xs, .tup ys, b, h => by rw [ltNK] at h; rw [ltT]; exact ltNKs_T h
  | .none, y, b, h => by cases y <;> simp [ltNK] at h
  | .num _, .none, b, h => by simp [ltNK] at h
  | .num _, .text _, b, h => by simp [ltNK] at h
  | .num _, .tup _, b, h => by simp [ltNK] at h
  | .text _, .none, b, h => by simp [ltNK] at h
  | .text _, .num _, b, h => by simp [ltNK] at h
  | .text _, .tup _, b, h => by simp [ltNK] at h
  | .tup _, .none, b, h => by simp [ltNK] at h
  | .tup _, .num _, b, h => by simp [ltNK] at h
  | .tup _, .text _, b, h => by simp [ltNK] at h
theorem ltNKs_T : ∀ {x y : List NestedKey} {b : Bool}, ltNKs x y = some b → ltTs x y = b
  | [], [], b, h => by simp only [ltNKs, Option.some.injEq] at h; rw [ltTs, h]
  | [], _ :: _, b, h => by simp only [ltNKs, Option.some.injEq] at h; rw [ltTs, h]
  | _ :: _, [], b, h => by simp only [ltNKs, Option.some.injEq] at h; rw [ltTs, h]
  | x :: xs, y :: ys, b, h => by
    rw [ltNKs] at h
    rw [ltTs]
    by_cases q : NestedKey.beq x y = true
    · rw [if_pos q] at h
      rw [q, ltNKs_T h]
      rw [beq_iff'] at q
      subst q
      rw [ltT_irr]
      simp
    · rw [if_neg q] at h
      rw [ltNK_T h, Bool.eq_false_iff.mpr q]
      simp
end
/-! ### sorting tuples that begin with an int -/
section
variable {prog : Program} {w : World}
open PySem.W in
theorem kat_nks {A : Around} {s : Shared} {fin r : Bool} {Q : Bool → Shared → Prop} : ∀ (ks ls : List NestedKey) (vs ws : List Value) (i : Nat), NkAll s.heap ks vs → NkAll s.heap ls ws → ltNKs ks ls = some r → fin = decide (vs.length < ws.length) → 1 ≤ i →
    NestedKey.depthAll ks ≤ 8 → NestedKey.depthAll ls ≤ 8 → A.units + 8 < cLine → Q r s → KatLex prog w A true fin Q (vs.zip ws) i s
  | [], [], _, _, i, .nil, .nil, h, hf, _, _, _, _, q => by
    rw [ltNKs] at h; cases h
    subst hf
    exact kat_nil q
  | [], _ :: _, _, _, i, .nil, .cons _ _, h, hf, _, _, _, _, q => by
    rw [ltNKs] at h; cases h
    subst hf
    exact kat_nil (by simpa using q)
  | _ :: _, [], _, _, i, .cons _ _, .nil, h, hf, _, _, _, _, q => by
    rw [ltNKs] at h; cases h
    subst hf
    exact kat_nil (by simpa using q)
  | x :: xs, y :: ys, _, _, i, .cons (vs := vs) h1 r1, .cons (vs := ws) h2 r2, h, hf, hi, d1, d2, hu, q => by
    rw [ltNKs] at h
    simp only [NestedKey.depthAll] at d1 d2
    refine kat_cons (eqAt_key x y A s _ _ h1.nest h2.nest (by omega) prog w _ _ ?_)
    refine kat_go (fun e => ?_) fun e => ?_
    · rw [if_pos e] at h
      exact kat_yes (kat_nks xs ys vs ws (i + 1) r1 r2 h (by rw [hf]; simp) (by omega) (by omega) (by omega) hu q)
    · rw [if_neg (by rw [e]; simp)] at h
      refine kat_no ?_
      have e0 : (true && i == 0) = false := by
        have : i ≠ 0 := by omega
        simp [this]
      rw [e0]
      exact kat_one _ _ (rc_ltNK 8 x y A s _ _ r h1 h2 (by omega) (by omega) hu h prog w _ _ q)
/-- a tuple that begins with an int -/
def Led (k : NestedKey) : Prop := (∃ i r, k = .tup (.num i :: r)) ∧ k.depth ≤ 8
theorem nk_cmp {A : Around} {s : Shared} {vs : List Value} {k : Value → NestedKey} (hu : A.units + 8 < cLine) (hp : ∀ v ∈ vs, NkIs s.heap (k v) v ∧ Led (k v)) (hc : ∀ v ∈ vs, ∀ u ∈ vs, (ltNK (k v) (k u)).isSome = true) :
    SrtO.Cmp prog w A s (tuples' true) (fun p => p.1 ∈ vs) (SrtO.lt2 fun v u => ltT (k v) (k u)) := by
  intro p q hm hm'
  obtain ⟨h1, ⟨i, r, e1⟩, d1⟩ := hp _ hm
  obtain ⟨h2, ⟨j, t, e2⟩, d2⟩ := hp _ hm'
  obtain ⟨b, hb⟩ := Option.isSome_iff_exists.mp (hc _ hm _ hm')
  have hT := ltNK_T hb
  show wpAny (model prog w) A (keyLt' (tuples' true) p.1 q.1) (fun x s' => s' = s ∧ x = ltT (k p.1) (k q.1)) (fun _ _ => False) s
  rw [hT]
  rw [e1] at h1 hb d1
  rw [e2] at h2 hb d2
  generalize p.1 = v1 at h1
  generalize q.1 = v2 at h2
  cases h1 with
  | tup g1 c1 dd1 k1 =>
    cases h2 with
    | tup g2 c2 dd2 k2 =>
      refine PySem.W.kat_lt g1 dd1 g2 dd2 ?_
      rename_i a1 o1 vs1 n1 a2 o2 vs2 n2
      obtain ⟨l1⟩ := vs1
      obtain ⟨l2⟩ := vs2
      simp only at k1 k2
      cases k1 with
      | cons x1 r1 =>
        cases k2 with
        | cons x2 r2 =>
          rw [ltNK, ltNKs] at hb
          simp only [NestedKey.depth, NestedKey.depthAll] at d1 d2
          refine PySem.W.kat_cons (eqAt_key _ _ A s _ _ x1.nest x2.nest (by simp only [NestedKey.depth]; omega) prog w _ _ ?_)
          refine PySem.W.kat_go (fun e => ?_) fun e => ?_
          · rw [if_pos e] at hb
            exact PySem.W.kat_yes (kat_nks r t _ _ 1 r1 r2 hb (by simp) (Nat.le_refl _) (by omega) (by omega) hu ⟨rfl, rfl⟩)
          · rw [if_neg (by rw [e]; simp)] at hb
            refine PySem.W.kat_no ?_
            cases x1; cases x2
            simp only [ltNK, Option.some.injEq] at hb
            exact oneLt_int ⟨rfl, hb⟩
theorem kat_tups {h : Heap} : ∀ {vs : List Value} {k : Value → NestedKey}, (∀ v ∈ vs, NkIs h (k v) v ∧ Led (k v)) → ∃ fs, PySem.W.KatTups h vs fs ∧ fs.length = vs.length ∧ ∀ f ∈ fs, ∃ (i : Int) (t : Tok), f = Value.int i t
  | [], _, _ => ⟨[], .nil, rfl, fun f hf => by cases hf⟩
  | v :: vs, k, hp => by
    obtain ⟨fs, h1, h2, h3⟩ := kat_tups fun v hv => hp v (List.mem_cons_of_mem _ hv)
    obtain ⟨g, ⟨i, r, e⟩, _⟩ := hp v List.mem_cons_self
    rw [e] at g
    cases g with
    | @tup a o vs0 n _ g1 c1 d1 k1 =>
      obtain ⟨l⟩ := vs0
      simp only at k1
      cases k1 with
      | cons x1 r1 =>
        cases x1 with
        | int _ t =>
          refine ⟨.int i t :: fs, .cons g1 c1 d1 (by simp) h1, by simp [h2], fun f hf => ?_⟩
          rcases List.mem_cons.mp hf with z | z
          · exact ⟨i, t, z⟩
          · exact h3 f z
theorem nk_sortable {A : Around} {s : Shared} {a : Addr} {vs : List Value} {k : Value → NestedKey} (hu : A.units + 8 < cLine) (h0 : 0 < vs.length) (hp : ∀ v ∈ vs, NkIs s.heap (k v) v ∧ Led (k v)) (hc : ∀ v ∈ vs, ∀ u ∈ vs, (ltNK (k v) (k u)).isSome = true)
    (ha : ∀ o, s.heap.get? a = some o → o.cls ≠ .type "tuple") : SrtO.SortableO prog w A s a vs fun v u => ltT (k v) (k u) := by
  intro h' keep
  have hp' : ∀ v ∈ vs, NkIs h' (k v) v ∧ Led (k v) := fun v hm => ⟨(hp v hm).1.at fun b o vs n e c _ => keep b o (fun z => by subst z; exact ha o e c) e, (hp v hm).2⟩
  obtain ⟨fs, h1, h2, h3⟩ := kat_tups hp'
  refine ⟨tuples' true, fun Q E hq => ?_, nk_cmp hu hp' hc⟩
  refine PySem.W.kat_kind (T := .type "int") h1 (by omega) (fun f hm => ?_) (by rfl) ?_
  · obtain ⟨x, t, rfl⟩ := h3 f hm
    exact PySem.W.Looks.now
  · have e : (Value.type "int" != Value.type "tuple") = true := by first | decide +kernel | rfl | decide
    rw [e]
    exact hq
end
end DL

/-! Dicts whose keys are nested tuples and whose values are all True. -/
namespace DL
open PySem PySem.Spec PyProof.Rows L2
def xsN (nks : List NestedKey) (bs : List Addr) : List (NestedKey × Addr × Value) := (nks.zip bs).map fun p => (p.1, p.2, .bool true)
def addK (nks : List NestedKey) (k : NestedKey) : List NestedKey := if k ∈ nks then nks else nks ++ [k]
def addB (nks : List NestedKey) (bs : List Addr) (k : NestedKey) (b : Addr) : List Addr := if k ∈ nks then bs else bs ++ [b]
theorem xsN_keys : ∀ {nks : List NestedKey} {bs : List Addr}, nks.length = bs.length → (xsN nks bs).map (·.1) = nks
  | [], _, _ => by simp [xsN]
  | _ :: _, [], h => by simp at h
  | k :: nks, b :: bs, h => by
    have := xsN_keys (nks := nks) (bs := bs) (by simpa using h)
    simp only [xsN, List.zip_cons_cons, List.map_cons] at this ⊢
    rw [this]
theorem xsN_length {nks : List NestedKey} {bs : List Addr} (h : nks.length = bs.length) : (xsN nks bs).length = bs.length := by simp [xsN, h]
theorem atKey_xsN (k : NestedKey) : ∀ {nks : List NestedKey} {bs : List Addr}, nks.length = bs.length → (atKey (xsN nks bs) k).isSome = decide (k ∈ nks)
  | [], _, _ => by simp [xsN, atKey]
  | _ :: _, [], h => by simp at h
  | q :: nks, b :: bs, h => by
    have ih := atKey_xsN k (nks := nks) (bs := bs) (by simpa using h)
    have e : atKey (xsN (q :: nks) (b :: bs)) k = if q = k then some (b, .bool true) else atKey (xsN nks bs) k := by
      simp only [xsN, List.zip_cons_cons, List.map_cons, atKey, List.find?_cons]
      by_cases z : q = k
      · simp [z]
      · simp [z]
    rw [e]
    by_cases z : q = k
    · rw [if_pos z, z]; simp
    · rw [if_neg z, ih]
      have : ¬ k = q := fun w => z w.symm
      simp [this]
theorem putAt_xsN (k : NestedKey) : ∀ (nks : List NestedKey) (bs : List Addr), (xsN nks bs).map (putAt k (.bool true)) = xsN nks bs
  | [], _ => by simp [xsN]
  | _ :: _, [] => by simp [xsN]
  | q :: nks, b :: bs => by
    have ih := putAt_xsN k nks bs
    simp only [xsN, List.zip_cons_cons, List.map_cons] at ih ⊢
    rw [ih]
    congr 1
    unfold putAt
    split <;> rfl
theorem storedH_xsN {nks : List NestedKey} {bs : List Addr} (h : nks.length = bs.length) (k : NestedKey) (b : Addr) : storedH (xsN nks bs) k b (.bool true) = xsN (addK nks k) (addB nks bs k b) := by
  unfold storedH addK addB
  rw [atKey_xsN k h]
  by_cases z : k ∈ nks
  · simp only [z, decide_true, if_true, putAt_xsN]
  · simp only [z, decide_false, Bool.false_eq_true, if_false, xsN, List.zip_append h, List.map_append]
    rfl
theorem addK_length {nks : List NestedKey} {bs : List Addr} (h : nks.length = bs.length) (k : NestedKey) (b : Addr) : (addK nks k).length = (addB nks bs k b).length := by
  unfold addK addB
  split
  · exact h
  · simp [h]
theorem addB_le {nks : List NestedKey} {bs : List Addr} (k : NestedKey) (b : Addr) : (addB nks bs k b).length ≤ bs.length + 1 := by
  unfold addB
  split <;> simp
theorem addK_mem {nks : List NestedKey} {k q : NestedKey} : q ∈ addK nks k ↔ q ∈ nks ∨ q = k := by
  unfold addK
  split
  · rename_i h
    exact ⟨.inl, fun z => z.elim id fun e => e ▸ h⟩
  · simp
theorem addK_nodup {nks : List NestedKey} {k : NestedKey} (h : nks.Nodup) : (addK nks k).Nodup := by
  unfold addK
  split
  · exact h
  · rename_i z
    rw [List.nodup_append]
    exact ⟨h, by simp, fun a ha b hb => by simp at hb; subst hb; exact fun e => z (e ▸ ha)⟩
/-- at a stands a dict: its keys nks, at bs; its values True -/
def ndP (w : World) (a : Addr) (nks : List NestedKey) (bs : List Addr) (h : Heap) : Prop :=
  bs.length ≤ sizeLine ∧ (a == sysModules) = false ∧ nks.length = bs.length ∧ nks.Nodup ∧ (∀ k ∈ nks, k.depth ≤ 8) ∧
    ∃ (o : Obj) (es : Array DictEntry) (ep : Nat), h.get? a = some o ∧ o.ExactDict ∧ o.data = .dict es ep ∧ es.toList = (xsN nks bs).map fun x => (⟨x.1.hash w, .ref x.2.1, x.2.2⟩ : DictEntry)
theorem nkAll_refs {h : Heap} : ∀ {nks : List NestedKey} {bs : List Addr}, NkAll h nks (bs.map Value.ref) → ∀ x ∈ xsN nks bs, NkIs h x.1 (.ref x.2.1)
  | [], [], _, x, hx => by simp [xsN] at hx
  | [], _ :: _, r, x, hx => by cases r
  | _ :: _, [], r, x, hx => by cases r
  | k :: nks, b :: bs, r, x, hx => by
    rw [List.map_cons] at r
    cases r with
    | cons h1 h2 =>
      simp only [xsN, List.zip_cons_cons, List.map_cons] at hx
      rcases List.mem_cons.mp hx with z | z
      · subst z; exact h1
      · exact nkAll_refs h2 x z
theorem xsN_fst {nks : List NestedKey} {bs : List Addr} {x : NestedKey × Addr × Value} (h : x ∈ xsN nks bs) : x.1 ∈ nks := by
  simp only [xsN, List.mem_map] at h
  obtain ⟨p, hp, rfl⟩ := h
  exact (List.of_mem_zip hp).1
theorem nd_dict {P : Program} {w : World} {h : Heap} {a : Addr} {nks : List NestedKey} {bs : List Addr} (d : ndP w a nks bs h) (r : NkAll h nks (bs.map Value.ref)) : h.DictOfH (nestedKind P w) a (xsN nks bs) := by
  obtain ⟨_, _, hl, hn, hd, o, es, ep, ho, hc, hdat, he⟩ := d
  exact ⟨o, es, ep, ho, hc, hdat, he, fun x hx => ⟨(nkAll_refs r x hx).nest, hd _ (xsN_fst hx)⟩, by rw [xsN_keys hl]; exact hn⟩
theorem nd_of {P : Program} {w : World} {h : Heap} {a : Addr} {nks : List NestedKey} {bs : List Addr} (hz : bs.length ≤ sizeLine) (hs : (a == sysModules) = false) (hl : nks.length = bs.length) (hd : ∀ k ∈ nks, k.depth ≤ 8) (d : h.DictOfH (nestedKind P w) a (xsN nks bs)) : ndP w a nks bs h := by
  obtain ⟨o, es, ep, ho, hc, hdat, he, _, hn⟩ := d
  rw [xsN_keys hl] at hn
  exact ⟨hz, hs, hl, hn, hd, o, es, ep, ho, hc, hdat, he⟩
theorem nd_ok {P : Program} {w : World} {H : Hp} {h : Heap} {a : Addr} {nks : List NestedKey} {bs : List Addr} (d : ndP w a nks bs h) : ObjOk P w H h a (.ext (ndP w a nks bs)) := by
  refine ⟨d, ?_, fun h1 h2 d1 k => ?_⟩
  · obtain ⟨_, _, _, _, _, o, es, ep, ho, _⟩ := d; exact ⟨o, ho⟩
  · obtain ⟨z1, z2, z3, z4, z5, o, es, ep, ho, r⟩ := d1
    exact ⟨z1, z2, z3, z4, z5, o, es, ep, k o ho, r⟩
theorem vals_refs : ∀ (bs : List Addr), Vals (bs.map V.ref) (bs.map Value.ref)
  | [] => .nil
  | b :: bs => .cons rfl (vals_refs bs)
section
variable {X : Cx} {pins : List (Addr × Obj)} {σ : L2.St} {H : Hp} {s : Shared}
/-- the keys of a dict of the view -/
structure NdAt (K : PySem.W.Frag) (w : World) (H : Hp) (a : Addr) (ks : List PV) (nks : List NestedKey) (bs : List Addr) : Prop where
  at_ : H a = some (.ext (ndP w a nks bs))
  rep : Reps K H (bs.map V.ref) ks
  nk : toNKs ks = some nks
theorem NdAt.dict {a : Addr} {ks : List PV} {nks : List NestedKey} {bs : List Addr} (I : Inv X pins σ H s) (d : NdAt X.K X.w H a ks nks bs) : ndP X.w a nks bs s.heap ∧ s.heap.DictOfH (nestedKind X.prog X.w) a (xsN nks bs) ∧ NkAll s.heap nks (bs.map Value.ref) := by
  have x : ObjOk X.prog X.w H s.heap a (.ext (ndP X.w a nks bs)) := I.hok a _ d.at_
  have r := nests_of I d.rep d.nk (vals_refs bs)
  exact ⟨x.1, nd_dict x.1 r, r⟩
def rInN (K : PySem.W.Frag) (w : World) (f : Bool → Bool) : R2 := fun x y H Q => ∃ a b ks nks bs px k, y = .ref a ∧ x = .ref b ∧ NdAt K w H a ks nks bs ∧ Rep K H (.ref b) px ∧ toNK px = some k ∧ k.depth ≤ 8 ∧ Q (.bl (f (decide (k ∈ nks)))) H
theorem o_inN {k : Nat} (hr : Room k X.A) : OpR X (compareOp .In) (rInN X.K X.w id) := by
  intro pins s σ H x y v u Q I rx ry h
  obtain ⟨a, b, ks, nks, bs, px, k, rfl, rfl, d, rp, ek, dk, q⟩ := h
  cases rx; cases ry
  obtain ⟨z, dd, _⟩ := d.dict I
  have n1 := nest_of I rp ek rfl
  refine wpAny_in_heap (knd := nestedKind X.prog X.w) (k := k) (by show X.A.units + 1 + 8 < cLine; have := hr.un; omega) ⟨n1.nest, dk⟩ z.2.1 dd ?_
  rw [atKey_xsN k z.2.2.1]
  exact ⟨.bl _, H, I.tok _, rfl, q⟩
theorem o_notInN {k : Nat} (hr : Room k X.A) : OpR X (compareOp .NotIn) (rInN X.K X.w not) := by
  intro pins s σ H x y v u Q I rx ry h
  obtain ⟨a, b, ks, nks, bs, px, k, rfl, rfl, d, rp, ek, dk, q⟩ := h
  cases rx; cases ry
  obtain ⟨z, dd, _⟩ := d.dict I
  have n1 := nest_of I rp ek rfl
  refine notIn_keyed (knd := nestedKind X.prog X.w) (k := k) (kvs := pairsH (xsN nks bs)) (by show X.A.units + 1 + 8 < cLine; have := hr.un; omega) ⟨n1.nest, dk⟩ z.2.1 ⟨_, dd, rfl⟩ ?_
  rw [valueAt_pairsH, Option.isSome_map, atKey_xsN k z.2.2.1]
  exact ⟨.bl _, H, I.tok _, rfl, q⟩
/-- d[k] = True by a comprehension -/
theorem dn_set {E : Value → Shared → Prop} {D b : Addr} {ks : List PV} {nks : List NestedKey} {bs : List Addr} {px : PV} {k : NestedKey} {Q : Unit → Shared → Prop} (hu : X.A.units + 8 < cLine) (I : Inv X pins σ H s) (d : NdAt X.K X.w H D ks nks bs) (hz : bs.length < sizeLine)
    (rp : Rep X.K H (.ref b) px) (ek : toNK px = some k) (dk : k.depth ≤ 8) (h : ∀ s', Inv X pins σ (upd H D (.ext (ndP X.w D (addK nks k) (addB nks bs k b)))) s' → Q () s') : wpAny (model X.prog X.w) X.A (dictSet D (.ref b) (.bool true)) Q E s := by
  obtain ⟨z, dd, _⟩ := d.dict I
  have n1 := nest_of I rp ek rfl
  refine wpAny_dictSet_heap (knd := nestedKind X.prog X.w) (k := k) (hsz := by rw [xsN_length z.2.2.1]; omega) hu ⟨n1.nest, dk⟩ dd fun h' dd' hs => h _ ?_
  rw [storedH_xsN z.2.2.1] at dd'
  have nd : ndP X.w D (addK nks k) (addB nks bs k b) h' := nd_of (by have := addB_le (nks := nks) (bs := bs) k b; omega) z.2.1 (addK_length z.2.2.1 k b) (fun q hq => by
    rcases addK_mem.mp hq with hq | hq
    · exact z.2.2.2.2.1 q hq
    · rw [hq]; exact dk) dd'
  have he : ∃ q, h'.get? D = some q := let ⟨_, _, _, _, _, q, _, _, hq, _⟩ := nd; ⟨q, hq⟩
  exact d_write I (by rw [d.at_]; exact True.intro) hs he (nd_ok nd)
end
end DL

/-! {key: True for target in row if ..}, the keys nested tuples: the rule and its reading over trees. -/
namespace DL
open PySem PySem.Spec PyProof.Rows L2
def tDcN (K : PySem.W.Frag) (w : World) (wi : TI) (g : TG) (tt : TT) (tk tv : TE) (vs : List Nat) : TE := fun σ H Q => wi σ H fun J H1 => ∀ D, H1 D = none → ∃ W : Nat → Nat → Hp → Prop, (∃ m, W 0 m (upd H1 D (.ext (ndP w D [] [])))) ∧ ∀ i m H, W i m H →
  (J.stop i H ∧ Q (.ref D) H) ∨ (J.go i H ∧ ∃ Nx : Hp → Prop, (∀ H', Nx H' → ∃ m', m' < m ∧ W (i + 1) m' H') ∧ ∀ x H', J.yld i H x H' → g x (wipe σ vs) H' fun σ2 H2 => wipe σ2 vs = wipe σ vs ∧ tt σ2 H2 fun b H3 =>
    if b = true then tk σ2 H3 fun y H4 => tv σ2 H4 fun z H5 => ∃ q ks nks bs px k, y = .ref q ∧ z = .bl true ∧ NdAt K w H5 D ks nks bs ∧ bs.length < sizeLine ∧ Rep K H5 (.ref q) px ∧ toNK px = some k ∧ k.depth ≤ 8 ∧ Nx (upd H5 D (.ext (ndP w D (addK nks k) (addB nks bs k q)))) else Nx H3)
theorem nd_new {P : Program} {w : World} {H : Hp} {h : Heap} (hb : (h.objs.size == sysModules) = false) : ObjOk P w H (h.push { cls := .type "dict", data := .dict #[] }) h.objs.size (.ext (ndP w h.objs.size [] [])) :=
  nd_ok ⟨Nat.zero_le _, hb, rfl, .nil, fun k hk => (by cases hk), _, #[], 0, Heap.get?_push_size _ rfl, ⟨rfl, rfl, rfl⟩, rfl, rfl⟩
section
variable {X : Cx}
theorem dcn_core {pins : List (Addr × Obj)} {s : Shared} {σ : L2.St} {H : Hp} {Q : VK} {kx vx tg iter : Expr} {ifs : List Expr} {scope : Scope} {own : List (Str × Nat)} {pos pos' : Pos} {wi : TI} {g : TG} {tt : TT} {tk tv : TE} {use : Option (Value → Sem Unit)} {Qf : Value → Shared → Prop}
    (hc : X.calm = true) (hu : X.A.units + 8 < cLine) (hN : X.N.Nodup) (I : Inv X pins σ H s) (hi : PI X tg iter wi) (ok : BlkOk X.N X.env.scope scope own)
    (hg : ∀ (s : Shared) (H : Hp) (C : Addr) (cl : List (Str × Addr)) (fp : List Addr), PG (X.blk s H scope (compEnvC scope cl C X.env) fp) tg g) (ht : ∀ (s : Shared) (H : Hp) (C : Addr) (cl : List (Str × Addr)) (fp : List Addr), PTs (X.blk s H scope (compEnvC scope cl C X.env) fp) ifs tt)
    (hk : ∀ (s : Shared) (H : Hp) (C : Addr) (cl : List (Str × Addr)) (fp : List Addr), PE (X.blk s H scope (compEnvC scope cl C X.env) fp) kx tk)
    (he : ∀ (s : Shared) (H : Hp) (C : Addr) (cl : List (Str × Addr)) (fp : List Addr), PE (X.blk s H scope (compEnvC scope cl C X.env) fp) vx tv) (hs : ∀ x, foldedSetIterable iter X.env x = pure x)
    (h : tDcN X.K X.w wi g tt tk tv (own.map (·.2)) σ H Q)
    (hRR : ∀ D C s' m H', Inv X pins σ H' s' → Q (.ref D) H' → s'.heap.Ns C m → FpOk X pins H' C → compPost (model X.prog X.w) X.A X.xe use Qf (.ref D) C (.ok .next) s') :
    wpAny (model X.prog X.w) X.A (comprehension (.DictComp kx vx [⟨tg, iter, ifs, 0⟩] scope pos) scope X.env pos' newDict false (eval iter X.env) use) Qf X.xe s := by
  have free : ∀ y ∈ scope.names, y.2 = .free → ∃ c, X.env.cells.lookup y.1 = some c := fun y hy e => by
    rcases ok.free y hy e with k | k
    · exact I.ok.has _ (.inl k)
    · exact I.ok.has _ (.inr k)
  refine wpAny_comprehension_free (use := use) rfl hs (closure_ok free) ok.kind (fun y hy e => by rw [ok.uniq y hy, e])
    (thn (hi.run pins s σ H _ I h) fun xv s1 hx => thn hx fun itv s2 h2 => ?_)
  obtain ⟨it, fp, tn, J, H2, e, I2, T, st2, f2, q⟩ := h2
  subst e
  refine wpAny_newObj_type (newEnv_comp ?_)
  generalize hD : s2.heap.objs.size = D
  have hDn : H2 D = none := I2.hok.fresh (Nat.le_of_eq hD)
  obtain ⟨W, ⟨m0, w0⟩, turn⟩ := q D hDn
  generalize hs3 : ({ s2 with heap := s2.heap.push { cls := .type "dict", data := .dict #[] } } : Shared) = s3
  have I3 : Inv X pins σ (upd H2 D (.ext (ndP X.w D [] []))) s3 := by
    rw [← hs3]
    refine I2.laid (t' := s2.toks) (fun b o e => Heap.get?_push_of_some _ e) (Nat.le_of_eq hD) ?_
    rw [← hD]
    exact nd_new (beq_eq_false_iff_ne.mpr (Nat.ne_of_gt I2.big))
  have h3 : s3.heap = s2.heap.push { cls := .type "dict", data := .dict #[] } := by rw [← hs3]
  have sz : ∀ b ∈ fp, b < s2.heap.objs.size := fun b hb => by
    obtain ⟨o, e, _⟩ := T.obj _ _ st2 b hb
    exact Heap.lt_size e
  have f3 : ∀ b ∈ fp, FpOk X pins (upd H2 D (.ext (ndP X.w D [] []))) b ∧ b < s3.heap.objs.size := fun b hb => by
    have hlt := sz b hb
    refine ⟨⟨?_, (f2 b hb).2⟩, by rw [h3, Heap.size_push]; exact Nat.lt_succ_of_lt hlt⟩
    rw [upd_ne (by rw [← hD]; exact Nat.ne_of_lt hlt)]
    exact (f2 b hb).1
  have st3 : tn 0 s3.heap := T.keep _ _ _ st2 fun b _ o e => by rw [h3]; exact Heap.get?_push_of_some _ e
  have I4 := block_start I3 ok hN f3
  have pg := hg s3 (upd H2 D (.ext (ndP X.w D [] []))) s3.heap.objs.size (cellsFrom (s3.heap.objs.size + 1) scope.names (cloFrom X.env.cells scope.names [])) fp
  have pt := ht s3 (upd H2 D (.ext (ndP X.w D [] []))) s3.heap.objs.size (cellsFrom (s3.heap.objs.size + 1) scope.names (cloFrom X.env.cells scope.names [])) fp
  have pk := hk s3 (upd H2 D (.ext (ndP X.w D [] []))) s3.heap.objs.size (cellsFrom (s3.heap.objs.size + 1) scope.names (cloFrom X.env.cells scope.names [])) fp
  have pe := he s3 (upd H2 D (.ext (ndP X.w D [] []))) s3.heap.objs.size (cellsFrom (s3.heap.objs.size + 1) scope.names (cloFrom X.env.cells scope.names [])) fp
  show codeAny _ _ (.compStart (.DictComp kx vx [⟨tg, iter, ifs, 0⟩] scope pos) 0 (.ref it) (.ref D) (compEnvC scope (cellsFrom (s3.heap.objs.size + 1) scope.names (cloFrom X.env.cells scope.names [])) s3.heap.objs.size X.env)) (compPost (model X.prog X.w) X.A X.xe use Qf (.ref D) s3.heap.objs.size) { s3 with heap := pushCells (s3.heap.push { cls := .type "dict", data := .dict #[] }) scope.names }
  have nfp : ∀ b ∈ fp, (upd H2 D (.ext (ndP X.w D [] []))) b = none := fun b hb => (f3 b hb).1.1
  generalize hce : compEnvC scope (cellsFrom (s3.heap.objs.size + 1) scope.names (cloFrom X.env.cells scope.names [])) s3.heap.objs.size X.env = ce at I4 pg pt pk pe ⊢
  have cL : ce.locals = s3.heap.objs.size := by subst hce; rfl
  generalize hH3 : upd H2 D (.ext (ndP X.w D [] [])) = H3 at I3 I4 pg pt pk pe w0 nfp f3
  generalize hs4 : ({ s3 with heap := pushCells (s3.heap.push { cls := .type "dict", data := .dict #[] }) scope.names } : Shared) = s4 at I4 ⊢
  have st4 : tn 0 s4.heap := T.keep _ _ _ st3 fun b _ o e => by rw [← hs4]; exact pushCells_keeps _ _ _ _ (Heap.get?_push_of_some _ e)
  have stat : ∀ {σ' : L2.St} {H' : Hp} {s' : Shared}, Inv (X.blk s3 H3 scope ce fp) [] σ' H' s' → (∀ b ∈ fp, H' b = none) → ∀ b ∈ fp, FpOk (X.blk s3 H3 scope ce fp) [] H' b := fun {σ' H' s'} I' hn b hb =>
    ⟨hn b hb, (I'.ok.exf b hb).1, I'.ok.exfs b hb, .inl hb, fun x c e => (I'.ok.exf b hb).2 x c e, fun p hp => absurd (show p ∈ ([] : List (Addr × Obj)) ++ [] from hp) (by simp)⟩
  have loop : codeAny (model X.prog X.w) X.A (.compLoop (.DictComp kx vx [⟨tg, iter, ifs, 0⟩] scope pos) 0 (.ref it) (.ref D) ce) (compPost (model X.prog X.w) X.A X.xe use Qf (.ref D) s3.heap.objs.size) s4 := by
    refine compLoop_anyD (fun n s' => ∃ i H', Inv (X.blk s3 H3 scope ce fp) [] (wipe σ (own.map (·.2))) H' s' ∧ tn i s'.heap ∧ (∀ b ∈ fp, H' b = none) ∧ W i n H') ?_ m0 ⟨0, H3, I4, st4, nfp, w0⟩
    rintro n s5 ⟨i, H5, I5, st5, n5, w5⟩
    rcases turn i n H5 w5 with ⟨stop, qq⟩ | ⟨go, Nx, hNx, step⟩
    · have td := T.done (X.blk s3 H3 scope ce fp) rfl rfl rfl hc i [] s5 _ H5 (fun _ _ => False) I5 (stat I5 n5) st5 stop
      refine thnF td fun r s6 ⟨hr, I6⟩ => ?_
      subst hr
      have I7 : Inv X pins σ H5 s6 := I3.call' (ch := fp) I6.os I6.base I6.hok I6.bare fun b hb => ⟨(f3 b hb).1.2.2.2.1, (f3 b hb).1.2.1, (f3 b hb).1.2.2.2.2.1, (f3 b hb).1.2.2.2.2.2⟩
      have nC : H5 s3.heap.objs.size = none := by
        have z : H5 ce.locals = none := I6.free
        rw [cL] at z
        exact z
      obtain ⟨m, hn, _⟩ := I6.loc
      have hn : s6.heap.Ns ce.locals m := hn
      rw [cL] at hn
      exact hRR D s3.heap.objs.size s6 m H5 I7 qq hn (I3.fpOk (Nat.le_refl _) nC)
    · have ti := T.item (X.blk s3 H3 scope ce fp) rfl rfl rfl hc i [] s5 _ H5 (fun _ _ => False) I5 (stat I5 n5) st5 go
      refine thnF ti fun r s6 ⟨u, hr, h6⟩ => ?_
      subst hr
      refine thnF h6 fun _ s7 ⟨x, H7, I7, r7, y7, st7, n7⟩ => ?_
      have I7' := I7.pinned (stat I7 n7) (T.obj _ _ st7)
      refine thnF (pg.run _ s7 _ H7 x u _ I7' r7 (step x H7 y7)) fun _ s8 ⟨σ8, H8, I8, hw8, q8⟩ => ?_
      refine thnF (pt.run _ s8 σ8 H8 _ I8 q8) fun b s9 ⟨H9, I9, q9⟩ => ?_
      have fin : ∀ {s' : Shared} {H' : Hp}, Inv (X.blk s3 H3 scope ce fp) ([] ++ pinsAt fp s7.heap) σ8 H' s' → Nx H' → ∃ m, m < n ∧ ∃ i H', Inv (X.blk s3 H3 scope ce fp) [] (wipe σ (own.map (·.2))) H' s' ∧ tn i s'.heap ∧ (∀ b ∈ fp, H' b = none) ∧ W i m H' := fun {s' H'} I' nx => by
        obtain ⟨m', hm, w'⟩ := hNx H' nx
        have pin' : ∀ b ∈ fp, ∀ o, s7.heap.get? b = some o → s'.heap.get? b = some o ∧ H' b = none := fun b hb o e =>
          let z := I'.pin (b, o) (List.mem_append_right _ (List.mem_append_right _ (mem_pinsAt hb e)))
          ⟨z.1, z.2.1⟩
        have hl : (wipe σ (own.map (·.2))).length = σ8.length := by rw [← hw8, wipe_length]
        refine ⟨m', hm, i + 1, H', (I'.unpinned (pins := [])).weak hl (fun j v e => ?_), T.keep _ _ _ st7 fun b hb o e => (pin' b hb o e).1, fun b hb => ?_, w'⟩
        · rw [← hw8] at e
          exact (wipe_some e).1
        · obtain ⟨o, e, _⟩ := T.obj _ _ st7 b hb
          exact (pin' b hb o e).2
      cases b with
      | false =>
        simp only [Bool.false_eq_true, if_false] at q9 ⊢
        exact fin I9 q9
      | true =>
        simp only [if_true] at q9 ⊢
        refine thnF (pk.run _ s9 σ8 H9 _ I9 q9) fun z s10 ⟨yk, H10, I10, r10, q10⟩ => ?_
        refine thnF (pe.run _ s10 σ8 H10 _ I10 q10) fun z2 s11 ⟨yv, H11, I11, r11, b, ks, nks, bs, px, k, e1, e2, d11, hz11, rp, ek, dk, nx⟩ => ?_
        subst e1 e2
        obtain rfl : z = Value.ref b := r10
        obtain rfl : z2 = Value.bool true := r11
        exact dn_set (X := X.blk s3 H3 scope ce fp) hu I11 d11 hz11 rp ek dk fun s12 I12 => fin I12 nx
  exact codeAny_compStart_dict loop (T.self X.A 0 _ _ _ st4 loop)
theorem pe_dcN {k : Nat} {kx vx tg iter : Expr} {ifs : List Expr} {scope : Scope} {own : List (Str × Nat)} {pos : Pos} {wi : TI} {g : TG} {tt : TT} {tk tv : TE} (hr : Room k X.A) (hc : X.calm = true) (hN : X.N.Nodup) (hi : PI X tg iter wi) (ok : BlkOk X.N X.env.scope scope own)
    (hg : ∀ (s : Shared) (H : Hp) (C : Addr) (cl : List (Str × Addr)) (fp : List Addr), PG (X.blk s H scope (compEnvC scope cl C X.env) fp) tg g) (ht : ∀ (s : Shared) (H : Hp) (C : Addr) (cl : List (Str × Addr)) (fp : List Addr), PTs (X.blk s H scope (compEnvC scope cl C X.env) fp) ifs tt)
    (hk : ∀ (s : Shared) (H : Hp) (C : Addr) (cl : List (Str × Addr)) (fp : List Addr), PE (X.blk s H scope (compEnvC scope cl C X.env) fp) kx tk)
    (he : ∀ (s : Shared) (H : Hp) (C : Addr) (cl : List (Str × Addr)) (fp : List Addr), PE (X.blk s H scope (compEnvC scope cl C X.env) fp) vx tv) (hs : ∀ x, foldedSetIterable iter X.env x = pure x := by intro _; rfl) :
    PE X (.DictComp kx vx [⟨tg, iter, ifs, 0⟩] scope pos) (tDcN X.K X.w wi g tt tk tv (own.map (·.2))) := by
  refine ⟨fun pins s σ H Q I h => ?_⟩
  rw [arm_eval_DictComp]
  refine dcn_core hc (by have := hr.un; omega) hN I hi ok hg ht hk he hs h fun D C s' m H' I' q hn f => ⟨m, hn, fun h'' sb => ?_⟩
  obtain ⟨f0, f1, f2, f3, f4, f5⟩ := f
  exact ⟨.ref D, H', I'.turned (t' := s'.toks) (fun b o hb e => (sb.2 b hb).trans e) f0 f1 f3 f4 f5, rfl, q⟩
end
section
variable {K : PySem.W.Frag} {w : World}
def isTupP : PV → Bool
  | .tup _ => true
  | .ktup _ => true
  | _ => false
theorem tup_ref {H : Hp} {v : V} {x : PV} (r : Rep K H v x) (h : isTupP x = true) : ∃ a, v = .ref a := by
  cases r <;> first | exact ⟨_, rfl⟩ | cases h
def addP (nks : List NestedKey) (ks : List PV) (k : NestedKey) (y : PV) : List PV := if k ∈ nks then ks else ks ++ [y]
theorem toNKs_snoc : ∀ {ks : List PV} {nks : List NestedKey} {y : PV} {k : NestedKey}, toNKs ks = some nks → toNK y = some k → toNKs (ks ++ [y]) = some (nks ++ [k])
  | [], nks, y, k, h, e => by rw [toNKs] at h; cases h; simp [toNKs, e]
  | x :: ks, nks, y, k, h, e => by
    obtain ⟨d, ds, e1, e2, rfl⟩ := toNKs_cons h
    have := toNKs_snoc e2 e
    rw [List.cons_append, toNKs, e1, this]
    rfl
theorem ndAt_add {H : Hp} {D b : Addr} {ks : List PV} {nks : List NestedKey} {bs : List Addr} {px : PV} {k : NestedKey} (d : NdAt K w H D ks nks bs) (rp : Rep K H (.ref b) px) (ek : toNK px = some k) : Reps K H ((addB nks bs k b).map V.ref) (addP nks ks k px) ∧ toNKs (addP nks ks k px) = some (addK nks k) := by
  unfold addB addP addK
  split
  · exact ⟨d.rep, d.nk⟩
  · rw [List.map_append]
    exact ⟨d.rep.append (.cons rp .nil), toNKs_snoc d.nk ek⟩
/-- the keys of a dict of nested keys -/
def ndM (w : World) (a : Addr) (nks : List NestedKey) (ks : List PV) : MO := .oth (ndP w a nks) ks
def dInN (w : World) (f : Bool → Bool) : D2 := fun x y S Q => match y with
  | .loc a => ∃ nks ks, S a = some (ndM w a nks ks) ∧ toNKs ks = some nks ∧ isTupP x = true ∧ optD (toNK x) fun k => k.depth ≤ 8 ∧ Q (.bl (f (decide (k ∈ nks)))) S
  | _ => False
instance {f : Bool → Bool} : SimR K (rInN K w f) (dInN w f) where
  sim {v u x y H S Q Q'} r1 r2 m h k := by
    obtain ⟨a, rfl, nks, ks, hS, hk, ht, h⟩ := loc_elim h
    obtain ⟨kk, e, d, q⟩ := opt_elim h
    cases rep_loc r2
    obtain ⟨b, rfl⟩ := tup_ref r1 ht
    obtain ⟨bs, hH, rb⟩ := m a _ hS
    exact ⟨a, b, ks, nks, bs, x, kk, rfl, rfl, ⟨hH, rb, hk⟩, r1, e, d, k _ _ H S Fr.refl m (.bl _) q⟩
def dcR (w : World) (g : DG) (tt : DT) (tk tv : DE) (ρw : DSt) (lk : Lk) (Q : DK) : List PV → List PV → List NestedKey → Mp → Prop
  | [], ks, nks, S => ∀ p, S p = none → bkS lk S p = none → Q (.loc p) (mset (bkS lk S) p (some (ndM w p nks ks)))
  | x :: xs, ks, nks, S => g x ρw S fun ρ2 S2 => tt ρ2 S2 fun b S3 => if b = true then tk ρ2 S3 fun y S4 => tv ρ2 S4 fun z S5 => z = .bl true ∧ isTupP y = true ∧ optD (toNK y) fun k => k.depth ≤ 8 ∧ dcR w g tt tk tv ρw lk Q xs (addP nks ks k y) (addK nks k) S5 else dcR w g tt tk tv ρw lk Q xs ks nks S3
def dDcN (w : World) (di : DI) (g : DG) (tt : DT) (tk tv : DE) (vs is : List Nat) : DE := fun ρ S Q => (is.all fun i => vs.contains i) = true ∧ di ρ S fun xs S1 lk => xs.length ≤ sizeLine ∧ dcR w g tt tk tv (wipeD ρ vs) lk Q xs [] [] S1
theorem addB_len {nks : List NestedKey} {bs : List Addr} {i : Nat} (k : NestedKey) (b : Addr) (h : bs.length ≤ i) : (addB nks bs k b).length ≤ i + 1 := by
  have := addB_le (nks := nks) (bs := bs) k b
  omega
instance {wi : TI} {di : DI} {g : TG} {dg : DG} {is : List Nat} {tt : TT} {dt : DT} {tk tv : TE} {dk dv : DE} {vs : List Nat} [hi : SimI K wi di] [hg : SimG K g dg is] [ht : SimT K tt dt] [he : SimE K tk dk] [hv : SimE K tv dv] :
    SimE K (tDcN K w wi g tt tk tv vs) (dDcN w di dg dt dk dv vs is) where
  sim {σ ρ H S Q Q'} e m h k := hi.sim e m h.2 fun J H1 xs S1 lk G f1 m1 wk g1 lo q1 => by
    intro Dl hD
    have hl0 := q1.1
    refine ⟨fun i mm H' => i + mm = xs.length ∧ ∃ ks nks bs S', NdAt K w H' Dl ks nks bs ∧ S' Dl = none ∧ bs.length ≤ i ∧ Mt K H' S' ∧ G S' H' ∧ Fr S1 H1 S' H' ∧ dcR w dg dt dk dv (wipeD ρ vs) lk Q' (xs.drop i) ks nks S',
      ⟨xs.length, by omega, [], [], [], S1, ⟨upd_same, .nil, rfl⟩, m1.freeS hD, by simp, m1.newU hD, wk.keep S1 H1 S1 _ m1 (Fr.newT hD) g1, Fr.newT hD, q1.2⟩, ?_⟩
    rintro i mm H' ⟨hl, ks, nks, bs, S', hDl, nDl, la, m', g', f', q'⟩
    have fS : Fr S H S' H' := f1.trans f'
    have tS : Tx H H' := fS.tx m
    by_cases hi' : i < xs.length
    · refine .inr ⟨wk.goes i S' H' hi' g', fun H2 => ∃ m', m' < mm ∧ (i + 1 + m' = xs.length ∧ ∃ ks nks bs S', NdAt K w H2 Dl ks nks bs ∧ S' Dl = none ∧ bs.length ≤ i + 1 ∧ Mt K H2 S' ∧ G S' H2 ∧ Fr S1 H1 S' H2 ∧ dcR w dg dt dk dv (wipeD ρ vs) lk Q' (xs.drop (i + 1)) ks nks S'), fun _ z => z, ?_⟩
      intro x H2 hy
      obtain ⟨ext, p, hp, rp⟩ := wk.yld i S' H' x H2 hi' g' hy
      rw [drop_at hp] at q'
      have m2 := ext_mt ext m'
      have fr2 : Fr S' H' S' H2 := ext_fr ext
      have g2 := wk.keep S' H' S' H2 m' fr2 g'
      refine hg.sim rp (((e.mono tS).mono (ext_tx ext)).wipe vs) m2 q' fun σ3 ρ3 H3 S3 f3 m3 e3 l3 s3 q3 => ?_
      refine ⟨wipe_back h.1 l3 s3, ?_⟩
      have g3 := wk.keep S' H2 S3 H3 m2 f3 g2
      refine ht.sim e3 m3 q3 fun b H4 S4 f4 m4 q4 => ?_
      have g4 := wk.keep S3 H3 S4 H4 m3 f4 g3
      have f24 : Fr S' H' S4 H4 := (fr2.trans f3).trans f4
      obtain ⟨hD4, nD4⟩ := f24.out hDl.at_ nDl
      have ra4 := hDl.rep.mono (f24.tx m')
      cases b with
      | false => exact ⟨mm - 1, by omega, by omega, ks, nks, bs, S4, ⟨hD4, ra4, hDl.nk⟩, nD4, by omega, m4, g4, f'.trans f24, q4⟩
      | true =>
        refine he.sim (e3.mono (f4.tx m3)) m4 q4 fun v y H5 S5 f5 m5 r5 q5 => hv.sim ((e3.mono (f4.tx m3)).mono (f5.tx m4)) m5 q5 fun v2 y2 H6 S6 f6 m6 r6 q6 => ?_
        have f46 := f5.trans f6
        have g6 := wk.keep S4 H4 S6 H6 m4 f46 g4
        obtain ⟨hD6, nD6⟩ := f46.out hD4 nD4
        have ra6 := ra4.mono (f46.tx m4)
        have f26 := f24.trans f46
        obtain ⟨rfl, hty, q7⟩ := q6
        obtain ⟨kk, ek, dk8, q7⟩ := opt_elim q7
        obtain ⟨qa, rfl⟩ := tup_ref r5 hty
        have nd6 : NdAt K w H6 Dl ks nks bs := ⟨hD6, ra6, hDl.nk⟩
        have ry6 := r5.mono (f6.tx m5)
        obtain ⟨ad1, ad2⟩ := ndAt_add nd6 ry6 ek
        have txu : Tx H6 (upd H6 Dl (.ext (ndP w Dl (addK nks kk) (addB nks bs kk qa)))) := Tx.at hD6 id
        refine ⟨qa, ks, nks, bs, y, kk, rfl, rep_bl r6, nd6, by omega, ry6, ek, dk8, mm - 1, by omega, by omega, addP nks ks kk y, addK nks kk, addB nks bs kk qa, S6, ⟨upd_same, ad1.mono txu, ad2⟩, nD6, addB_len kk qa la, fun a o eo => ?_, ?_, ?_, q7⟩
        · have ne : a ≠ Dl := fun z => by rw [z, nD6] at eo; cases eo
          exact (m6 a o eo).mono txu (upd_ne ne)
        · have fru : Fr S6 H6 S6 H6 := Fr.refl
          exact wk.oth S6 H6 Dl _ hD txu g6
        · intro a o ha na
          obtain ⟨h7, n7⟩ := (f'.trans f26) a o ha na
          rw [upd_ne (ne_of_none ha hD)]
          exact ⟨h7, n7⟩
    · have ei : i = xs.length := by omega
      subst ei
      rw [List.drop_length] at q'
      refine .inl ⟨wk.stops S' H' g', ?_⟩
      have nb : bkS lk S' Dl = none := by
        rcases bkS_at S' Dl lk with ⟨h3, _⟩ | ⟨p, h3, h4, _⟩
        · rw [h3]; exact nDl
        · exact absurd (by rw [← h4]; exact hD) (lo p h3).1
      have mb : Mt K H' (bkS lk S') := lk_mt lo m' g'
      have fb : Fr S H (bkS lk S') H' := lk_fr lo fS
      refine k (.ref Dl) (.loc Dl) H' (mset (bkS lk S') Dl (some (ndM w Dl nks ks))) (fun a o ha na => ?_) (fun a o ea => ?_) (.loc Dl) (q' Dl nDl nb)
      · obtain ⟨h6, n6⟩ := fb a o ha na
        refine ⟨h6, ?_⟩
        have ne : a ≠ Dl := fun z => by
          rw [z] at ha na
          obtain ⟨h7, _⟩ := f1 Dl o ha na
          rw [hD] at h7
          cases h7
        rw [mset_ne ne]
        exact n6
      · by_cases hz : a = Dl
        · subst hz
          rw [mset_same] at ea
          cases ea
          exact ⟨bs, hDl.at_, hDl.rep⟩
        · rw [mset_ne hz] at ea
          exact mb a o ea
end
end DL

/-! sorted(dict(row of pairs (key, True))), the keys nested tuples that begin with an int. -/
namespace DL
open PySem PySem.Spec PyProof.Rows L2
def addAllK (nks : List NestedKey) : List (NestedKey × Addr) → List NestedKey
  | [] => nks
  | q :: r => addAllK (addK nks q.1) r
def addAllB (nks : List NestedKey) (bs : List Addr) : List (NestedKey × Addr) → List Addr
  | [] => bs
  | q :: r => addAllB (addK nks q.1) (addB nks bs q.1 q.2) r
section
variable {prog : Program} {w : World} {A : Around} {E : Value → Shared → Prop}
theorem ndP_ext {a : Addr} {nks : List NestedKey} {bs : List Addr} {h h' : Heap} (d : ndP w a nks bs h) (e : ∀ o, h.get? a = some o → h'.get? a = some o) : ndP w a nks bs h' := by
  obtain ⟨z1, z2, z3, z4, z5, o, es, ep, ho, r⟩ := d
  exact ⟨z1, z2, z3, z4, z5, o, es, ep, e o ho, r⟩
theorem upd_loopN {R : Result → Shared → Prop} {S I l : Addr} {items : Array Value} {res : Value} (hh : A.handled = none) (hu : A.units + 9 < cLine) (hlI : l ≠ I) (hSI : S ≠ I) (hSl : S ≠ l) :
    ∀ (rest : List (NestedKey × Addr)) (i : Nat) (nks : List NestedKey) (bs : List Addr) (ix : Int) (t : Tok) (s : Shared), items.size = i + rest.length → bs.length + rest.length ≤ sizeLine →
      (∀ (j : Nat) (q : NestedKey × Addr), rest[j]? = some q → ∃ (b : Addr), items[i + j]? = some (.ref b) ∧ b ≠ S ∧ b ≠ I ∧ IsTup s.heap b #[.ref q.2, .bool true] ∧ NkIs s.heap q.1 (.ref q.2) ∧ q.1.depth ≤ 8) →
      s.heap.IsListIter I l i → s.heap.IsList l items → ndP w S nks bs s.heap → NkAll s.heap nks (bs.map Value.ref) →
      (∀ h' tk, ndP w S (addAllK nks rest) (addAllB nks bs rest) h' → (∀ b o, b ≠ S → b ≠ I → s.heap.get? b = some o → h'.get? b = some o) → R (.ok (.ret res)) { s with heap := h', toks := tk }) →
      codeAny (model prog w) A (.builtin "dict.update.loop" ⟨[.ref S, .ref I, .int ix t, res], []⟩) R s
  | [], i, nks, bs, ix, t, s, hsz, hln, ht, hit, hl, hm, hn, hR => by
    refine codeAny_builtin ud_entry ?_
    rw [Around.under_plainId ud_plain _]
    show wpAny _ A.in1 (pyNext (.ref I) >>= _) _ _ s
    refine wpAny_bind (wpAny_pyNext_list_end (A := A.in1) hh hit hl (by first | exact Array.getElem?_eq_none (Nat.le_of_eq hsz) | (simp at hsz; simp; omega)) fun h' he => ?_)
    show wpAny _ A.in1 (Builtin.Dict.addKeywords S [] >>= _) _ _ _
    refine wpAny_bind (wpAny_pure (wpAny_pure ?_))
    exact hR h' s.toks (ndP_ext hm fun o e => he S o hSI e) fun b o _ hb e => he b o hb e
  | q :: rest, i, nks, bs, ix, t, s, hsz, hln, ht, hit, hl, hm, hn, hR => by
    obtain ⟨b, hb, hbS, hbI, htup, hk, hd8⟩ := ht 0 q rfl
    rw [List.length_cons] at hsz hln
    refine codeAny_builtin ud_entry ?_
    rw [Around.under_plainId ud_plain _]
    show wpAny _ A.in1 (pyNext (.ref I) >>= _) _ _ s
    refine wpAny_bind (wpAny_pyNext_list_item (x := .ref b) hit hl (by simpa using hb) fun h1 hit1 hs1 => ?_)
    -- a tuple is no list iterator
    have keep1 : ∀ (a : Addr) (o : Obj) (vs : Array Value) (n : Nat), s.heap.get? a = some o → o.cls = .type "tuple" → o.data = .seq vs n → h1.get? a = some o := fun a o vs n e c d => by
      refine (hs1.2 a fun z => ?_).trans e
      obtain ⟨oi, ei, ci, di⟩ := hit
      rw [z, ei] at e
      cases e
      rw [ci] at c
      exact absurd (Value.type.inj c) (by decide)
    have ht1 : IsTup h1 b #[.ref q.2, .bool true] := htup.extBut hs1.extBut hbI
    have hl1 : h1.IsList l items := hl.extBut hs1.extBut hlI
    have hm1 : ndP w S nks bs h1 := ndP_ext hm fun o e => hs1.extBut S o hSI e
    have hn1 : NkAll h1 nks (bs.map Value.ref) := hn.at keep1
    have hk1 : NkIs h1 q.1 (.ref q.2) := hk.at keep1
    obtain ⟨o, ho, hc, n, hd⟩ := id ht1
    show wpAny _ A.in1 (holding [Value.ref b] _ >>= _) _ _ _
    refine wpAny_bind (wpAny_holding ?_)
    refine wpAny_bind (wpAny_tryCatch ?_)
    unfold Builtin.Dict.pairItems
    refine wpAny_bind (wpAny_typeOf (T := "tuple") ⟨o, ho, hc⟩ ?_)
    rw [if_pos (by first | decide | rfl | simp)]
    refine wpAny_bind (wpAny_seqItems ho hd (wpAny_pure ?_))
    show wpAny _ A.in1 (holding [.ref q.2, .bool true] (dictSet S (.ref q.2) (.bool true))) _ _ _
    have dd : h1.DictOfH (nestedKind prog w) S (xsN nks bs) := nd_dict hm1 hn1
    have hxl := xsN_length hm1.2.2.1
    refine wpAny_holding (wpAny_dictSet_heap (knd := nestedKind prog w) (k := q.1) (by show A.units + 1 + 8 < cLine; omega) ⟨hk1.nest, hd8⟩ dd (fun h2 hm2 hs2 => ?_) (by omega))
    rw [storedH_xsN hm1.2.2.1] at hm2
    have keep2 : ∀ (a : Addr) (o : Obj) (vs : Array Value) (n : Nat), h1.get? a = some o → o.cls = .type "tuple" → o.data = .seq vs n → h2.get? a = some o := fun a o vs n e c d => by
      refine (hs2.2 a fun z => ?_).trans e
      obtain ⟨od, es, ep, eo, co, ddat, _⟩ := dd
      rw [z, eo] at e
      cases e
      rw [ddat] at d
      cases d
    have nd2 : ndP w S (addK nks q.1) (addB nks bs q.1 q.2) h2 := nd_of (by have := addB_le (nks := nks) (bs := bs) q.1 q.2; omega) hm1.2.1 (addK_length hm1.2.2.1 q.1 q.2) (fun k hk => by
      rcases addK_mem.mp hk with hk | hk
      · exact hm1.2.2.2.2.1 k hk
      · rw [hk]; exact hd8) hm2
    have hn2 : NkAll h2 (addK nks q.1) ((addB nks bs q.1 q.2).map Value.ref) := by
      have a1 := hn1.at keep2
      have a2 := hk1.at keep2
      unfold addK addB
      split
      · exact a1
      · rw [List.map_append]
        exact nkAll_app a1 (.cons a2 .nil)
    have hS2 := hs2.extBut
    refine wpAny_pure ⟨plainId_quiet ud_plain _, upd_loopN (items := items) hh hu hlI hSI hSl rest (i + 1) (addK nks q.1) (addB nks bs q.1 q.2) (ix + 1) 0 _ (show items.size = i + 1 + rest.length by omega) ?_ (fun j q' e => ?_) ?_ ?_ nd2 hn2 fun h' tk hd' k => ?_⟩
    · have := addB_le (nks := nks) (bs := bs) q.1 q.2; omega
    · obtain ⟨b', hb', hbS', hbI', htup', hk', hd'⟩ := ht (j + 1) q' (by simpa using e)
      refine ⟨b', ?_, hbS', hbI', (htup'.extBut hs1.extBut hbI').extBut hS2 hbS', (hk'.at keep1).at keep2, hd'⟩
      rw [show i + 1 + j = i + (j + 1) by omega]
      exact hb'
    · exact hit1.at fun o' e => hS2 I o' (Ne.symm hSI) e
    · exact hl1.extBut hS2 (Ne.symm hSl)
    · exact hR h' tk hd' fun c oc h3 h4 e => k c oc h3 h4 (hS2 c oc h3 (hs1.extBut c oc h4 e))
where nkAll_app {h : Heap} : ∀ {a b : List NestedKey} {u v : List Value}, NkAll h a u → NkAll h b v → NkAll h (a ++ b) (u ++ v)
  | _, _, _, _, .nil, r => r
  | _, _, _, _, .cons x y, r => .cons x (nkAll_app y r)
/-- dict(l) of a list of pairs (key, True) -/
theorem call_dictN {s : Shared} {l : Addr} {ol : Obj} {items : Array Value} {n : Nat} {prs : List (NestedKey × Addr)} {Q : Value → Shared → Prop} (hh : A.handled = none) (hu : A.units + 12 < cLine) (hbig : sysModules < s.heap.objs.size) (hl : s.heap.get? l = some ol) (hc : ol.cls = .type "list") (hd : ol.dict = none)
    (hdat : ol.data = .seq items n) (hsz : items.size = prs.length) (hln : prs.length ≤ sizeLine)
    (ht : ∀ (j : Nat) (q : NestedKey × Addr), prs[j]? = some q → ∃ (b : Addr), items[j]? = some (.ref b) ∧ IsTup s.heap b #[.ref q.2, .bool true] ∧ NkIs s.heap q.1 (.ref q.2) ∧ q.1.depth ≤ 8)
    (h : ∀ h' tk, ndP w s.heap.objs.size (addAllK [] prs) (addAllB [] [] prs) h' → (∀ b o, s.heap.get? b = some o → h'.get? b = some o) → Q (.ref s.heap.objs.size) { s with heap := h', toks := tk }) :
    wpAny (model prog w) A (call (.type "dict") [.ref l]) Q E s := by
  refine callType_codes (Q₁ := fun obj s₁ => obj = .ref s.heap.objs.size ∧ s₁ = { s with heap := s.heap.push { cls := .type "dict", data := .dict #[] } }) PySem.F.kt_called_dict (PySem.F.kt_typeCall_dict_1 _) PySem.F.entry_dict_init (kt_code_dict_new _ ⟨rfl, rfl⟩) ?_
  rintro obj s₁ ⟨rfl, rfl⟩
  have hnew : ndP w s.heap.objs.size [] [] (s.heap.push { cls := .type "dict", data := .dict #[] }) :=
    ⟨Nat.zero_le _, beq_eq_false_iff_ne.mpr (Nat.ne_of_gt hbig), rfl, .nil, fun k hk => (by cases hk), _, #[], 0, Heap.get?_push_size _ rfl, ⟨rfl, rfl, rfl⟩, rfl, rfl⟩
  have hT : (s.heap.push { cls := .type "dict", data := .dict #[] }).DictOf (mixKind prog w) s.heap.objs.size [] := Heap.DictOf.new s.heap
  have k0 : ∀ b o, s.heap.get? b = some o → (s.heap.push { cls := .type "dict", data := .dict #[] }).get? b = some o := fun b o e => Heap.get?_push_of_some _ e
  refine ⟨hT.typeIs, PySem.F.args_dict_init_2 _ _, ?_⟩
  unfold Builtin.«dict.__init__»
  refine wpAny_bind ?_
  unfold Builtin.Dict.selfAndRest
  refine wpAny_bind (wpAny_notOrdered_dict hT.typeIs ?_)
  show wpAny _ _ (pure (s.heap.objs.size, [Value.ref l])) _ _ _
  refine wpAny_pure ?_
  show wpAny _ _ (Builtin.Dict.updateFrom "dict.__init__" s.heap.objs.size (.ref l) [] .none) _ _ _
  unfold Builtin.Dict.updateFrom
  refine wpAny_bind (wpAny_typeOf (T := "list") ⟨ol, k0 _ _ hl, hc⟩ ?_)
  rw [if_pos (by first | decide | rfl | simp)]
  refine wpAny_bind (miss_list (k0 _ _ hl) hc hdat hd hh fun h1 tk1 hk1 => ?_)
  rw [if_pos (show (none : Option Value).isNone = true from rfl)]
  refine wpAny_bind (wpAny_rule ?_)
  have hl1 : h1.IsList l items := ⟨ol, hk1 _ _ (k0 _ _ hl), hc, n, hdat⟩
  have hS1 : s.heap.objs.size < h1.objs.size := by
    have e : (s.heap.push { cls := .type "dict", data := .dict #[] }).get? s.heap.objs.size = some { cls := .type "dict", data := .dict #[] } := Heap.get?_push_size _ rfl
    exact Heap.lt_size (hk1 _ _ e)
  refine wpAny_bind (wpAny_pyIter_list hl1 ?_)
  have k2 : ∀ b o, h1.get? b = some o → (h1.push { cls := .type "list_iterator", data := .fields #[.ref l, .int 0 0] }).get? b = some o := fun b o e => Heap.get?_push_of_some _ e
  have hlt : l < s.heap.objs.size := Heap.lt_size hl
  have key := upd_loopN (prog := prog) (w := w) (A := A.in1) (R := wants (fun r s₂ => r = .none ∧ Q (.ref s.heap.objs.size) s₂) E) (S := s.heap.objs.size) (I := h1.objs.size) (l := l) (items := items) (res := Value.none) hh (by rw [Around.in1_units]; omega)
    (Nat.ne_of_lt (Nat.lt_trans hlt hS1)) (Nat.ne_of_lt hS1) (Nat.ne_of_gt hlt) prs 0 [] [] 0 0
    { s with heap := h1.push { cls := .type "list_iterator", data := .fields #[.ref l, .int 0 0] }, toks := tk1 } (by rw [hsz, Nat.zero_add]) (by rw [List.length_nil, Nat.zero_add]; exact hln)
    (fun j q e => by
      obtain ⟨b, e1, e2, e3, e4⟩ := ht j q e
      have hb : b < s.heap.objs.size := e2.lt
      exact ⟨b, by rw [Nat.zero_add]; exact e1, Nat.ne_of_lt hb, Nat.ne_of_lt (Nat.lt_trans hb hS1), e2.keeps fun c o z => k2 _ _ (hk1 _ _ (k0 _ _ z)), e3.at fun a o vs n z _ _ => k2 _ _ (hk1 _ _ (k0 _ _ z)), e4⟩)
    ⟨_, Heap.get?_push_size _ rfl, rfl, rfl⟩ (hl1.at fun o e => k2 _ _ e) (ndP_ext (ndP_ext hnew fun o e => hk1 _ _ e) fun o e => k2 _ _ e) .nil
    (fun h' tk hd' k => ⟨rfl, h h' tk hd' fun b o e => k b o (Nat.ne_of_lt (Heap.lt_size e)) (Nat.ne_of_lt (Nat.lt_trans (Heap.lt_size e) hS1)) (k2 _ _ (hk1 _ _ (k0 _ _ e)))⟩)
  first
    | exact wpAny_pure ⟨plainId_quiet ud_plain _, key⟩
    | exact wpAny_bind (wpAny_pure (wpAny_pure ⟨plainId_quiet ud_plain _, key⟩))
/-! ### the keys in a row -/
theorem walks_ents (hh : A.handled = none) (I d : Addr) (hne : d ≠ I) (o : Obj) (es : Array DictEntry) (ep : Nat) (hd : o.data = .dict es ep) :
    Walks prog w A I [I, d] [I] es.size (fun i v => ∃ en, es[i]? = some en ∧ v = en.key) (fun i h => h.IsKeyIter I d i es.size ep ∧ h.get? d = some o) where
  sub := fun b hb => by simp at hb; simp [hb]
  frame := fun _ _ _ st hk => ⟨st.1.at fun o e => hk I (by simp) o e, hk d (by simp) o st.2⟩
  item := fun i s Q E hi st hQ => by
    refine next_key_item st.1 st.2 hd rfl (Array.getElem?_eq_getElem hi) fun h' hit' hs' => ?_
    exact hQ _ h' s.toks ⟨_, Array.getElem?_eq_getElem hi, rfl⟩ ⟨hit', hs'.extBut d o hne st.2⟩ fun b o hb e => hs'.extBut b o (fun h => hb (by simp [h])) e
  done := fun s Q E st hQ => next_key_end hh st.1 st.2 hd rfl (Nat.le_refl _) fun h' he' => hQ h' s.toks fun b o hb e => he' b o (fun h => hb (by simp [h])) e
  self := fun _ _ _ _ st hQ => wpAny_pyIter_keyiter st.1 hQ
open PySem.W in
theorem src_ents {d : Addr} {o : Obj} {es : Array DictEntry} {ep : Nat} (lo : (d == sysModules) = false) (hc : o.ExactDict) (hd : o.data = .dict es ep) :
    KdlSrc prog w "dict" d d es.size (fun i v => ∃ en, es[i]? = some en ∧ v = en.key) (fun h => h.get? d = some o) where
  type := fun _ hm => ⟨o, hm, hc.1⟩
  there := fun _ hm => ⟨Heap.lt_size hm, Heap.lt_size hm⟩
  keep := fun _ _ hm hk => hk d (.inl rfl) o hm
  notList := by decide
  notTuple := by decide
  hint := fun _ _ _ _ hm hq => kdl_hint_dict ⟨o, hm, hc.1⟩ hq
  iter := fun _ s hh hm => ⟨_, _, (fun _ _ hq => iter_keys lo hm hc hd hq), walks_ents hh _ d (Nat.ne_of_lt (Heap.lt_size hm)) o es ep hd, ⟨⟨_, Heap.get?_push_size _ rfl, rfl, rfl⟩, Heap.get?_push_of_some _ hm⟩⟩
end
end DL

/-! The rules: dict(row of pairs (key, True)), sorted(that dict). -/
namespace DL
open PySem PySem.Spec PyProof.Rows L2
section
variable {X : Cx}
/-- pairs (key, True): the keys -/
structure PrsAt (K : PySem.W.Frag) (H : Hp) (ps : List Addr) (qs : List Addr) (pxs : List PV) (nks : List NestedKey) : Prop where
  at_ : Paired (fun p q => SqT K H p [V.ref q, V.bl true]) ps qs
  rep : Reps K H (qs.map V.ref) pxs
  nk : toNKs pxs = some nks
  dep : ∀ k ∈ nks, k.depth ≤ 8
def rDictN (K : PySem.W.Frag) (w : World) : List V → Hp → VK → Prop := fun xs H Q => ∃ (a : Addr) (ps qs : List Addr) (pxs : List PV) (nks : List NestedKey), xs = [.ref a] ∧ SqL K H a (ps.map V.ref) ∧ PrsAt K H ps qs pxs nks ∧
  ∀ p, H p = none → Q (.ref p) (upd H p (.ext (ndP w p (addAllK [] (nks.zip qs)) (addAllB [] [] (nks.zip qs)))))
theorem paired_get {α β : Type} {R : α → β → Prop} : ∀ {xs : List α} {ys : List β}, Paired R xs ys → ∀ (j : Nat) (y : β), ys[j]? = some y → ∃ x, xs[j]? = some x ∧ R x y
  | _, _, .nil, j, y, h => by simp at h
  | _, _, .cons h r, 0, y, e => by simp at e; subst e; exact ⟨_, rfl, h⟩
  | _, _, .cons h r, j + 1, y, e => by
    obtain ⟨x, h1, h2⟩ := paired_get r j y (by simpa using e)
    exact ⟨x, by simpa using h1, h2⟩
theorem paired_len {α β : Type} {R : α → β → Prop} : ∀ {xs : List α} {ys : List β}, Paired R xs ys → xs.length = ys.length
  | _, _, .nil => rfl
  | _, _, .cons _ r => congrArg (· + 1) (paired_len r)
theorem nkAll_get {h : Heap} : ∀ {ks : List NestedKey} {vs : List Value}, NkAll h ks vs → ∀ (j : Nat) (k : NestedKey), ks[j]? = some k → ∃ v, vs[j]? = some v ∧ NkIs h k v
  | _, _, .nil, j, k, e => by simp at e
  | _, _, .cons h r, 0, k, e => by simp at e; subst e; exact ⟨_, rfl, h⟩
  | _, _, .cons h r, j + 1, k, e => by
    obtain ⟨v, h1, h2⟩ := nkAll_get r j k (by simpa using e)
    exact ⟨v, by simpa using h1, h2⟩
theorem c_dictN {k : Nat} (hr : Room k X.A) : CallR X (.type "dict") (rDictN X.K X.w) := by
  intro pins s σ H xs us Q I r h
  obtain ⟨a, ps, qs, pxs, nks, rfl, hq, pr, q⟩ := h
  obtain ⟨u, rfl, rx⟩ := vals1 r
  cases rx
  obtain ⟨its, rv, pl, hz⟩ := I.list hq
  have ei := refs_at rv
  subst ei
  rw [List.length_map] at hz
  have nk := nests_of I pr.rep pr.nk (vals_refs qs)
  have hl1 : qs.length = nks.length := by have := nk.length; simpa using this
  have hl2 := paired_len pr.at_
  obtain ⟨o, n, ho, hc, hd, hdat⟩ := pl
  have hb : sysModules < s.heap.objs.size := I.big
  refine call_dictN (prs := nks.zip qs) hr.hd (by have := hr.un; omega) hb ho hc hd hdat (by simp [hl1, hl2]) (by simp [hl1]; omega) (fun j p e => ?_) fun h' tk hd' kk => ?_
  · have e1 : nks[j]? = some p.1 := by
      rw [List.getElem?_zip_eq_some] at e; exact e.1
    have e2 : qs[j]? = some p.2 := by
      rw [List.getElem?_zip_eq_some] at e; exact e.2
    obtain ⟨b, e3, sq⟩ := paired_get pr.at_ j _ e2
    obtain ⟨v, e4, nk1⟩ := nkAll_get nk j _ e1
    rw [List.getElem?_map, e2] at e4
    cases e4
    obtain ⟨its, rv2, ht, _⟩ := I.tuple sq
    obtain ⟨u1, u2, rfl, r1, r2⟩ := vals2 rv2
    cases r1
    obtain rfl : u2 = Value.bool true := r2
    exact ⟨b, by simp [e3], ht, nk1, pr.dep _ (List.mem_of_getElem? e1)⟩
  · exact ⟨.ref s.heap.objs.size, _, I.laid (t' := tk) kk (Nat.le_refl _) (nd_ok hd'), rfl, q _ (I.hok.fresh (Nat.le_refl _))⟩
open Classical in
noncomputable def kOf (h : Heap) (v : Value) : NestedKey := if e : ∃ k, NkIs h k v then e.choose else .none
theorem kOf_eq {h : Heap} {k : NestedKey} {v : Value} (n : NkIs h k v) : kOf h v = k := by
  have e : ∃ k, NkIs h k v := ⟨k, n⟩
  unfold kOf
  rw [dif_pos e]
  exact NestedIs.inj _ _ v e.choose_spec.nest n.nest
theorem kOf_all {h : Heap} : ∀ {ks : List NestedKey} {vs : List Value}, NkAll h ks vs → vs.map (kOf h) = ks
  | _, _, .nil => rfl
  | _, _, .cons a b => by rw [List.map_cons, kOf_eq a, kOf_all b]
theorem nkAll_mem {h : Heap} : ∀ {ks : List NestedKey} {vs : List Value}, NkAll h ks vs → ∀ v ∈ vs, ∃ k ∈ ks, NkIs h k v
  | _, _, .nil, v, hv => by cases hv
  | _, _, .cons (k := k) a b, v, hv => by
    rcases List.mem_cons.mp hv with z | z
    · exact ⟨k, List.mem_cons_self, z ▸ a⟩
    · obtain ⟨k', h1, h2⟩ := nkAll_mem b v z
      exact ⟨k', List.mem_cons_of_mem _ h1, h2⟩
/-- trees for some of the values -/
theorem trees_of {K : PySem.W.Frag} {H : Hp} {h : Heap} : ∀ {bs : List Addr} {ks : List PV} {nks : List NestedKey}, Reps K H (bs.map V.ref) ks → toNKs ks = some nks → NkAll h nks (bs.map Value.ref) → ∀ b ∈ bs, ∃ x ∈ ks, Rep K H (.ref b) x ∧ toNK x = some (kOf h (.ref b))
  | [], _, _, _, _, _, b, hb => by cases hb
  | c :: bs, ks, nks, r, e, n, b, hb => by
    rw [List.map_cons] at r n
    cases r with
    | cons r1 r2 =>
      obtain ⟨d, ds, e1, e2, rfl⟩ := toNKs_cons e
      cases n with
      | cons n1 n2 =>
        rcases List.mem_cons.mp hb with z | z
        · subst z
          exact ⟨_, List.mem_cons_self, r1, by rw [kOf_eq n1]; exact e1⟩
        · obtain ⟨x, h1, h2, h3⟩ := trees_of r2 e2 n2 b z
          exact ⟨x, List.mem_cons_of_mem _ h1, h2, h3⟩
theorem trees_all {K : PySem.W.Frag} {H : Hp} {ks : List PV} {f : Addr → NestedKey} : ∀ {obs : List Addr}, (∀ b ∈ obs, ∃ x ∈ ks, Rep K H (.ref b) x ∧ toNK x = some (f b)) → ∃ outx, Reps K H (obs.map V.ref) outx ∧ toNKs outx = some (obs.map f) ∧ ∀ x ∈ outx, x ∈ ks
  | [], _ => ⟨[], .nil, rfl, fun x hx => by cases hx⟩
  | b :: obs, h => by
    obtain ⟨outx, h1, h2, h3⟩ := trees_all fun c hc => h c (List.mem_cons_of_mem _ hc)
    obtain ⟨x, hx, r, e⟩ := h b List.mem_cons_self
    refine ⟨x :: outx, .cons r h1, by rw [toNKs, e, h2]; rfl, fun y hy => ?_⟩
    rcases List.mem_cons.mp hy with z | z
    · rw [z]; exact hx
    · exact h3 y z
def adr : Value → Addr
  | .ref a => a
  | _ => 0
theorem refs_back : ∀ {out : List Value}, (∀ v ∈ out, ∃ b, v = Value.ref b) → out = (out.map adr).map Value.ref
  | [], _ => rfl
  | v :: out, h => by
    obtain ⟨b, rfl⟩ := h v List.mem_cons_self
    rw [List.map_cons, List.map_cons, ← refs_back fun v hv => h v (List.mem_cons_of_mem _ hv)]
    rfl
theorem adr_refs (bs : List Addr) : (bs.map Value.ref).map adr = bs := by
  rw [List.map_map]
  exact (List.map_congr_left fun _ _ => rfl).trans (List.map_id _)
/-- the sorted keys -/
structure SrtK (ks outx : List PV) (nks outk : List NestedKey) : Prop where
  nk : toNKs outx = some outk
  mem : ∀ k, k ∈ outk ↔ k ∈ nks
  srt : outk.Pairwise fun a b => ltT a b = true
  sub : ∀ x ∈ outx, x ∈ ks
  len : outx.length = ks.length
def rSortN (K : PySem.W.Frag) (w : World) : List V → Hp → VK → Prop := fun xs H Q => ∃ (a : Addr) (ks : List PV) (nks : List NestedKey) (bs : List Addr), xs = [.ref a] ∧ NdAt K w H a ks nks bs ∧ (∀ k ∈ nks, Led k) ∧ (∀ k ∈ nks, ∀ l ∈ nks, (ltNK k l).isSome = true) ∧
  ∀ p out outx outk, Reps K H out outx → SrtK ks outx nks outk → H p = none → Q (.ref p) (upd H p (.lst out))
theorem c_sortedN {k : Nat} (hr : Room k X.A) : CallR X (.builtin "sorted") (rSortN X.K X.w) := by
  intro pins s σ H xs us Q I r h
  obtain ⟨a, ks, nks, bs, rfl, d, led, cmp, q⟩ := h
  obtain ⟨u, rfl, rx⟩ := vals1 r
  cases rx
  obtain ⟨⟨z, lo, hl, hnd, hd8, o, es, ep, ho, hc, hdat, he⟩, dd, nk⟩ := d.dict I
  have hes : es.size = bs.length := by
    have := congrArg List.length he
    rw [List.length_map, xsN_length hl] at this
    simpa using this
  refine Calls.call_function_entry PyProof.Rows.kind_sorted PyProof.Rows.plain_sorted PyProof.Rows.entry_sorted (PyProof.Rows.args_sorted1 _) ?_
  unfold Builtin.«sorted»
  refine wpAny_bind (m := checkCount "sorted" 1 1 _) (wpAny_pure ?_)
  refine wpAny_bind (PySem.W.kdu_collect (A := X.A.in1) (src_ents (prog := X.prog) (w := X.w) lo hc hdat) hr.hd ho (by rw [hes]; exact z) fun h' tk acc hk hacc => ?_)
  have hal : acc.toList.length = bs.length := by rw [Array.length_toList, hacc.1, hes]
  have hacc2 : acc.toList = bs.map Value.ref := by
    refine List.ext_getElem? fun j => ?_
    by_cases hj : j < bs.length
    · have hj2 : j < acc.size := by rw [hacc.1, hes]; exact hj
      obtain ⟨en, e1, e2⟩ := hacc.2 j acc[j] (Array.getElem?_eq_getElem hj2)
      rw [Array.getElem?_toList, Array.getElem?_eq_getElem hj2, e2]
      have e3 : es.toList[j]? = some en := by rw [Array.getElem?_toList]; exact e1
      have hjn : j < nks.length := by omega
      rw [he, List.getElem?_map] at e3
      have e4 : (xsN nks bs)[j]? = some (nks[j], bs[j], .bool true) := by
        simp only [xsN, List.getElem?_map]
        rw [List.getElem?_eq_getElem (by simp; omega)]
        simp
      rw [e4] at e3
      cases e3
      rw [List.getElem?_map, List.getElem?_eq_getElem hj]
      rfl
    · rw [List.getElem?_eq_none (by omega), List.getElem?_eq_none (by simp; omega)]
  have I1 : Inv X pins σ H { s with heap := h', toks := tk } := I.kept hk
  refine wpAny_bind (wpAny_newList ?_ (by rw [hal]; exact z))
  have hoL : (h'.push (seqObj "list" acc.toList.toArray 0)).get? h'.objs.size = some (seqObj "list" acc.toList.toArray 0) := Heap.get?_push_size _ rfl
  show wpAny _ _ _ _ _ { s with heap := h'.push (seqObj "list" acc.toList.toArray 0), toks := tk }
  have kall : ∀ b o, s.heap.get? b = some o → (h'.push (seqObj "list" acc.toList.toArray 0)).get? b = some o := fun b o e => Heap.get?_push_of_some _ (hk _ _ e)
  have hp : ∀ v ∈ acc.toList, NkIs (h'.push (seqObj "list" acc.toList.toArray 0)) (kOf s.heap v) v ∧ Led (kOf s.heap v) := fun v hv => by
    rw [hacc2] at hv
    obtain ⟨kk, h1, h2⟩ := nkAll_mem nk v hv
    rw [kOf_eq h2]
    exact ⟨h2.at fun a o vs n e _ _ => kall a o e, led kk h1⟩
  have hcm : ∀ v ∈ acc.toList, ∀ u ∈ acc.toList, (ltNK (kOf s.heap v) (kOf s.heap u)).isSome = true := fun v hv u hu => by
    rw [hacc2] at hv hu
    obtain ⟨kk, h1, h2⟩ := nkAll_mem nk v hv
    obtain ⟨ll, h3, h4⟩ := nkAll_mem nk u hu
    rw [kOf_eq h2, kOf_eq h4]
    exact cmp kk h1 ll h3
  refine wpAny_bind (wpAny_holding (wpAny_call_entry PyProof.Rows.slot_list_sort ⟨_, hoL, rfl⟩ PyProof.Rows.entry_list_sort
    (SrtO.list_sort_ord (s := { s with heap := h'.push (seqObj "list" acc.toList.toArray 0), toks := tk }) (swoN (kOf s.heap)) hoL (by rw [hal]; exact z) (fun h2 => ?_) fun out hs hb => ?_)
    (PyProof.Rows.args_list_sort _)))
  · refine nk_sortable (by show X.A.units + 1 + 1 + 8 < cLine; have := hr.un; omega) (by omega) hp hcm fun o e => ?_
    have e' : some o = some (seqObj "list" acc.toList.toArray 0) := e.symm.trans hoL
    cases e'
    intro c
    exact absurd (Value.type.inj c) (by decide)
  · refine ⟨_, rfl, ?_⟩
    obtain ⟨e', he'⟩ := PyProof.Rows.sortedHeap_at (vs := acc.toList) (out := out.toArray) hoL
    have perm : out.Perm (bs.map Value.ref) := hacc2 ▸ hb.perm
    have oref : out = (out.map adr).map Value.ref := refs_back fun v hv => by
      have := perm.mem_iff.mp hv
      obtain ⟨b, _, rfl⟩ := List.mem_map.mp this
      exact ⟨b, rfl⟩
    have pb : (out.map adr).Perm bs := by
      have := perm.map adr
      rw [adr_refs] at this
      exact this
    obtain ⟨outx, t1, t2, t3⟩ := trees_all (f := fun b => kOf s.heap (.ref b)) (obs := out.map adr) fun b hb' => trees_of d.rep d.nk nk b (pb.mem_iff.mp hb')
    have ko : (out.map adr).map (fun b => kOf s.heap (.ref b)) = out.map (kOf s.heap) := by
      conv => rhs; rw [oref]
      rw [List.map_map (f := Value.ref)]
      rfl
    have kp : (out.map (kOf s.heap)).Perm nks := by
      have := perm.map (kOf s.heap)
      rw [kOf_all nk] at this
      exact this
    have srt : (out.map (kOf s.heap)).Pairwise fun a b => ltT a b = true := by
      have nd : (out.map (kOf s.heap)).Nodup := kp.nodup_iff.mpr hnd
      have s1 : (out.map (kOf s.heap)).Pairwise fun a b => ltT b a = false := by rw [List.pairwise_map]; exact hs
      refine (s1.and nd).imp fun {x y} h => ?_
      cases c : ltT x y with
      | true => rfl
      | false => exact absurd (ltT_tri x y c h.1) h.2
    have sk : SrtK ks outx nks (out.map (kOf s.heap)) := by
      refine ⟨by rw [← ko]; exact t2, fun k => kp.mem_iff, srt, t3, ?_⟩
      rw [← t1.length, List.length_map, pb.length_eq, ← d.rep.length, List.length_map]
    have vout : Vals ((out.map adr).map V.ref) out := by
      have z2 := vals_refs (out.map adr)
      rw [← oref] at z2
      exact z2
    have hlen : ((out.map adr).map V.ref).length ≤ sizeLine := by
      rw [List.length_map, pb.length_eq]
      exact z
    refine wpAny_pure ⟨_, rfl, .ref h'.objs.size, upd H h'.objs.size (.lst ((out.map adr).map V.ref)), I1.laid (t' := tk) (fun b u e => ?_) (Nat.le_refl _)
      (show ObjOk X.prog X.w _ _ _ (.lst ((out.map adr).map V.ref)) from ⟨hlen, out, e', vout, he'⟩), rfl, q _ _ outx _ t1 sk (I1.hok.fresh (Nat.le_refl _))⟩
    have hb2 : b < h'.objs.size := Heap.lt_size e
    rw [PyProof.Rows.sortedHeap_old (Nat.ne_of_lt hb2) (by rw [size_push']; exact Nat.lt_succ_of_lt hb2)]
    exact Heap.get?_push_of_some _ e
end
/-! ### over trees -/
section
variable {K : PySem.W.Frag} {w : World}
/-- the keys of pairs (key, True) -/
def prsP : List PV → Option (List PV)
  | [] => some []
  | .tup [x, .bl true] :: r => if isTupP x = true then (prsP r).map (x :: ·) else none
  | _ :: _ => none
def addAllP (nks : List NestedKey) (ks : List PV) : List (NestedKey × PV) → List PV
  | [] => ks
  | q :: r => addAllP (addK nks q.1) (addP nks ks q.1 q.2) r
theorem addAllK_zip : ∀ (zs : List NestedKey) (nks : List NestedKey) (qs : List Addr) (pxs : List PV), qs.length = zs.length → pxs.length = zs.length → addAllK nks (zs.zip qs) = zs.foldl addK nks
  | [], _, _, _, _, _ => by simp [addAllK]
  | z :: zs, nks, [], _, h, _ => by simp at h
  | z :: zs, nks, q :: qs, [], _, h => by simp at h
  | z :: zs, nks, q :: qs, x :: pxs, h1, h2 => by
    rw [List.zip_cons_cons, addAllK, List.foldl_cons]
    exact addAllK_zip zs _ qs pxs (by simpa using h1) (by simpa using h2)
theorem addAll_rep {H : Hp} : ∀ (zs : List NestedKey) (qs : List Addr) (pxs : List PV) (nks : List NestedKey) (bs : List Addr) (ks : List PV), Reps K H (qs.map V.ref) pxs → toNKs pxs = some zs → Reps K H (bs.map V.ref) ks → toNKs ks = some nks →
    Reps K H ((addAllB nks bs (zs.zip qs)).map V.ref) (addAllP nks ks (zs.zip pxs)) ∧ toNKs (addAllP nks ks (zs.zip pxs)) = some (addAllK nks (zs.zip qs))
  | _, [], pxs, nks, bs, ks, r, e, rb, eb => by
    cases r
    rw [toNKs] at e
    cases e
    exact ⟨rb, eb⟩
  | zs, q :: qs, pxs, nks, bs, ks, r, e, rb, eb => by
    rw [List.map_cons] at r
    cases r with
    | cons r1 r2 =>
      obtain ⟨d, ds, e1, e2, rfl⟩ := toNKs_cons e
      simp only [List.zip_cons_cons, addAllB, addAllP, addAllK]
      refine addAll_rep ds qs _ _ _ _ r2 e2 ?_ ?_
      · unfold addB addP
        split
        · exact rb
        · rw [List.map_append]; exact rb.append (.cons r1 .nil)
      · unfold addP addK
        split
        · exact eb
        · exact toNKs_snoc eb e1
theorem prs_of {H : Hp} : ∀ {vs : List V} {ys pxs : List PV}, Reps K H vs ys → prsP ys = some pxs → ∃ ps qs, vs = ps.map V.ref ∧ Paired (fun p q => SqT K H p [V.ref q, V.bl true]) ps qs ∧ Reps K H (qs.map V.ref) pxs
  | _, _, _, .nil, h => by rw [prsP] at h; cases h; exact ⟨[], [], rfl, .nil, .nil⟩
  | _, y :: ys, pxs, .cons h r, e => by
    unfold prsP at e
    split at e
    · rename_i e0; cases e0
    · rename_i x rr e0
      cases e0
      split at e
      · rename_i hx
        obtain ⟨l, e1, rfl⟩ := Option.map_eq_some_iff.mp e
        obtain ⟨ps, qs, rfl, h1, h2⟩ := prs_of r e1
        obtain ⟨a, us, rfl, ha, ra⟩ := rep_tup h
        obtain ⟨v1, v2, rfl, r1, r2⟩ := reps2 ra
        obtain ⟨q, rfl⟩ := tup_ref r1 hx
        cases rep_bl r2
        exact ⟨a :: ps, q :: qs, rfl, .cons (SqT.of ha) h1, .cons r1 h2⟩
      · cases e
    · cases e
def dDictN (w : World) : DC := fun xs S Q => match xs with
  | [x] => match x with
    | .loc a => optD (seqP (.loc a) S) fun ys => optD (prsP ys) fun pxs => optD (toNKs pxs) fun zs => (∀ k ∈ zs, k.depth ≤ 8) ∧ ∀ p, S p = none → Q (.loc p) (mset S p (some (ndM w p (zs.foldl addK []) (addAllP [] [] (zs.zip pxs)))))
    | _ => False
  | _ => False
instance : SimC K (rDictN K w) (dDictN w) where
  sim {vs xs H S Q Q'} r m h k := by
    obtain ⟨x, rfl, h⟩ := one_elim h
    obtain ⟨a, rfl, h⟩ := loc_elim h
    obtain ⟨ys, e1, h⟩ := opt_elim h
    obtain ⟨pxs, e2, h⟩ := opt_elim h
    obtain ⟨zs, e3, hd, q⟩ := opt_elim h
    obtain ⟨v, rfl, r1⟩ := reps1 r
    cases rep_loc r1
    obtain ⟨p, vs, ep, rs, hs⟩ := seq_of m (.loc a) e1
    cases ep
    rcases hs with ⟨hs, _⟩ | ⟨_, z | z⟩
    · obtain ⟨ps, qs, rfl, h1, h2⟩ := prs_of rs e2
      have lz : pxs.length = zs.length := by
        have : ∀ (xs : List PV) (ks : List NestedKey), toNKs xs = some ks → xs.length = ks.length := by
          intro xs
          induction xs with
          | nil => intro ks h; rw [toNKs] at h; cases h; rfl
          | cons x xs ih => intro ks h; obtain ⟨d, ds, _, e2, rfl⟩ := toNKs_cons h; simp [ih ds e2]
        exact this _ _ e3
      have lq : qs.length = zs.length := by rw [← lz, ← h2.length, List.length_map]
      refine ⟨a, ps, qs, pxs, zs, rfl, hs, ⟨h1, h2, e3, hd⟩, fun p hp => ?_⟩
      obtain ⟨g1, g2⟩ := addAll_rep zs qs pxs [] [] [] h2 e3 .nil rfl
      have e4 := addAllK_zip zs [] qs pxs lq lz
      refine k _ _ _ _ (Fr.new hp) (m.new hp fun o eo => ?_) (.loc p) (q p (m.freeS hp))
      cases eo
      rw [e4]
      exact ⟨_, upd_same, g1.mono (Tx.new hp)⟩
    · cases z
    · cases z
def dSortN (w : World) : DC := fun xs S Q => match xs with
  | [x] => match x with
    | .loc a => ∃ nks ks, S a = some (ndM w a nks ks) ∧ toNKs ks = some nks ∧ (∀ k ∈ nks, Led k) ∧ (∀ k ∈ nks, ∀ l ∈ nks, (ltNK k l).isSome = true) ∧ ∀ p outx outk, SrtK ks outx nks outk → S p = none → Q (.loc p) (mset S p (some (.lst outx)))
    | _ => False
  | _ => False
instance : SimC K (rSortN K w) (dSortN w) where
  sim {vs xs H S Q Q'} r m h k := by
    obtain ⟨x, rfl, h⟩ := one_elim h
    obtain ⟨a, rfl, nks, ks, hS, hk, led, cmp, q⟩ := loc_elim h
    obtain ⟨v, rfl, r1⟩ := reps1 r
    cases rep_loc r1
    obtain ⟨bs, hH, rb⟩ := m a _ hS
    refine ⟨a, ks, nks, bs, rfl, ⟨hH, rb, hk⟩, led, cmp, fun p out outx outk ro sk hp => ?_⟩
    exact k _ _ _ _ (Fr.new hp) (m.new hp fun o eo => by cases eo; exact new_lst hp ro) (.loc p) (q p outx outk sk (m.freeS hp))
end
end DL

/-! Plain tuples; dict(pairs) of a list or a plain tuple; calls with keywords; a def that knows what surrounds it. -/
namespace DL
open PySem PySem.Spec PyProof.Rows L2
section
variable {X : Cx} {pos : Pos} {es : List Expr} {t : TA}
/-! ### tuples whose object is known -/
def tTupF (t : TA) : TE := fun σ H Q => t σ H fun xs H1 => xs.length ≤ sizeLine ∧ ∀ (p : Addr) (o : Obj), H1 p = none → o.dict = none → Q (.ref p) (upd H1 p (.frz o (.tup xs)))
theorem pe_tupF {x1} (h : PA X es t) : PE X (.Tuple es x1 pos) (tTupF t) := by
  refine ⟨fun pins s σ H Q I hq => ?_⟩
  refine wpAny_Tuple_spliced (thn (h.run pos pins s σ H _ I hq) fun us s1 ⟨xs, H1, I1, r, z, q⟩ => ⟨by rw [← r.length]; exact z, ?_⟩)
  have hf : H1 s1.heap.objs.size = none := I1.hok.fresh (Nat.le_refl _)
  have hn : (s1.heap.push { cls := .type "tuple", data := .seq us.toArray }).get? s1.heap.objs.size = some { cls := .type "tuple", data := .seq us.toArray } := Heap.get?_push_size _ rfl
  refine ⟨.ref s1.heap.objs.size, upd H1 s1.heap.objs.size (.frz { cls := .type "tuple", data := .seq us.toArray } (.tup xs)), I1.laid (t' := s1.toks) (fun b u e => Heap.get?_push_of_some _ e) (Nat.le_refl _) ?_, rfl, q _ _ hf rfl⟩
  exact ⟨hn, z, us, r, ⟨_, hn, rfl, _, rfl⟩⟩
def rTupF (K : PySem.W.Frag) : List V → Hp → VK → Prop := fun xs H Q => ∃ p ys, xs = [.ref p] ∧ SqL K H p ys ∧ ∀ (l : Addr) (o : Obj), H l = none → o.dict = none → Q (.ref l) (upd H l (.frz o (.tup ys)))
theorem c_tupleF : CallR X (.type "tuple") (rTupF X.K) := by
  intro pins s σ H xs us Q I r h
  obtain ⟨p, ys, rfl, hq, q⟩ := h
  obtain ⟨u, rfl, rx⟩ := vals1 r
  cases rx
  obtain ⟨its, r', pl, hz⟩ := I.list hq
  have hlen := r'.length
  refine call_tuple_list pl.isList (fun h' kp => ?_) (by simp only [List.size_toArray] <;> omega)
  have I1 : Inv X pins σ H { s with heap := h' } := I.kept (t' := s.toks) kp
  have hn : (h'.push { cls := .type "tuple", data := .seq its.toArray }).get? h'.objs.size = some { cls := .type "tuple", data := .seq its.toArray } := Heap.get?_push_size _ rfl
  have I2 : Inv X pins σ (upd H h'.objs.size (.frz { cls := .type "tuple", data := .seq its.toArray } (.tup ys))) { s with heap := h'.push { cls := .type "tuple", data := .seq its.toArray } } :=
    I1.laid (t' := s.toks) (fun b o e => Heap.get?_push_of_some _ e) (Nat.le_refl _) ⟨hn, hz, its, r', IsTup.new _ _⟩
  exact ⟨.ref h'.objs.size, _, I2, rfl, q _ _ (I1.hok.fresh (Nat.le_refl _)) rfl⟩
end
section
variable {K : PySem.W.Frag}
theorem new_ktup {H : Hp} {p : Addr} {o : Obj} {vs : List V} {xs : List PV} (hp : H p = none) (ho : o.dict = none) (r : Reps K H vs xs) : Rep K (upd H p (.frz o (.tup vs))) (.ref p) (.ktup xs) :=
  .ktup (.inr ⟨o, upd_same, ho⟩) (r.mono (Tx.new hp))
def dTupF (a : DA) : DE := fun ρ S Q => a ρ S fun xs S1 => xs.length ≤ sizeLine ∧ Q (.ktup xs) S1
instance {ta : TA} {da : DA} [ha : SimA K ta da] : SimE K (tTupF ta) (dTupF da) where
  sim {σ ρ H S Q Q'} e m h k := ha.sim e m h fun vs xs H1 S1 f1 m1 r1 ⟨hl, q1⟩ => ⟨by rw [r1.length]; exact hl, fun p o hp ho =>
    k _ _ _ S1 (f1.trans (Fr.newT hp)) (m1.newU hp) (new_ktup hp ho r1) q1⟩
def dTupF1 : DC := fun xs S Q => match xs with
  | [x] => match x with
    | .loc p => optD (seqP (.loc p) S) fun ys => Q (.ktup ys) S
    | _ => False
  | _ => False
instance : SimC K (rTupF K) dTupF1 where
  sim {vs xs H S Q Q'} r m h k := by
    obtain ⟨x, rfl, h⟩ := one_elim h
    obtain ⟨p, rfl, h⟩ := loc_elim h
    obtain ⟨ys, e, q⟩ := opt_elim h
    obtain ⟨v, rfl, r1⟩ := reps1 r
    obtain ⟨p', vs, rfl, rs, hs⟩ := seq_of m r1 e
    rcases hs with ⟨hs, _⟩ | ⟨_, z | z⟩
    · exact ⟨p', vs, rfl, hs, fun l o hl ho => k _ _ _ S (Fr.newT hl) (m.newU hl) (new_ktup hl ho rs) q⟩
    · cases z
    · cases z
end
/-! ### dict(pairs) -/
section
variable {X : Cx}
def rDictK (K : PySem.W.Frag) : List V → Hp → VK → Prop := fun xs H Q => ∃ (a : Addr) (ps : List Addr) (kvs : List (Key × V)), xs = [.ref a] ∧ (SqL K H a (ps.map V.ref) ∨ PT K H a (ps.map V.ref)) ∧ Paired (fun p kv => SqT K H p [kV kv.1, kv.2]) ps kvs ∧
  ∀ p, H p = none → Q (.ref p) (upd H p (.dK (mergeK [] kvs)))
theorem prs_values {pins : List (Addr × Obj)} {σ : L2.St} {H : Hp} {s : Shared} (I : Inv X pins σ H s) : ∀ {ps : List Addr} {kvs : List (Key × V)}, Paired (fun p kv => SqT X.K H p [kV kv.1, kv.2]) ps kvs →
    ∃ (prs : List (Key × Value)) (vps : List (Value × Value)), KV kvs prs ∧ prs.length = ps.length ∧ vps.length = ps.length ∧
      ∀ (j : Nat) (u y : Value), vps[j]? = some (u, y) → (∃ b, ps[j]? = some b ∧ s.heap.IsTuple b #[u, y]) ∧ ∃ k, prs[j]? = some (k, y) ∧ keyIs k u = true
  | _, _, .nil => ⟨[], [], .nil, rfl, rfl, fun j u y e => by simp at e⟩
  | _, _, .cons (a := p) (b := kv) h t => by
    obtain ⟨prs, vps, r, l1, l2, hp⟩ := prs_values I t
    obtain ⟨its, rv, ht, _⟩ := I.tuple h
    obtain ⟨u, y, ei, ru, ry⟩ := vals2 rv
    subst ei
    refine ⟨(kv.1, y) :: prs, (u, y) :: vps, .cons ⟨rfl, ry⟩ r, by simp [l1], by simp [l2], fun j u' y' e => ?_⟩
    cases j with
    | zero =>
      cases e
      exact ⟨⟨p, rfl, ht⟩, kv.1, rfl, kV_is (P := X.prog) (w := X.w) ru⟩
    | succ j =>
      obtain ⟨⟨b, h1, h2⟩, k, h3, h4⟩ := hp j u' y' (by simpa using e)
      exact ⟨⟨b, by simpa using h1, h2⟩, k, by simpa using h3, h4⟩
theorem plain_of {pins : List (Addr × Obj)} {σ : L2.St} {H : Hp} {s : Shared} {a : Addr} {vs : List V} (I : Inv X pins σ H s) (h : PT X.K H a vs) : ∃ (o : Obj) (its : List Value) (n : Nat), Vals vs its ∧ s.heap.get? a = some o ∧ o.cls = .type "tuple" ∧ o.dict = none ∧ o.data = .seq its.toArray n ∧ vs.length ≤ sizeLine := by
  rcases h with ⟨o, its, n, h1, h2, h3, h4, h5, h6⟩ | ⟨o, h1, h2⟩
  · have l := h6.length
    exact ⟨o, its.toList, n, h6, I.kIn _ _ h1, h2, h3, by simpa using h4, by rw [l]; simpa using h5⟩
  · obtain ⟨g, z, its, r, o', g', c, n, d⟩ := (show ObjOk X.prog X.w H s.heap a (.frz o (.tup vs)) from I.hok a _ h1)
    rw [g] at g'
    cases g'
    exact ⟨o, its, n, r, g, c, h2, d, z⟩
theorem c_dictK (hcalm : X.calm = true) : CallR X (.type "dict") (rDictK X.K) := by
  intro pins s σ H xs us Q I r h
  obtain ⟨a, ps, kvs, rfl, hq, hp, q⟩ := h
  rcases hq with hq | hq
  · exact call_dictP hcalm pins s σ H _ us Q I r ⟨a, ps, kvs, rfl, hq, hp, q⟩
  · obtain ⟨u, rfl, rx⟩ := vals1 r
    cases rx
    obtain ⟨o, its, n, rv, g, c, dn, dt, hz⟩ := plain_of I hq
    have ei := refs_at rv
    subst ei
    rw [List.length_map] at hz
    obtain ⟨prs, vps, rel, l1, l2, hpr⟩ := prs_values I hp
    refine PySem.call_dict_pairs (knd := mixKind X.prog X.w) (kvs := prs) (PairArg.tuple a (ps.map Value.ref).toArray (fun j => ps.getD j 0) vps) (I.ok.hd hcalm) ⟨⟨o, n, g, c, dn, dt⟩, by simp [l2], fun j k v e => ?_⟩ ⟨by rw [l1, l2], fun i key v e => ?_⟩ (by rw [l2]; exact hz) fun h' tk hd' kk => ?_
    · obtain ⟨⟨b, h1, h2⟩, _⟩ := hpr j k v e
      refine ⟨?_, .inl ?_⟩
      · simp [h1]
      · have : ps.getD j 0 = b := by simp [h1]
        show s.heap.IsTuple (ps.getD j 0) #[k, v]
        rw [this]; exact h2
    · obtain ⟨_, k, h3, h4⟩ := hpr i key v e
      exact ⟨k, h3, h4⟩
    · have hm : (s.heap.objs.size == sysModules) = false := beq_eq_false_iff_ne.mpr (Nat.ne_of_gt I.big)
      have hlen : (mergeK [] kvs).length ≤ sizeLine := by
        refine Nat.le_trans (length_mergeK kvs []) ?_
        rw [List.length_nil, Nat.zero_add, rel.length, l1]
        exact hz
      have k2 : ∀ b o, s.heap.get? b = some o → h'.get? b = some o := fun b o e => kk b o (by simp) e
      exact ⟨.ref s.heap.objs.size, upd H s.heap.objs.size (.dK (mergeK [] kvs)), I.laid (t' := tk) k2 (Nat.le_refl _) (show ObjOk X.prog X.w _ _ _ (.dK (mergeK [] kvs)) from ⟨hlen, hm, merged [] prs, KV.merge rel .nil, hd'⟩), rfl, q _ (I.hok.fresh (Nat.le_refl _))⟩
end
section
variable {K : PySem.W.Frag}
def kvsP : List PV → Option (List (Key × PV))
  | [] => some []
  | .tup [x, y] :: r => match keyP x, kvsP r with
    | some k, some ks => some ((k, y) :: ks)
    | _, _ => none
  | .ktup [x, y] :: r => match keyP x, kvsP r with
    | some k, some ks => some ((k, y) :: ks)
    | _, _ => none
  | _ :: _ => none
theorem kvs_of {H : Hp} : ∀ {vs : List V} {ys : List PV} {kvs : List (Key × PV)}, Reps K H vs ys → kvsP ys = some kvs → ∃ (ps : List Addr) (us : List (Key × V)), vs = ps.map V.ref ∧ Paired (fun p kv => SqT K H p [kV kv.1, kv.2]) ps us ∧ RKV K H us kvs
  | _, _, _, .nil, h => by rw [kvsP] at h; cases h; exact ⟨[], [], rfl, .nil, .nil⟩
  | _, y :: ys, kvs, .cons (v := v) (vs := vt) h r, e => by
    have go : ∀ {a : Addr} {us : List V} {x z : PV}, v = .ref a → SqT K H a us → Reps K H us [x, z] → (match keyP x, kvsP ys with | some k, some ks => some ((k, z) :: ks) | _, _ => none) = some kvs → ∃ (ps : List Addr) (us : List (Key × V)), v :: vt = ps.map V.ref ∧ Paired (fun p kv => SqT K H p [kV kv.1, kv.2]) ps us ∧ RKV K H us kvs := by
      intro a us x z ev sq ru e
      cases e1 : keyP x with
      | none => simp [e1] at e
      | some k =>
        cases e2 : kvsP ys with
        | none => simp [e1, e2] at e
        | some l =>
          simp only [e1, e2, Option.some.injEq] at e
          subst e
          obtain ⟨ps, ws, rfl, h1, h2⟩ := kvs_of r e2
          obtain ⟨v1, v2, rfl, r1, r2⟩ := reps2 ru
          have := keyP_of r1 e1
          subst this
          subst ev
          exact ⟨a :: ps, (k, v2) :: ws, rfl, .cons sq h1, .cons r2 h2⟩
    unfold kvsP at e
    split at e
    · rename_i e0; cases e0
    · rename_i x z rr e0
      cases e0
      obtain ⟨a, us, ev, ha, ra⟩ := rep_tup h
      exact go ev (SqT.of ha) ra e
    · rename_i x z rr e0
      cases e0
      obtain ⟨a, us, ev, ha, ra⟩ := rep_ktup h
      exact go ev ha.sq ra e
    · cases e
def noTup : PV → Bool
  | .tup _ => false
  | _ => true
def dDictK : DC := fun xs S Q => match xs with
  | [x] => optD (seqP x S) fun ys => noTup x = true ∧ optD (kvsP ys) fun kvs => ∀ p, S p = none → Q (.loc p) (mset S p (some (.dk (mergeP [] kvs))))
  | _ => False
instance : SimC K (rDictK K) dDictK where
  sim {vs xs H S Q Q'} r m h k := by
    obtain ⟨x, rfl, h⟩ := one_elim h
    obtain ⟨ys, e, hn, h⟩ := opt_elim h
    obtain ⟨kvs, ek, q⟩ := opt_elim h
    obtain ⟨v, rfl, r1⟩ := reps1 r
    have main : ∀ {a : Addr} {vs : List V}, v = .ref a → (SqL K H a vs ∨ PT K H a vs) → Reps K H vs ys → rDictK K [v] H Q := by
      intro a vs ev hs rs
      obtain ⟨ps, us, rfl, h1, h2⟩ := kvs_of rs ek
      subst ev
      refine ⟨a, ps, us, rfl, hs, h1, fun p hp => ?_⟩
      refine k _ _ _ _ (Fr.new hp) (m.new hp fun o eo => ?_) (.loc p) (q p (m.freeS hp))
      cases eo
      exact ⟨_, upd_same, (merge_rep .nil h2).mono (Tx.new hp)⟩
    cases x with
    | ktup zs =>
      cases e
      obtain ⟨a, vs, ev, ha, ra⟩ := rep_ktup r1
      exact main ev (.inr ha) ra
    | loc p =>
      obtain ⟨a, vs, ev, rs, hs⟩ := seq_of m r1 e
      rcases hs with ⟨hs, _⟩ | ⟨_, z | z⟩
      · exact main ev (.inl hs) rs
      · cases z
      · cases z
    | kl zs =>
      cases e
      obtain ⟨a, vs, ev, ha, ra⟩ := rep_kl r1
      exact main ev (.inl ha.sq) ra
    | tup zs => cases hn
    | _ => cases e
end
/-! ### f(k = v, ..), every parameter by its name, in order -/
structure CalW (P : Program) (w : World) (K : PySem.W.Frag) (mg : Str → Option Value) (base : Heap) (k : Nat) (x : Str) (ps : List Str) (sp : Sp) : Prop where
  ex : ∃ (f : Addr) (fd : FuncData), FnOk P w K mg base CX0 k f fd ps sp ∧ mg x = some (.ref f) ∧ PySem.W.keepIn K (.ref f) = true ∧ ∀ (s : Shared) (ws : List Value), K.In s.heap → ws.length = ps.length → BindsTo s fd ⟨[], ps.zip ws⟩ (ps.zip ws)
theorem pe_kw {X : Cx} {k j : Nat} {x : Str} {ps : List Str} {sp : Sp} {kws : List Keyword} {p pos : Pos} {tk : TA} (c : CalW X.prog X.w X.K X.mg X.base k x ps sp) (hr : Room j X.A) (hk : k ≤ j) (hg : Gl X x) (hkw : PK X kws tk)
    (hall : (backToKw pos (keywordEach kws X.env)).all (·.1.isSome) = true := by rfl) (hks : (backToKw pos (keywordEach kws X.env)).filterMap (·.1) = ps := by rfl) (hdb : (x == ("__debug__" : Str)) = false := by decide)
    (hpl : ((backTo pos (starEach [] X.env)).any (·.1) || (backToKw pos (keywordEach kws X.env)).any (·.1.isNone)) = false := by rfl) :
    PE X (.Call (.Name x p) [] kws pos) (tCall sp [] C8.E0 tk) := by
  obtain ⟨f, fd, F, hm, kp, hb⟩ := c.ex
  refine ⟨fun pins s σ H Q I h => ?_⟩
  refine wpAny_Call_Name_kw (ld_glob I hg hm ?_ hdb)
  refine PySem.W.callWith_KW0 (h₀ := X.base) I.ok.mod.kin kp hall ?_ hpl
  refine thn (hkw.run pos pins s σ H _ I h) fun ws s2 ⟨zs, H2, I2, rz, q2⟩ => ⟨I2.kIn, ?_⟩
  rw [hks]
  replace q2 : sp (zs ++ []) H2 Q C8.E0 := q2
  rw [List.append_nil] at q2
  have hl : ws.length = ps.length := by rw [← rz.length]; exact F.len _ _ _ _ q2
  refine wpAny_call (codeAny_mono (F.run X.A X.stack s2 H2 ⟨[], ps.zip ws⟩ ws zs Q C8.E0 (hr.mono hk) I2.env0 (hb s2 ws I2.kIn hl) rz q2) fun r s' hq => ?_)
  cases r with
  | error e => exact hq.elim
  | ok fl =>
    cases fl with
    | ret u => exact I2.after hq
    | next => exact False.elim hq
    | brk => exact False.elim hq
    | cont => exact False.elim hq
end DL

/-! A law's own def: it is called from outside, so no repr is under way around it. -/
namespace DL
open PySem PySem.Spec PyProof.Rows L2
/-- FnOk where no repr is under way -/
structure FnG (P : Program) (w : World) (K : PySem.W.Frag) (mg : Str → Option Value) (base : Heap) (k : Nat) (f : Addr) (fd : FuncData) (ps : List Str) (sp : Sp) : Prop where
  len : ∀ vs H Q E, sp vs H Q E → vs.length = ps.length
  run : ∀ (A : Around) (outer : List PySem.Env) (s : Shared) (H : Hp) (args : Args) (us : List Value) (vs : List V) (Q : VK) (E : XK), A.guards = some [] → Room k A → Env0 P w K mg base A outer s H → BindsTo s fd args (ps.zip us) → Vals vs us → sp vs H Q E →
    codeAny (model P w) A (.call (.ref f) args) (CR CX0 outer P w H s Q E) s
section
variable {P : Program} {w : World} {K : PySem.W.Frag} {mg : Str → Option Value} {base : Heap}
theorem fnG {x qual : Str} {st : Stmt} {f : Addr} {fd : FuncData} {N ps : List Str} {k : Nat} {sp : Sp} (F : Fun K x qual st f fd) (S : FnScope N ps (defScope st)) (len : ∀ vs H Q E, sp vs H Q E → vs.length = ps.length)
    (hbody : ∀ (cdv : Value) (A : Around) (outer : List PySem.Env) (s : Shared) (H : Hp) (vs : List V) (Q : VK) (E : XK), A.guards = some [] → Room k (A.deeper (envOfC qual (defScope st) s.heap.objs.size f cdv)) → sp vs H Q E →
      ∃ t, PSs (cxOf CX0 P w K mg base N qual (defScope st) f cdv A outer s H E).nox (defBody st) t ∧ t { nx := fun _ H' => Q .non H', rt := Q } (L2.start N vs) H) : FnG P w K mg base (k + 1) f fd ps sp := by
  obtain ⟨oc, od, kV, doc, pm, an, cdv, ct, osl, rfl, lk, hcd⟩ := F.ex
  refine ⟨len, fun A outer s H args us vs Q E hgd hr e0 hb r hsp => ?_⟩
  have hl := len _ _ _ _ hsp
  have KX : K.In s.heap := e0.mod.kin.keeps fun b o e => (e0.bs b o e).1
  have lim : s.heap.NoLimit := e0.mod.nolimit.keeps fun b o e => (e0.bs b o e).1
  have hkind : ∀ y ∈ ps.zip us, (defScope st).names.lookup y.1 = some .local ∨ ((defScope st).names.lookup y.1 = some .cell ∧ ((cellsFrom (s.heap.objs.size + 1) (defScope st).names []).lookup y.1).isSome = true) := fun ⟨n, v⟩ hy => by
    rcases S.par n (List.of_mem_zip hy).1 with q | q
    · exact .inl q
    · exact .inr ⟨q, PySem.W.cellsFrom_some _ _ _ (.inl q)⟩
  refine codeAny_call_function hr.depth (KX _ _ lk) rfl S.co S.gen rfl (PySem.W.codeRec_of KX hcd) (hb _ _ _ _ ?_)
  refine wpAny_newFunctionEnv_cells S.kind hkind fun env he s1 x => ?_
  subst he
  refine ⟨lim.keeps x.toInCall.keep, codeAny_func ?_⟩
  obtain ⟨t, ht0, hq⟩ := hbody cdv A outer s H vs Q E hgd (hr.deeper _) hsp
  have ht := ht0.nox
  have I : Inv (cxOf CX0 P w K mg base N qual (defScope st) f cdv A outer s H E) [] (L2.start N vs) H s1 := inv_start S hr.hd e0 hl r x
  refine wpAny_mono (ht.run [] s1 (L2.start N vs) H _ I hq) (fun fl s' hs => ?_) fun e s' hs => hs
  have fin : ∀ {σ' : L2.St} {H' : Hp} {v : V} {u : Value}, Inv (cxOf CX0 P w K mg base N qual (defScope st) f cdv A outer s H E) [] σ' H' s' → RelV v u → Q v H' → CE outer P w H s Q u s' :=
    fun {σ' H' v u} J rv q => ⟨v, H', J.os, J.bare, J.base, J.hok, rv, q⟩
  cases fl with
  | ret u =>
    obtain ⟨v, σ', H', J, rv, q⟩ := hs
    exact fin J rv q
  | next =>
    obtain ⟨σ', H', J, q⟩ := hs
    exact fin (v := V.non) (u := Value.none) J rfl q
  | brk =>
    obtain ⟨_, _, _, q⟩ := hs
    exact False.elim q
  | cont =>
    obtain ⟨_, _, _, q⟩ := hs
    exact False.elim q
/-- over trees -/
theorem fnDG {x qual : Str} {st : Stmt} {f : Addr} {fd : FuncData} {N ps : List Str} {k : Nat} {G : DSp} (F : Fun K x qual st f fd) (Sc : FnScope N ps (defScope st)) (len : ∀ xs S Q, G xs S Q → xs.length = ps.length)
    (hbody : ∀ (cdv : Value) (A : Around) (outer : List PySem.Env) (s : Shared) (H : Hp) (E : XK), A.guards = some [] → Room k (A.deeper (envOfC qual (defScope st) s.heap.objs.size f cdv)) →
      ∃ t, PSs (cxOf CX0 P w K mg base N qual (defScope st) f cdv A outer s H E).nox (defBody st) t ∧ ∃ d, SimS K t d ∧ ∀ xs S Q, G xs S Q → d { nx := fun _ S' => Q .non S', rt := Q } (startD N xs) S) : FnG P w K mg base (k + 1) f fd ps (spD K G) := by
  refine fnG F Sc (fun vs H Q E h => ?_) (fun cdv A outer s H vs Q E hgd hr h => ?_)
  · obtain ⟨xs, S, Q', r, m, g, _⟩ := h
    rw [r.length]
    exact len xs S Q' g
  · obtain ⟨t, ht, d, hd, hb⟩ := hbody cdv A outer s H E hgd hr
    obtain ⟨xs, S, Q', r, m, g, k'⟩ := h
    refine ⟨t, ht, hd.sim (env_start r) m (hb xs S Q' g) ⟨fun σ' ρ' H' S' f' m' e' q => k' .non .non H' S' f' m' .non q, k', fun _ _ _ _ _ _ _ q => q, fun _ _ _ _ _ _ _ q => q⟩⟩
end
/-- the law called behind the top, its promise where no repr is under way -/
theorem law_callG {P : Program} {w : World} {K : PySem.W.Frag} {mg mb : Str → Option Value} {k : Nat} {fa a : Addr} {fd : FuncData} {x : Str} {sp : Sp} {s₁ : Shared} {vs : List Value} {ns : List Int}
    (KX : K.In s₁.heap) (hns : s₁.heap.Ns mainGlobals mg) (hb : s₁.heap.Ns builtinsNs mb) (hbb : ∀ x : Str, x ≠ "__name__" → mb x = bootBuiltins x) (hlim : s₁.heap.NoLimit) (hg : s₁.gens = #[])
    (ha : s₁.heap.get? a = some { cls := .type "list", data := .seq vs.toArray }) (hi : IntsAre vs ns) (hl : ns.length ≤ sizeLine) (hr : Room k callerA)
    (F : ∀ base : Heap, K.In base → base.Ns mainGlobals mg → FnG P w K mg base k fa fd [x] sp) (hbind : ∀ (s : Shared) (u : Value), BindsTo s fd ⟨[u], []⟩ [(x, u)])
    (hsp : ∀ H : Hp, Only H → SqL K H a (ns.map V.int) → sp [.ref a] H (fun v _ => v = .bl true) fun _ _ _ => False) :
    codeAny (model P w) callerA (.call (.ref fa) ⟨[.ref a], []⟩) (fun r s' => r = .ok (.ret (.bool true)) ∧ OldK s₁.heap s'.heap ∧ s'.os = s₁.os ∧ AllBare s'.gens) s₁ := by
  have rv := vals_ints hi
  have lenV := hi.length
  have core : ∀ H : Hp, Only H → SqL K H a (ns.map V.int) → HOk P w H s₁.heap → (∀ b, H b ≠ none → b = a) → (H a ≠ none → K.lookup a = none) →
      codeAny (model P w) callerA (.call (.ref fa) ⟨[.ref a], []⟩) (fun r s' => r = .ok (.ret (.bool true)) ∧ OldK s₁.heap s'.heap ∧ s'.os = s₁.os ∧ AllBare s'.gens) s₁ := by
    intro H hO hS hok hA hK
    have noA : ∀ {b : Addr} {o : Obj} {es : Array DictEntry} {ep : Nat}, s₁.heap.get? b = some o → o.data = .dict es ep → H b = none := fun {b o es ep} e d => by
      cases q : H b with
      | none => rfl
      | some u =>
        have e' : b = a := hA b (by rw [q]; simp)
        subst e'
        rw [ha] at e; cases e
        have d' : Data.seq vs.toArray _ = Data.dict es ep := d
        cases d'
    have nsK : ∀ {b : Addr} {m : Str → Option Value}, s₁.heap.Ns b m → (hidT s₁.heap H).Ns b m := fun {b m} ⟨o, es, ep, e, d, r⟩ => ⟨o, es, ep, hidT_get e (noA e d), d, r⟩
    have hKb : K.In (hidT s₁.heap H) := fun b o e => hidT_get (KX b o e) (by
      cases q : H b with
      | none => rfl
      | some u =>
        have e' : b = a := hA b (by rw [q]; simp)
        subst e'
        rw [hK (by rw [q]; simp)] at e; cases e)
    have hM : Mod K mg (hidT s₁.heap H) := ⟨hKb, nsK hns, ⟨mb, nsK hb, hbb⟩, let ⟨mc, h1, h2⟩ := hlim; ⟨mc, nsK h1, h2⟩⟩
    have e0 : Env0 P w K mg (hidT s₁.heap H) callerA [] s₁ H := ⟨rfl, hM, fun b o e => of_hidT e, Nat.le_of_eq (hidT_size _ _), trivial, fun b hb => absurd (show b ∈ ([] : List Addr) from hb) (by simp), hok, .of_eq hg⟩
    refine codeAny_mono ((F _ hKb (nsK hns)).run callerA [] s₁ H ⟨[.ref a], []⟩ [.ref a] [.ref a] _ _ rfl hr e0 (hbind s₁ (.ref a)) (.cons rfl .nil) (hsp H hO hS)) fun r s' h => ?_
    cases r with
    | error e => exact h.elim
    | ok fl =>
      cases fl with
      | next => exact False.elim h
      | brk => exact False.elim h
      | cont => exact False.elim h
      | ret u =>
        obtain ⟨v, H', os, bare, un, hok', r', q⟩ := h
        have q' : v = .bl true := q
        subst q'
        obtain rfl : u = Value.bool true := r'
        refine ⟨rfl, OldK.of_keep fun b o e => ?_, os, bare⟩
        cases q : H b with
        | none => exact un.keep b o e q (by intro z; exact absurd (show b ∈ ([] : List Addr) from z) (by simp)) (by simp)
        | some u =>
          rcases hO b with z | ⟨ob, xs, z⟩
          · rw [q] at z; cases z
          · have z2 := un.frzs b ob _ z
            obtain ⟨e1, _⟩ := hok b _ z
            obtain ⟨e2, _⟩ := hok' b _ z2
            rw [e] at e1; cases e1
            exact e2
  cases hk : K.lookup a with
  | some o =>
    have e := KX a o hk
    rw [ha] at e
    cases e
    refine core (fun _ => none) (fun _ => .inl rfl) (.inr ⟨_, vs.toArray, _, hk, rfl, rfl, rfl, by rw [List.size_toArray, lenV]; exact hl, by simpa using rv⟩) (fun b u z => by have z' : (none : Option HO) = some u := z; cases z') (fun b z => absurd rfl z) fun z => absurd rfl z
  | none =>
    refine core (fun b => if b = a then some (.frz { cls := .type "list", data := .seq vs.toArray } (.lst (ns.map V.int))) else none) (fun b => ?_) (.inl (.inr ⟨{ cls := .type "list", data := .seq vs.toArray }, if_pos rfl⟩)) (fun b u z => ?_) (fun b z => ?_) fun _ => hk
    · by_cases hb : b = a
      · exact .inr ⟨_, _, if_pos hb⟩
      · exact .inl (if_neg hb)
    · by_cases hb : b = a
      · have z' := (if_pos hb).symm.trans z
        cases z'
        subst hb
        exact ⟨ha, by rw [List.length_map]; exact hl, vs, _, rv, ha⟩
      · have z' := (if_neg hb).symm.trans z
        cases z'
    · by_cases hb : b = a
      · exact hb
      · exact absurd (if_neg hb) z
/-- what k_head leaves, from the law's promise -/
theorem walkG {l : PySem.W.OpenLaw} {n k : Nat} {q : Program} {loose : List Str} {XP : (Str → Option Value) → Heap → Prop} {YP : World → Heap → Prop} {d : DefRec} {K : Params → PySem.W.Frag} {sp : World → Sp} {x : Str}
    (hn : l.most = some n) (hn2 : n ≤ sizeLine) (hdf : d.params.defaults = []) (hr : Room k callerA)
    (hY : ∀ (w : World) (h : Heap), YP w h → (K w.params).In h)
    (F : ∀ (w : World) (mg : Str → Option Value) (fa : Addr) (h : Heap), (K w.params).In h → h.Ns mainGlobals mg → mg d.name = some (.ref fa) →
      ∃ fd : FuncData, (∀ (s : Shared) (u : Value), BindsTo s fd ⟨[u], []⟩ [(x, u)]) ∧
        ∀ base : Heap, (K w.params).In base → base.Ns mainGlobals mg → FnG l.prog w (K w.params) mg base k fa fd [x] (sp w))
    (hsp : ∀ (w : World) (H : Hp) (a : Addr) (ns : List Int), ns.length ≤ n → Only H → SqL (K w.params) H a (ns.map V.int) → sp w [.ref a] H (fun v _ => v = .bl true) fun _ _ _ => False) :
    PySem.W.WalkO q loose XP YP l.row.toRowW d [] (fun f vs => PySem.call f vs) := by
  refine Att.attach_call hn hdf fun w s₀ s₁ mg mb fa o pm cd doc a vs ns G Y ho hd hcd hmg hobj hints hlen hg => ?_
  have KX := hY w _ Y
  obtain ⟨fd, hb, hF⟩ := F w mg fa _ KX G.T.g hmg
  exact law_callG KX G.T.g G.T.b G.T.builtins G.T.nolimit hg hobj hints (Nat.le_trans hlen hn2) hr hF hb (fun H hO hS => hsp w H a ns hlen hO hS)
/-- the script, a list that is only read -/
theorem reps_ints {K : PySem.W.Frag} {H : Hp} : ∀ ns : List Int, Reps K H (ns.map V.int) (ns.map PV.int)
  | [] => .nil
  | n :: ns => .cons (.int n) (reps_ints ns)
theorem script_rep {K : PySem.W.Frag} {H : Hp} {a : Addr} {ns : List Int} (hO : Only H) (h : SqL K H a (ns.map V.int)) : Rep K H (.ref a) (.kl (ns.map PV.int)) := by
  refine .kl ?_ (reps_ints ns)
  rcases h with (h | ⟨o, h⟩) | h
  · rcases hO a with z | ⟨o, xs, z⟩
    · rw [h] at z; cases z
    · rw [h] at z; cases z
  · exact .inl ⟨o, h⟩
  · exact .inr h
end DL

/-! Loops by an invariant; what stands stays. -/
namespace DL
open PySem PySem.Spec PyProof.Rows L2
theorem lcR_inv {g : DG} {tt : DT} {te : DE} {ρw : DSt} {lk : Lk} {Q : DK} (I : List PV → List PV → Mp → Prop)
    (step : ∀ x r acc S1, I (x :: r) acc S1 → ∀ R : List PV → Mp → Prop, (∀ acc S, I r acc S → R acc S) → g x ρw S1 fun ρ2 S2 => tt ρ2 S2 fun b S3 => if b = true then te ρ2 S3 fun y S4 => R (acc ++ [y]) S4 else R acc S3)
    (fin : ∀ acc S1 p, I [] acc S1 → S1 p = none → bkS lk S1 p = none → Q (.loc p) (mset (bkS lk S1) p (some (.lst acc)))) : ∀ (xs acc : List PV) (S : Mp), I xs acc S → lcR g tt te ρw lk Q xs acc S
  | [], acc, S, h => fun p h1 h2 => fin acc S p h h1 h2
  | x :: xs, acc, S, h => step x xs acc S h (fun acc S => lcR g tt te ρw lk Q xs acc S) fun acc S h => lcR_inv I step fin xs acc S h
theorem forR_inv {g : DG} {tb : DS} {D : DEnds} (I : List PV → DSt → Mp → Prop)
    (step : ∀ x r ρ S, I (x :: r) ρ S → ∀ N : DSt → Mp → Prop, (∀ ρ S, I r ρ S → N ρ S) → g x ρ S fun ρ2 S2 => tb { nx := N, rt := D.rt, bk := D.nx, ct := N } ρ2 S2)
    (fin : ∀ ρ S, I [] ρ S → D.nx ρ S) : ∀ (xs : List PV) (ρ : DSt) (S : Mp), I xs ρ S → forR g tb D xs ρ S
  | [], ρ, S, h => fin ρ S h
  | x :: xs, ρ, S, h => step x xs ρ S h (forR g tb D xs) fun ρ S h => forR_inv I step fin xs ρ S h
/-- all that stands stays -/
def Ext (S S' : Mp) : Prop := ∀ a o, S a = some o → S' a = some o
theorem Ext.refl {S : Mp} : Ext S S := fun _ _ h => h
theorem Ext.trans {S S1 S2 : Mp} (a : Ext S S1) (b : Ext S1 S2) : Ext S S2 := fun c o h => b c o (a c o h)
theorem Ext.new {S : Mp} {p : Addr} {o : Option MO} (h : S p = none) : Ext S (mset S p o) := fun a u e => by
  rw [mset_ne (fun z => by rw [z, h] at e; cases e)]
  exact e
theorem Ext.new2 {S S1 : Mp} {p : Addr} {o : Option MO} (e : Ext S S1) (h : S1 p = none) : Ext S (mset S1 p o) := e.trans (Ext.new h)
theorem Ext.mset2 {S S1 : Mp} {p : Addr} {o : Option MO} (h : S p = none) (e : Ext S S1) : Ext S (mset S1 p o) := fun a u q => by
  rw [mset_ne (fun z => by rw [z, h] at q; cases q)]
  exact e a u q
theorem lst_same {S : Mp} {p : Addr} {xs : List PV} : lstP (mset S p (some (.lst xs))) p = some xs := by unfold lstP; rw [mset_same]
theorem lst_at {S : Mp} {p : Addr} {xs : List PV} (h : S p = some (.lst xs)) : lstP S p = some xs := by unfold lstP; rw [h]
theorem seq_at {S : Mp} {p : Addr} {xs : List PV} (h : S p = some (.lst xs)) : seqP (.loc p) S = some xs := by simp only [seqP, h]
theorem seq_same {S : Mp} {p : Addr} {xs : List PV} : seqP (.loc p) (mset S p (some (.lst xs))) = some xs := seq_at mset_same
theorem lr_at {S : Mp} {p : Addr} {xs : List PV} (h : S p = some (.lst xs)) : lrP S p = some ([(p, .lst xs)], xs) := by unfold lrP; rw [h]
theorem lr_same {S : Mp} {p : Addr} {xs : List PV} : lrP (mset S p (some (.lst xs))) p = some ([(p, .lst xs)], xs) := lr_at mset_same
/-- a comprehension that makes nothing lasting: the items by f -/
theorem lcR_map {g : DG} {tt : DT} {te : DE} {ρw : DSt} {lk : Lk} {Q : DK} {S : Mp} (f : PV → List PV) {xs : List PV}
    (step : ∀ x ∈ xs, ∀ S1, Ext S S1 → ∀ (acc : List PV) (R : List PV → Mp → Prop), (∀ S2, Ext S1 S2 → R (acc ++ f x) S2) → g x ρw S1 fun ρ2 S2 => tt ρ2 S2 fun b S3 => if b = true then te ρ2 S3 fun y S4 => R (acc ++ [y]) S4 else R acc S3)
    (fin : ∀ S1 p, Ext S S1 → S1 p = none → bkS lk S1 p = none → Q (.loc p) (mset (bkS lk S1) p (some (.lst (xs.flatMap f))))) : lcR g tt te ρw lk Q xs [] S := by
  refine lcR_inv (fun r acc S1 => Ext S S1 ∧ acc ++ r.flatMap f = xs.flatMap f ∧ ∀ x ∈ r, x ∈ xs) (fun x r acc S1 h R hR => ?_) (fun acc S1 p h h1 h2 => ?_) xs [] S ⟨Ext.refl, by simp, fun _ h => h⟩
  · obtain ⟨h1, h2, h3⟩ := h
    refine step x (h3 x List.mem_cons_self) S1 h1 acc R fun S2 e => hR _ _ ⟨h1.trans e, ?_, fun y hy => h3 y (List.mem_cons_of_mem _ hy)⟩
    rw [← h2, List.flatMap_cons, List.append_assoc]
  · obtain ⟨h3, h4, _⟩ := h
    have := fin S1 p h3 h1 h2
    rw [← h4] at this
    simpa using this
theorem allB_true : ∀ {xs : List PV}, (∀ x ∈ xs, x = .bl true) → allB xs = some true
  | [], _ => rfl
  | x :: xs, h => by
    have e := h x List.mem_cons_self
    subst e
    rw [allB, allB_true fun y hy => h y (List.mem_cons_of_mem _ hy)]
    rfl
end DL
namespace DL
open PySem L2
theorem eqP_int {i j : Int} : eqP (.int i) (.int j) = decide (i = j) := by simp [eqP, unsc]
theorem eqP_str {i j : Str} : eqP (.str i) (.str j) = decide (i = j) := by simp [eqP, unsc]
theorem scal_int {i j : Int} : scal (unsc (.int i)) (unsc (.int j)) = true := rfl
theorem scal_str {i j : Str} : scal (unsc (.str i)) (unsc (.str j)) = true := rfl
end DL
namespace DL
open PySem L2
section
variable {K : PySem.W.Frag}
def dDNewK : DE := fun _ S Q => ∀ p, S p = none → Q (.loc p) (mset S p (some (.dk [])))
instance : SimE K tDNewK dDNewK where
  sim {σ ρ H S Q Q'} e m h k := fun p hp => k _ _ _ _ (Fr.new hp) (m.new hp fun o eo => by cases eo; exact ⟨[], upd_same, .nil⟩) (.loc p) (h p (m.freeS hp))
end
end DL

/-! e.f within a tuple of targets. -/
namespace DL
open PySem PySem.Spec PyProof.Rows L2
def gFld (K : PySem.W.Frag) (ta : TE) (f : Str) : TG := fun v σ H Q => ta σ H fun x H1 => ∃ a C dx fs, x = .ref a ∧ H1 a = some (.ins C dx fs) ∧ Cls K C ∧ NoAttr K C f ∧ fs.length < 1000 ∧ Q σ (upd H1 a (.ins C dx (putF f v fs)))
theorem pg_fld {X : Cx} {o : Expr} {f : Str} {pos : Pos} {ta : TE} (ha : PE X o ta) : PG X (.Attribute o f pos) (gFld X.K ta f) := by
  refine ⟨fun pins s σ H v u Q I r h => ?_⟩
  rw [assign_Attribute]
  refine wpAny_bind (wpAny_holding (thn (ha.run pins s σ H _ I h) fun ov s1 ⟨x, H1, I1, r1, a, C, dx, fs, ex, ea, c, n, l, q⟩ => ?_))
  subst ex
  obtain rfl : ov = Value.ref a := r1
  refine wpAny_bind (wpAny_standAt (wpAny_bind (wpAny_holding (setattr_ok I1 ea c n l r fun s3 I3 => ?_))))
  exact wpAny_release ⟨σ, _, I3, q⟩
section
variable {K : PySem.W.Frag}
def dgFld (K : PySem.W.Frag) (a : DE) (f : Str) : DG := fun y ρ S Q => a ρ S fun x S2 => match x with
  | .loc p => ∃ C fs, S2 p = some (.ins C fs) ∧ Cls K C ∧ NoAttr K C f ∧ fs.length < 1000 ∧ Q ρ (mset S2 p (some (.ins C (putP f y fs))))
  | _ => False
instance {f : Str} {ta : TE} {da : DE} [ha : SimE K ta da] : SimG K (gFld K ta f) (dgFld K da f) [] where
  sim {v y σ ρ H S Q Q'} r e m h k := ha.sim e m h fun u x H2 S2 f2 m2 r2 q2 => by
    obtain ⟨p, rfl, C, fs, hp, c, n, hl, q⟩ := loc_elim q2
    cases rep_loc r2
    obtain ⟨dx, us, hH, rk⟩ := m2 p _ hp
    have tx := Tx.put (u := .ins C dx (putF f v us)) (m2 p _ hp)
    refine ⟨p, C, dx, us, rfl, hH, c, n, by rw [rk.length]; exact hl, k _ _ _ _ (f2.trans (Fr.put hp)) (m2.put hp fun o eo => ?_) ((e.mono (f2.tx m)).mono tx) rfl (fun _ _ => rfl) q⟩
    cases eo
    exact ⟨dx, _, upd_same, putP_rep ((r.mono (f2.tx m)).mono tx) (rk.mono tx)⟩
theorem dcR_inv {w : World} {g : DG} {tt : DT} {tk tv : DE} {ρw : DSt} {lk : Lk} {Q : DK} (I : List PV → List PV → List NestedKey → Mp → Prop)
    (step : ∀ x r ks nks S1, I (x :: r) ks nks S1 → ∀ R : List PV → List NestedKey → Mp → Prop, (∀ ks nks S, I r ks nks S → R ks nks S) → g x ρw S1 fun ρ2 S2 => tt ρ2 S2 fun b S3 => if b = true then tk ρ2 S3 fun y S4 => tv ρ2 S4 fun z S5 => z = .bl true ∧ isTupP y = true ∧ optD (toNK y) fun k => k.depth ≤ 8 ∧ R (addP nks ks k y) (addK nks k) S5 else R ks nks S3)
    (fin : ∀ ks nks S p, I [] ks nks S → S p = none → bkS lk S p = none → Q (.loc p) (mset (bkS lk S) p (some (ndM w p nks ks)))) : ∀ (xs ks : List PV) (nks : List NestedKey) (S : Mp), I xs ks nks S → dcR w g tt tk tv ρw lk Q xs ks nks S
  | [], ks, nks, S, h => fun p h1 h2 => fin ks nks S p h h1 h2
  | x :: xs, ks, nks, S, h => step x xs ks nks S h (fun ks nks S => dcR w g tt tk tv ρw lk Q xs ks nks S) fun ks nks S h => dcR_inv I step fin xs ks nks S h
theorem toNKs_add {ks : List PV} {nks : List NestedKey} {y : PV} {k : NestedKey} (h : toNKs ks = some nks) (e : toNK y = some k) : toNKs (addP nks ks k y) = some (addK nks k) := by
  unfold addP addK
  split
  · exact h
  · exact toNKs_snoc h e
theorem mem_addK {nks : List NestedKey} {k z : NestedKey} : z ∈ addK nks k ↔ z ∈ nks ∨ z = k := by
  unfold addK
  split
  · rename_i h
    exact ⟨.inl, fun q => q.elim id fun e => e ▸ h⟩
  · rw [List.mem_append, List.mem_singleton]
end
end DL

namespace K06
open PySem PySem.Spec PyProof.Rows L2 DL
def top (i : Nat) : Stmt := PySem.Challenge.pw_leastkind_k06_flows_and_clashes.main.body.getD i (.Pass ⟨0, 0, 0, 0⟩)
abbrev s_ones : Stmt := top 1
abbrev sc_ones_N : List Str := ["number", "found", "left", "low"]
theorem sc_ones : FnScope sc_ones_N ["number"] (defScope s_ones) := ⟨rfl, rfl, rfl, by decide +kernel, rfl, by decide +kernel, by decide +kernel⟩
abbrev s_is_whole : Stmt := top 10
abbrev sc_is_whole_N : List Str := ["thing", "low", "high"]
theorem sc_is_whole : FnScope sc_is_whole_N ["thing", "low", "high"] (defScope s_is_whole) := ⟨rfl, rfl, rfl, by decide +kernel, rfl, by decide +kernel, by decide +kernel⟩
abbrev s_is_label : Stmt := top 11
abbrev sc_is_label_N : List Str := ["thing", "sign"]
theorem sc_is_label : FnScope sc_is_label_N ["thing"] (defScope s_is_label) := ⟨rfl, rfl, rfl, by decide +kernel, rfl, by decide +kernel, by decide +kernel⟩
abbrev s_is_tag : Stmt := top 12
abbrev sc_is_tag_N : List Str := ["thing", "sign"]
theorem sc_is_tag : FnScope sc_is_tag_N ["thing"] (defScope s_is_tag) := ⟨rfl, rfl, rfl, by decide +kernel, rfl, by decide +kernel, by decide +kernel⟩
abbrev s_are_rising : Stmt := top 13
abbrev sc_are_rising_N : List Str := ["row", "one", "other"]
theorem sc_are_rising : FnScope sc_are_rising_N ["row"] (defScope s_are_rising) := ⟨rfl, rfl, rfl, by decide +kernel, rfl, by decide +kernel, by decide +kernel⟩
abbrev s_has_word : Stmt := top 14
abbrev sc_has_word_N : List Str := ["thing"]
theorem sc_has_word : FnScope sc_has_word_N ["thing"] (defScope s_has_word) := ⟨rfl, rfl, rfl, by decide +kernel, rfl, by decide +kernel, by decide +kernel⟩
abbrev s_are_parts : Stmt := top 24
abbrev sc_are_parts_N : List Str := ["thing", "many", "is_name", "part"]
theorem sc_are_parts : FnScope sc_are_parts_N ["thing", "many", "is_name"] (defScope s_are_parts) := ⟨rfl, rfl, rfl, by decide +kernel, rfl, by decide +kernel, by decide +kernel⟩
abbrev s_is_head : Stmt := top 25
abbrev sc_is_head_N : List Str := ["thing", "many"]
theorem sc_is_head : FnScope sc_is_head_N ["thing", "many"] (defScope s_is_head) := ⟨rfl, rfl, rfl, by decide +kernel, rfl, by decide +kernel, by decide +kernel⟩
abbrev s_do_clash : Stmt := top 26
abbrev sc_do_clash_N : List Str := ["lower", "upper", "there", "label", "node", "tag"]
theorem sc_do_clash : FnScope sc_do_clash_N ["lower", "upper"] (defScope s_do_clash) := ⟨rfl, rfl, rfl, by decide +kernel, rfl, by decide +kernel, by decide +kernel⟩
abbrev s_flows_of_heads : Stmt := top 27
abbrev sc_flows_of_heads_N : List Str := ["lower", "upper", "word", "there", "name", "node"]
theorem sc_flows_of_heads : FnScope sc_flows_of_heads_N ["lower", "upper"] (defScope s_flows_of_heads) := ⟨rfl, rfl, rfl, by decide +kernel, rfl, by decide +kernel, by decide +kernel⟩
abbrev s_are_heads : Stmt := top 32
abbrev sc_are_heads_N : List Str := ["thing", "many", "shut", "row"]
theorem sc_are_heads : FnScope sc_are_heads_N ["thing", "many", "shut"] (defScope s_are_heads) := ⟨rfl, rfl, rfl, by decide +kernel, rfl, by decide +kernel, by decide +kernel⟩
abbrev s_is_pair : Stmt := top 33
abbrev sc_is_pair_N : List Str := ["thing", "many", "one"]
theorem sc_is_pair : FnScope sc_is_pair_N ["thing", "many"] (defScope s_is_pair) := ⟨rfl, rfl, rfl, by decide +kernel, rfl, by decide +kernel, by decide +kernel⟩
abbrev s_are_pairs : Stmt := top 34
abbrev sc_are_pairs_N : List Str := ["thing", "many", "pair"]
theorem sc_are_pairs : FnScope sc_are_pairs_N ["thing", "many"] (defScope s_are_pairs) := ⟨rfl, rfl, rfl, by decide +kernel, rfl, by decide +kernel, by decide +kernel⟩
abbrev s_is_graph_value : Stmt := top 35
abbrev sc_is_graph_value_N : List Str := ["thing", "many", "lowers", "uppers", "edges", "allowed"]
theorem sc_is_graph_value : FnScope sc_is_graph_value_N ["thing"] (defScope s_is_graph_value) := ⟨rfl, rfl, rfl, by decide +kernel, rfl, by decide +kernel, by decide +kernel⟩
abbrev s_need_graph : Stmt := top 36
abbrev sc_need_graph_N : List Str := ["graph"]
theorem sc_need_graph : FnScope sc_need_graph_N ["graph"] (defScope s_need_graph) := ⟨rfl, rfl, rfl, by decide +kernel, rfl, by decide +kernel, by decide +kernel⟩
abbrev s_heads_by_node : Stmt := top 37
abbrev sc_heads_by_node_N : List Str := ["rows", "found", "number", "node", "head"]
theorem sc_heads_by_node : FnScope sc_heads_by_node_N ["rows"] (defScope s_heads_by_node) := ⟨rfl, rfl, rfl, by decide +kernel, rfl, by decide +kernel, by decide +kernel⟩
abbrev s_is_graph : Stmt := top 38
abbrev sc_is_graph_N : List Str := ["thing"]
theorem sc_is_graph : FnScope sc_is_graph_N ["thing"] (defScope s_is_graph) := ⟨rfl, rfl, rfl, by decide +kernel, rfl, by decide +kernel, by decide +kernel⟩
abbrev s_Closing___init__ : Stmt := inClass (top 40) 0
abbrev sc_Closing___init___N : List Str := ["self", "graph", "many", "lowers", "uppers", "edges", "allowed", "x", "pair", "y"]
theorem sc_Closing___init__ : FnScope sc_Closing___init___N ["self", "graph"] (defScope s_Closing___init__) := ⟨rfl, rfl, rfl, by decide +kernel, rfl, by decide +kernel, by decide +kernel⟩
abbrev s_Closing_met : Stmt := inClass (top 40) 1
abbrev sc_Closing_met_N : List Str := ["self", "x", "y", "a", "lower", "b", "upper", "word", "one", "far"]
theorem sc_Closing_met : FnScope sc_Closing_met_N ["self", "x", "y"] (defScope s_Closing_met) := ⟨rfl, rfl, rfl, by decide +kernel, rfl, by decide +kernel, by decide +kernel⟩
abbrev s_Closing_joined : Stmt := inClass (top 40) 2
abbrev sc_Closing_joined_N : List Str := ["self", "step", "x", "y", "why", "many", "ahead", "behind", "one", "new", "far"]
theorem sc_Closing_joined : FnScope sc_Closing_joined_N ["self", "step"] (defScope s_Closing_joined) := ⟨rfl, rfl, rfl, by decide +kernel, rfl, by decide +kernel, by decide +kernel⟩
abbrev s_Closing_closed : Stmt := inClass (top 40) 3
abbrev sc_Closing_closed_N : List Str := ["self", "x"]
theorem sc_Closing_closed : FnScope sc_Closing_closed_N ["self"] (defScope s_Closing_closed) := ⟨rfl, rfl, rfl, by decide +kernel, rfl, by decide +kernel, by decide +kernel⟩
abbrev s_closing_of : Stmt := top 41
abbrev sc_closing_of_N : List Str := ["graph", "closing"]
theorem sc_closing_of : FnScope sc_closing_of_N ["graph"] (defScope s_closing_of) := ⟨rfl, rfl, rfl, by decide +kernel, rfl, by decide +kernel, by decide +kernel⟩
abbrev s_closed_rows : Stmt := top 42
abbrev sc_closed_rows_N : List Str := ["graph"]
theorem sc_closed_rows : FnScope sc_closed_rows_N ["graph"] (defScope s_closed_rows) := ⟨rfl, rfl, rfl, by decide +kernel, rfl, by decide +kernel, by decide +kernel⟩
abbrev s_flow_pairs : Stmt := top 43
abbrev sc_flow_pairs_N : List Str := ["rows", "found", "x", "row", "y"]
theorem sc_flow_pairs : FnScope sc_flow_pairs_N ["rows"] (defScope s_flow_pairs) := ⟨rfl, rfl, rfl, by decide +kernel, rfl, by decide +kernel, by decide +kernel⟩
abbrev s_flows : Stmt := top 44
abbrev sc_flows_N : List Str := ["graph"]
theorem sc_flows : FnScope sc_flows_N ["graph"] (defScope s_flows) := ⟨rfl, rfl, rfl, by decide +kernel, rfl, by decide +kernel, by decide +kernel⟩
abbrev s_clashes_in : Stmt := top 46
abbrev sc_clashes_in_N : List Str := ["graph", "rows", "many", "lowers", "uppers", "edges", "allowed", "known", "found", "pair", "a", "x", "lower", "b", "y", "upper"]
theorem sc_clashes_in : FnScope sc_clashes_in_N ["graph", "rows"] (defScope s_clashes_in) := ⟨rfl, rfl, rfl, by decide +kernel, rfl, by decide +kernel, by decide +kernel⟩
abbrev s_clashes : Stmt := top 47
abbrev sc_clashes_N : List Str := ["graph"]
theorem sc_clashes : FnScope sc_clashes_N ["graph"] (defScope s_clashes) := ⟨rfl, rfl, rfl, by decide +kernel, rfl, by decide +kernel, by decide +kernel⟩
abbrev s__law_deck : Stmt := top 49
abbrev sc__law_deck_N : List Str := ["script", "cells", "mixed", "cell"]
theorem sc__law_deck : FnScope sc__law_deck_N ["script"] (defScope s__law_deck) := ⟨rfl, rfl, rfl, by decide +kernel, rfl, by decide +kernel, by decide +kernel⟩
abbrev s__law_draw : Stmt := top 50
abbrev sc__law_draw_N : List Str := ["deck", "many", "cell", "figure"]
theorem sc__law_draw : FnScope sc__law_draw_N ["deck", "many"] (defScope s__law_draw) := ⟨rfl, rfl, rfl, by decide +kernel, rfl, by decide +kernel, by decide +kernel⟩
abbrev s__law_pick : Stmt := top 51
abbrev sc__law_pick_N : List Str := ["deck", "some"]
theorem sc__law_pick : FnScope sc__law_pick_N ["deck", "some"] (defScope s__law_pick) := ⟨rfl, rfl, rfl, by decide +kernel, rfl, by decide +kernel, by decide +kernel⟩
abbrev s__law_rising : Stmt := top 52
abbrev sc__law_rising_N : List Str := ["items", "it"]
theorem sc__law_rising : FnScope sc__law_rising_N ["items"] (defScope s__law_rising) := ⟨rfl, rfl, rfl, by decide +kernel, rfl, by decide +kernel, by decide +kernel⟩
abbrev s__law_head : Stmt := top 53
abbrev sc__law_head_N : List Str := ["deck", "many", "is_lower", "word", "names", "some", "name"]
theorem sc__law_head : FnScope sc__law_head_N ["deck", "many", "is_lower"] (defScope s__law_head) := ⟨rfl, rfl, rfl, by decide +kernel, rfl, by decide +kernel, by decide +kernel⟩
abbrev s__law_graph : Stmt := top 54
abbrev sc__law_graph_N : List Str := ["deck", "most", "many", "shape", "lowers", "uppers", "edges", "turn", "word", "it", "node", "head", "allowed"]
theorem sc__law_graph : FnScope sc__law_graph_N ["deck", "most"] (defScope s__law_graph) := ⟨rfl, rfl, rfl, by decide +kernel, rfl, by decide +kernel, by decide +kernel⟩
abbrev s__law_meeting : Stmt := top 55
abbrev sc__law_meeting_N : List Str := ["h", "k", "mine", "far", "asked", "name", "word"]
theorem sc__law_meeting : FnScope sc__law_meeting_N ["h", "k"] (defScope s__law_meeting) := ⟨rfl, rfl, rfl, by decide +kernel, rfl, by decide +kernel, by decide +kernel⟩
abbrev s__law_shared : Stmt := top 56
abbrev sc__law_shared_N : List Str := ["h", "k", "mine", "far", "word", "name", "found"]
theorem sc__law_shared : FnScope sc__law_shared_N ["h", "k"] (defScope s__law_shared) := ⟨rfl, rfl, rfl, by decide +kernel, rfl, by decide +kernel, by decide +kernel⟩
abbrev s__law_flows : Stmt := top 57
abbrev sc__law_flows_N : List Str := ["graph", "many", "lowers", "uppers", "edges", "allowed", "rows", "x", "y", "turn", "before", "mid", "h", "k", "why", "near", "far"]
theorem sc__law_flows : FnScope sc__law_flows_N ["graph"] (defScope s__law_flows) := ⟨rfl, rfl, rfl, by decide +kernel, rfl, by decide +kernel, by decide +kernel⟩
abbrev s__law_pairs : Stmt := top 58
abbrev sc__law_pairs_N : List Str := ["rows", "found", "x", "row", "y"]
theorem sc__law_pairs : FnScope sc__law_pairs_N ["rows"] (defScope s__law_pairs) := ⟨rfl, rfl, rfl, by decide +kernel, rfl, by decide +kernel, by decide +kernel⟩
abbrev s__law_clashes : Stmt := top 59
abbrev sc__law_clashes_N : List Str := ["graph", "rows", "found", "a", "x", "h", "b", "y", "k"]
theorem sc__law_clashes : FnScope sc__law_clashes_N ["graph", "rows"] (defScope s__law_clashes) := ⟨rfl, rfl, rfl, by decide +kernel, rfl, by decide +kernel, by decide +kernel⟩
abbrev s__law_by_hand : Stmt := top 60
abbrev sc__law_by_hand_N : List Str := ["call", "asked", "free", "flowing"]
theorem sc__law_by_hand : FnScope sc__law_by_hand_N [] (defScope s__law_by_hand) := ⟨rfl, rfl, rfl, by decide +kernel, rfl, by decide +kernel, by decide +kernel⟩
abbrev s_law : Stmt := top 61
abbrev sc_law_N : List Str := ["script", "deck", "turn", "graph", "kept", "rows", "due", "clashing", "near"]
theorem sc_law : FnScope sc_law_N ["script"] (defScope s_law) := ⟨rfl, rfl, rfl, by decide +kernel, rfl, by decide +kernel, by decide +kernel⟩
theorem bt_len : bootBuiltins "len" = some (.builtin "len") := by decide +kernel
theorem bt_isinstance : bootBuiltins "isinstance" = some (.builtin "isinstance") := by decide +kernel
theorem bt_all : bootBuiltins "all" = some (.builtin "all") := by decide +kernel
theorem bt_max : bootBuiltins "max" = some (.builtin "max") := by decide +kernel
theorem bt_repr : bootBuiltins "repr" = some (.builtin "repr") := by decide +kernel
theorem bt_sorted : bootBuiltins "sorted" = some (.builtin "sorted") := by decide +kernel
theorem bt_int : bootBuiltins "int" = some (.type "int") := by decide +kernel
theorem bt_bool : bootBuiltins "bool" = some (.type "bool") := by decide +kernel
theorem bt_str : bootBuiltins "str" = some (.type "str") := by decide +kernel
theorem bt_tuple : bootBuiltins "tuple" = some (.type "tuple") := by decide +kernel
theorem bt_list : bootBuiltins "list" = some (.type "list") := by decide +kernel
theorem bt_dict : bootBuiltins "dict" = some (.type "dict") := by decide +kernel
def grammar : List PV := (["module", "need", "def", "fun", "rec", "let", "in", "case", "any", "none", "num", "where"] : List Str).map PV.str
def letters : Str := "abcdefghijklmnopqrstuvwxyz"
def capitals : Str := "ABCDEFGHIJKLMNOPQRSTUVWXYZ"
def sizes : List (Str × Int) := [("num", 1), ("fun", 3), ("rec", 2), ("var", 2), ("any", 1), ("none", 1)]
/-- what the module holds -/
structure Txt (K : PySem.W.Frag) (w : World) (mg : Str → Option Value) (fl ft : Addr) : Prop where
  b_len : mg "len" = none
  b_isinstance : mg "isinstance" = none
  b_all : mg "all" = none
  b_max : mg "max" = none
  b_repr : mg "repr" = none
  b_sorted : mg "sorted" = none
  b_int : mg "int" = none
  b_bool : mg "bool" = none
  b_str : mg "str" = none
  b_tuple : mg "tuple" = none
  b_list : mg "list" = none
  b_dict : mg "dict" = none
  b_range : mg "range" = none
  b_zip : mg "zip" = none
  b_enumerate : mg "enumerate" = none
  g_LETTERS : GV K mg "LETTERS" (.str letters)
  g_CAPITALS : GV K mg "CAPITALS" (.str capitals)
  g_LONGEST : GV K mg "LONGEST" (.int 8)
  g_GRAMMAR : GV K mg "GRAMMAR" (.ktup grammar)
  g_NUM : GV K mg "NUM" (.str "num")
  g_FUN : GV K mg "FUN" (.str "fun")
  g_REC : GV K mg "REC" (.str "rec")
  g_VAR : GV K mg "VAR" (.str "var")
  g_ANY : GV K mg "ANY" (.str "any")
  g_NONE : GV K mg "NONE" (.str "none")
  g_SIZES : WG K w mg "SIZES" sizes
  g_MOST_PARTS : GV K mg "MOST_PARTS" (.int 400)
  g_GRAPH : GV K mg "GRAPH" (.int 5)
  g_MOST_NODES : GV K mg "MOST_NODES" (.int 1000)
  g_MOST_ROWS : GV K mg "MOST_ROWS" (.int 1000000)
  g_is_label : GV K mg "is_label" (.loc fl)
  g_is_tag : GV K mg "is_tag" (.loc ft)
theorem pe_gk {X : Cx} {K : PySem.W.Frag} {mg : Str → Option Value} {n : Str} {x : PV} {pos : Pos} (g : GV K mg n x) (hK : X.K = K := by rfl) (hm : X.mg = mg := by rfl) (hg : Gl X n := by rfl) (hd : (n == ("__debug__" : Str)) = false := by decide) : PE X (.Name n pos) (tGV K x) := by
  subst hK hm
  exact pe_gv hg g hd
theorem ixK {X : Cx} {K : PySem.W.Frag} (hK : X.K = K := by rfl) : IxR X (rIx K) := by
  subst hK
  exact ix_seq
theorem ltK {X : Cx} {K : PySem.W.Frag} {k : Nat} (hr : Room k X.A) (hK : X.K = K := by rfl) : OpR X (compareOp .Lt) (rLtN K) := by
  subst hK
  exact o_ltN hr
theorem pgK {X : Cx} {K : PySem.W.Frag} {es : List Expr} {k : Nat} {t : TGs} {n : Nat} {pos : Pos} (h : PGs X es t) (hK : X.K = K := by rfl) (hc : X.calm = true := by rfl)
    (hn : (assignEach es X.env).length = n := by rfl) (hst : (assignEach es X.env).findIdx? (·.1) = none := by rfl) : PG X (.Tuple es k pos) (gTup K n t) := by
  subst hK
  exact pg_tup hc h hn hst
theorem at0 {α : Type} {x : α} {r : List α} : atI (x :: r) (0 : Int) = some x := atI_nat (j := 0) rfl
theorem at1 {α : Type} {x y : α} {r : List α} : atI (x :: y :: r) (1 : Int) = some y := atI_nat (j := 1) rfl
theorem at2 {α : Type} {x y z : α} {r : List α} : atI (x :: y :: z :: r) (2 : Int) = some z := atI_nat (j := 2) rfl
theorem at3 {α : Type} {x y z v : α} {r : List α} : atI (x :: y :: z :: v :: r) (3 : Int) = some v := atI_nat (j := 3) rfl
theorem at4 {α : Type} {x y z v u : α} {r : List α} : atI (x :: y :: z :: v :: u :: r) (4 : Int) = some u := atI_nat (j := 4) rfl
end K06

namespace K06
open PySem PySem.Spec PyProof.Rows L2 DL
local macro_rules | `(tactic| walk_at "D") => `(tactic| simp only [dRet, dRetN, dNext, dSeq, dIfS, dDrop, dAsg, dgName, dAndV, dOrV, dNotV, dAnd, dOr, dNot, dTest, dIf, dCB, dCons, dNil, dVar, getv, dC, sc, dChain, dOp, dUn, dI0, dI, dU, dEqS, dNeS, dIsi, dLen, dIx, dPart, dNoPart, dSl, dSlX, dCall, dAllC, dTup, dLst, dYes, dInSg, dInF, seqP, dLc, bkS, dFor, bkD, dIStr, dITup, dIZip, dIList, wipeD, dLtN, dEqD, dWGet, dCallA, dDictK, dDIn, dListC, dTupC, dDGet, dgTup, dgCons, dgNil,
  startD, List.map_cons, List.map_nil, List.length_cons, List.length_nil, List.getElem?_cons_zero, List.getElem?_cons_succ, List.cons_append, List.nil_append, List.replicate, Nat.reduceAdd, Nat.reduceSub, List.set_cons_zero, List.set_cons_succ, isB, tyP, okTy, optD_some, optD_none, Option.isSome_some, true_and, and_true, if_true, if_false, Bool.false_eq_true, List.all_cons, List.all_nil, beq_self_eq_true, Bool.not_true, Bool.not_false, decide_true, decide_false])
section
variable {P : Program} {w : World} {K : PySem.W.Frag} {mg : Str → Option Value} {base : Heap} {fl ft : Addr}
/-- is_whole of an int in the range -/
def G_is_whole : DSp := fun xs S Q => ∃ i lo hi : Int, xs = [.int i, .int lo, .int hi] ∧ lo ≤ i ∧ i ≤ hi ∧ Q (.bl true) S
theorem f_is_whole {f : Addr} {fd : FuncData} (F : Fun K "is_whole" "is_whole" s_is_whole f fd) (T : Txt K w mg fl ft) : FnOk P w K mg base CX0 (0+1) f fd ["thing", "low", "high"] (spD K G_is_whole) := by
  refine fnD F sc_is_whole (fun xs S Q h => by obtain ⟨x, lo, hi, rfl, _⟩ := h; rfl) fun cdv A outer s H E hr => ?_
  refine ⟨_, (pss_one (ps_ret (pe_and (pe_callB call_isi (by rfl) T.b_isinstance bt_isinstance (pa_cons (pv 0) (pa_cons (pe_cls (n := "int") (by rfl) T.b_int bt_int) pa_nil))) (pe_and (pe_not (pe_callB call_isi (by rfl) T.b_isinstance bt_isinstance (pa_cons (pv 0) (pa_cons (pe_cls (n := "bool") (by rfl) T.b_bool bt_bool) pa_nil)))) (pe_one (pe_chain op_le op_le (pv 1) (pv 0) (pv 2))))))), ?_⟩
  try dsimp only [cxOf, Cx.nox, Cx.wish]
  refine ⟨_, inferInstance, ?_⟩
  rintro _ S Q ⟨i, lo, hi, rfl, h1, h2, q⟩
  walk_at "D"
  simp [h1, h2, q]
/-- labels and tags of the law's graphs -/
def labels : List Str := ["a", "b", "head"]
def tags : List Str := ["A", "B", "Nil"]
def inL (x : PV) (l : Str) : Bool := match x with
  | .str ⟨⟨[c]⟩⟩ => decide (c ∈ l.cps.toList)
  | _ => false
theorem inL_some {x : PV} {l : Str} (h : inL x l = true) : ∃ c, x = .str ⟨#[c]⟩ ∧ decide (c ∈ l.cps.toList) = true := by
  unfold inL at h
  split at h
  · exact ⟨_, rfl, h⟩
  · cases h
theorem label_tab : (labels.all fun z => decide (1 ≤ z.length) && decide (z.length ≤ 8) && !inV (.str z) (grammar.map unsc) && (sgnsP z).all fun x => inL x letters) = true := by decide +kernel
theorem tag_tab : (tags.all fun z => decide (1 ≤ z.length) && decide (z.length ≤ 8) && (match atI z.cps.toList 0 with | some c => decide (c ∈ capitals.cps.toList) | none => false) && (sgnsP (cutS z (some 1) none)).all fun x => inL x letters) = true := by decide +kernel
def G_is_label : DSp := fun xs S Q => ∃ z, xs = [.str z] ∧ z ∈ labels ∧ ∀ S', Ext S S' → Q (.bl true) S'
theorem gram_flat : grammar.all flatP = true := by decide +kernel
theorem small8 {n : Nat} (h : n ≤ 8) : n ≤ sizeLine := by rw [sizeLine_eq]; omega
theorem sgns_len (z : Str) : (sgnsP z).length = z.length := by simp [sgnsP, Str.length]
theorem f_is_label {f : Addr} {fd : FuncData} (F : Fun K "is_label" "is_label" s_is_label f fd) (T : Txt K w mg fl ft) : FnOk P w K mg base CX0 (0+1) f fd ["thing"] (spD K G_is_label) := by
  refine fnD F sc_is_label (fun xs S Q h => by obtain ⟨z, rfl, _⟩ := h; rfl) fun cdv A outer s H E hr => ?_
  refine ⟨_, (pss_cons (ps_if (PW.pt (pw_or (pt_not (pt_val (pe_callB call_isi (by rfl) T.b_isinstance bt_isinstance (pa_cons (pv 0) (pa_cons (pe_cls (n := "str") (by rfl) T.b_str bt_str) pa_nil))))) (pw_or (pt_not (pt_chain op_le op_le pe_int (pe_callB c_len (by rfl) T.b_len bt_len (pa_cons (pv 0) pa_nil)) (pe_gk T.g_LONGEST))) (pw_or1 (pt_cmpR op_in_seq (pv 0) (pe_gk T.g_GRAMMAR) (by rfl)))))) (pss_one (ps_ret pe_bl)) pss_nil)
    (pss_one (ps_ret (pe_callB (cr_all rfl) (by rfl) T.b_all bt_all (pa_cons (pe_lc (own := [("sign", 1)]) (tt := tYes) rfl sc_is_label.nd (pi_str (pv 0)) (blkOk_by (N := sc_is_label_N) (sc := defScope s_is_label) (by decide +kernel)) (fun _ _ _ _ _ => pg_name (i := 1) sc_is_label.nd rfl (Or.inl rfl)) (fun _ _ _ _ _ => pts_nil) (fun _ _ _ _ _ => (pe_cmpR o_in_sg (pv 1) (pe_gk T.g_LETTERS) (by rfl)))) pa_nil))))), ?_⟩
  try dsimp only [cxOf, Cx.nox, Cx.wish]
  refine ⟨_, inferInstance, ?_⟩
  rintro _ S Q ⟨z, rfl, hz, q⟩
  have tab := List.all_eq_true.mp label_tab z hz
  simp only [Bool.and_eq_true, decide_eq_true_eq, Bool.not_eq_true'] at tab
  obtain ⟨⟨⟨h1, h8⟩, hg⟩, hs⟩ := tab
  walk_at "D"
  have e1 : decide ((1 : Int) ≤ (z.length : Nat)) = true := decide_eq_true (by omega)
  have e2 : decide (((z.length : Nat) : Int) ≤ 8) = true := decide_eq_true (by omega)
  simp only [e1, e2, if_true, Bool.not_true, Bool.false_eq_true, if_false, gram_flat, flatP, unsc, hg, id, true_and]
  refine ⟨by decide, small8 h8, by decide, by rw [sgns_len]; exact small8 h8, lcR_map (fun _ => [.bl true]) (fun x hx S1 e acc R hR => ?_) fun S1 p e hp _ => ?_⟩
  · obtain ⟨c, rfl, hc⟩ := inL_some (List.all_eq_true.mp hs x hx)
    walk_at "D"
    simp only [sgn, optD_some, hc]
    exact hR S1 Ext.refl
  · simp only [bkS, lst_same, optD_some]
    rw [allB_true (by simp)]
    exact q _ (e.new2 hp)
def G_is_tag : DSp := fun xs S Q => ∃ z, xs = [.str z] ∧ z ∈ tags ∧ ∀ S', Ext S S' → Q (.bl true) S'
theorem cut_len (z : Str) : (cutS z (some 1) none).length ≤ z.length := by
  unfold cutS
  simp [Str.length]
  omega
theorem f_is_tag {f : Addr} {fd : FuncData} (F : Fun K "is_tag" "is_tag" s_is_tag f fd) (T : Txt K w mg fl ft) : FnOk P w K mg base CX0 (0+1) f fd ["thing"] (spD K G_is_tag) := by
  refine fnD F sc_is_tag (fun xs S Q h => by obtain ⟨z, rfl, _⟩ := h; rfl) fun cdv A outer s H E hr => ?_
  refine ⟨_, (pss_cons (ps_if (PW.pt (pw_or (pt_not (pt_val (pe_callB call_isi (by rfl) T.b_isinstance bt_isinstance (pa_cons (pv 0) (pa_cons (pe_cls (n := "str") (by rfl) T.b_str bt_str) pa_nil))))) (pw_or (pt_not (pt_chain op_le op_le pe_int (pe_callB c_len (by rfl) T.b_len bt_len (pa_cons (pv 0) pa_nil)) (pe_gk T.g_LONGEST))) (pw_or1 (pt_cmpR o_notin_sg (pe_ix (ixK (K := K)) (pv 0) pe_int (fun _ _ => rfl)) (pe_gk T.g_CAPITALS) (by rfl)))))) (pss_one (ps_ret pe_bl)) pss_nil)
    (pss_one (ps_ret (pe_callB (cr_all rfl) (by rfl) T.b_all bt_all (pa_cons (pe_lc (own := [("sign", 1)]) (tt := tYes) rfl sc_is_tag.nd (pi_str (pe_slice sl_any (pv 0) (po_some pe_int) po_none)) (blkOk_by (N := sc_is_tag_N) (sc := defScope s_is_tag) (by decide +kernel)) (fun _ _ _ _ _ => pg_name (i := 1) sc_is_tag.nd rfl (Or.inl rfl)) (fun _ _ _ _ _ => pts_nil) (fun _ _ _ _ _ => (pe_cmpR o_in_sg (pv 1) (pe_gk T.g_LETTERS) (by rfl)))) pa_nil))))), ?_⟩
  try dsimp only [cxOf, Cx.nox, Cx.wish]
  refine ⟨_, inferInstance, ?_⟩
  rintro _ S Q ⟨z, rfl, hz, q⟩
  have tab := List.all_eq_true.mp tag_tab z hz
  simp only [Bool.and_eq_true, decide_eq_true_eq] at tab
  obtain ⟨⟨⟨h1, h8⟩, hg⟩, hs⟩ := tab
  cases e0 : atI z.cps.toList 0 with
  | none => rw [e0] at hg; cases hg
  | some c =>
    rw [e0] at hg
    simp only [decide_eq_true_eq] at hg
    walk_at "D"
    have e1 : decide ((1 : Int) ≤ (z.length : Nat)) = true := decide_eq_true (by omega)
    have e2 : decide (((z.length : Nat) : Int) ≤ 8) = true := decide_eq_true (by omega)
    simp only [e1, e2, e0, if_true, Bool.not_true, Bool.false_eq_true, if_false, optD_some, sgn, decide_eq_true hg, true_and]
    refine ⟨by decide, small8 h8, small8 h8, by decide, small8 h8, by rw [sgns_len]; exact small8 (Nat.le_trans (cut_len z) h8), lcR_map (fun _ => [.bl true]) (fun x hx S1 e acc R hR => ?_) fun S1 p e hp _ => ?_⟩
    · obtain ⟨c, rfl, hc⟩ := inL_some (List.all_eq_true.mp hs x hx)
      walk_at "D"
      simp only [sgn, optD_some, hc]
      exact hR S1 Ext.refl
    · simp only [bkS, lst_same, optD_some]
      rw [allB_true (by simp)]
      exact q _ (e.new2 hp)
end
end K06

namespace K06
open PySem PySem.Spec PyProof.Rows L2 DL
open PySem.PyData (strOk)
/-! ### heads, rows, graphs as trees -/
inductive Hd where
  | num | fn (a b : Nat) | rc (ps : List (Str × Nat)) | vr (ps : List (Str × Nat)) | any | none
  deriving DecidableEq
def pvPart (p : Str × Nat) : PV := .tup [.str p.1, .int p.2]
def pvParts (ps : List (Str × Nat)) : PV := .ktup (ps.map pvPart)
def pvH : Hd → PV
  | .num => .tup [.str "num"]
  | .fn a b => .tup [.str "fun", .int a, .int b]
  | .rc ps => .tup [.str "rec", pvParts ps]
  | .vr ps => .tup [.str "var", pvParts ps]
  | .any => .tup [.str "any"]
  | .none => .tup [.str "none"]
def pvRow (r : Nat × Hd) : PV := .tup [.int r.1, pvH r.2]
def pvPr (p : Nat × Nat) : PV := .tup [.int p.1, .int p.2]
structure Gr where
  many : Nat
  lo : List (Nat × Hd)
  up : List (Nat × Hd)
  ed : List (Nat × Nat)
  al : List (Nat × Nat)
def pvG (g : Gr) : PV := .tup [.int g.many, .tup (g.lo.map pvRow), .tup (g.up.map pvRow), .tup (g.ed.map pvPr), .tup (g.al.map pvPr)]
/-! data -/
def Dat (n : Nat) (x : PV) : Prop := ∃ d, dat x = some d ∧ d.canLay0 = true ∧ d.depth ≤ n
theorem Dat.mono {m n : Nat} {x : PV} (h : Dat m x) (l : m ≤ n) : Dat n x := let ⟨d, a, b, c⟩ := h; ⟨d, a, b, Nat.le_trans c l⟩
theorem dat_int (i : Int) : Dat 0 (.int i) := ⟨.int i, by rw [dat], by rw [PyData.canLay0], by rw [PyData.depth]; exact Nat.le_refl _⟩
theorem dat_str {z : Str} (h : strOk z = true) : Dat 0 (.str z) := ⟨.str z, by rw [dat], by rw [PyData.canLay0]; exact h, by rw [PyData.depth]; exact Nat.le_refl _⟩
theorem dats_all {n : Nat} : ∀ {xs : List PV}, (∀ x ∈ xs, Dat n x) → ∃ ds, dats xs = some ds ∧ PyData.canLayAll0 ds = true ∧ PyData.depthAll ds ≤ n ∧ ds.length = xs.length
  | [], _ => ⟨[], by rw [dats], by rw [PyData.canLayAll0], by rw [PyData.depthAll]; exact Nat.zero_le _, rfl⟩
  | x :: xs, h => by
    obtain ⟨ds, h1, h2, h3, h4⟩ := dats_all fun y hy => h y (List.mem_cons_of_mem _ hy)
    obtain ⟨d, e1, e2, e3⟩ := h x List.mem_cons_self
    refine ⟨d :: ds, by rw [dats, e1, h1], ?_, ?_, by simp [h4]⟩
    · rw [PyData.canLayAll0, e2, h2]; rfl
    · rw [PyData.depthAll]; omega
theorem dat_tup {n : Nat} {xs : List PV} (h : ∀ x ∈ xs, Dat n x) : Dat (n + 1) (.tup xs) := by
  obtain ⟨ds, h1, h2, h3, _⟩ := dats_all h
  exact ⟨.tuple ds, by rw [dat, h1]; rfl, by rw [PyData.canLay0]; exact h2, by rw [PyData.depth]; omega⟩
theorem dat_ktup {n : Nat} {xs : List PV} (h : ∀ x ∈ xs, Dat n x) : Dat (n + 1) (.ktup xs) := by
  obtain ⟨ds, h1, h2, h3, _⟩ := dats_all h
  exact ⟨.tuple ds, by rw [dat, h1]; rfl, by rw [PyData.canLay0]; exact h2, by rw [PyData.depth]; omega⟩
theorem shaped_of {d : PyData} {n : Nat} (h1 : d.canLay0 = true) (h2 : d.depth ≤ n) (h : n ≤ 64) : SeqAt.shaped d = true := by
  unfold SeqAt.shaped
  rw [h1, Bool.true_and]
  exact decide_eq_true (Nat.le_trans h2 h)
theorem eqv_tup_nil {ds : List PyData} : PyData.eqv (.tuple ds) (.tuple []) = decide (ds = []) := by
  cases ds <;> simp [PyData.eqv, PyData.eqvAll]
theorem eqv_list_nil {ds : List PyData} : PyData.eqv (.list ds) (.list []) = decide (ds = []) := by
  cases ds <;> simp [PyData.eqv, PyData.eqvAll]
/-- x != () -/
theorem ne_nil_tup {n : Nat} {x : PV} {xs : List PV} {S : Mp} {Q : DK} (h : Dat n x) (hn : n ≤ 64) (e : tupP x = some xs) (f : Bool → Bool) (q : Q (.bl (f (decide (xs = [])))) S) : dEqD f x (.tup []) S Q := by
  obtain ⟨d, e1, e2, e3⟩ := h
  have hx : datS S x = dat x := by cases x <;> first | rfl | cases e
  have e0 : datS S (.tup []) = some (.tuple []) := by simp [datS, dat, dats]
  have sh : SeqAt.shaped (.tuple []) = true := by decide +kernel
  unfold dEqD
  rw [hx, e1, e0]
  refine ⟨shaped_of e2 e3 hn, sh, ?_⟩
  have : ∃ ds, d = .tuple ds ∧ dats xs = some ds := by
    cases x with
    | tup ys => cases e; rw [dat] at e1; obtain ⟨ds, h1, rfl⟩ := Option.map_eq_some_iff.mp e1; exact ⟨ds, rfl, h1⟩
    | ktup ys => cases e; rw [dat] at e1; obtain ⟨ds, h1, rfl⟩ := Option.map_eq_some_iff.mp e1; exact ⟨ds, rfl, h1⟩
    | _ => cases e
  obtain ⟨ds, rfl, hd⟩ := this
  rw [eqv_tup_nil]
  have iff : decide (ds = []) = decide (xs = []) := by
    cases xs with
    | nil => rw [dats] at hd; cases hd; rfl
    | cons y ys => obtain ⟨a, b, _, _, rfl⟩ := dats_cons hd; simp
  rw [iff]
  exact q
theorem dat_names {z : Str} (h : z ∈ labels ++ tags) : strOk z = true := by
  have : ((labels ++ tags).all fun z => strOk z) = true := by decide +kernel
  exact List.all_eq_true.mp this z h
def NamesOk (ps : List (Str × Nat)) : Prop := ∀ p ∈ ps, p.1 ∈ labels ++ tags
theorem dat_parts {ps : List (Str × Nat)} (h : NamesOk ps) : Dat 2 (pvParts ps) := dat_ktup fun x hx => by
  obtain ⟨p, hp, rfl⟩ := List.mem_map.mp hx
  exact dat_tup fun y hy => by
    rcases List.mem_cons.mp hy with rfl | hy
    · exact dat_str (dat_names (h p hp))
    · obtain rfl := List.mem_singleton.mp hy; exact dat_int _
def HdOk : Hd → Prop
  | .rc ps => NamesOk ps
  | .vr ps => NamesOk ps
  | _ => True
theorem strOk_num : strOk "num" = true := by decide +kernel
theorem strOk_fun : strOk "fun" = true := by decide +kernel
theorem strOk_rec : strOk "rec" = true := by decide +kernel
theorem strOk_var : strOk "var" = true := by decide +kernel
theorem strOk_any : strOk "any" = true := by decide +kernel
theorem strOk_none : strOk "none" = true := by decide +kernel
theorem dat_H {h : Hd} (ok : HdOk h) : Dat 3 (pvH h) := by
  cases h with
  | num => exact dat_tup fun x hx => by obtain rfl := List.mem_singleton.mp hx; exact (dat_str strOk_num).mono (by omega)
  | any => exact dat_tup fun x hx => by obtain rfl := List.mem_singleton.mp hx; exact (dat_str strOk_any).mono (by omega)
  | none => exact dat_tup fun x hx => by obtain rfl := List.mem_singleton.mp hx; exact (dat_str strOk_none).mono (by omega)
  | fn a b =>
    refine dat_tup fun x hx => ?_
    rcases List.mem_cons.mp hx with rfl | hx
    · exact (dat_str strOk_fun).mono (by omega)
    · rcases List.mem_cons.mp hx with rfl | hx
      · exact (dat_int _).mono (by omega)
      · obtain rfl := List.mem_singleton.mp hx; exact (dat_int _).mono (by omega)
  | rc ps =>
    refine dat_tup fun x hx => ?_
    rcases List.mem_cons.mp hx with rfl | hx
    · exact (dat_str strOk_rec).mono (by omega)
    · obtain rfl := List.mem_singleton.mp hx; exact dat_parts ok
  | vr ps =>
    refine dat_tup fun x hx => ?_
    rcases List.mem_cons.mp hx with rfl | hx
    · exact (dat_str strOk_var).mono (by omega)
    · obtain rfl := List.mem_singleton.mp hx; exact dat_parts ok
/-! keys and their order -/
def nkPart (p : Str × Nat) : NestedKey := .tup [.text p.1, .num p.2]
def nkH : Hd → NestedKey
  | .num => .tup [.text "num"]
  | .fn a b => .tup [.text "fun", .num a, .num b]
  | .rc ps => .tup [.text "rec", .tup (ps.map nkPart)]
  | .vr ps => .tup [.text "var", .tup (ps.map nkPart)]
  | .any => .tup [.text "any"]
  | .none => .tup [.text "none"]
def nkRow (r : Nat × Hd) : NestedKey := .tup [.num r.1, nkH r.2]
def nkPr (p : Nat × Nat) : NestedKey := .tup [.num p.1, .num p.2]
theorem toNK_part (p : Str × Nat) : toNK (pvPart p) = some (nkPart p) := by simp [pvPart, nkPart, toNK, toNKs]
theorem toNKs_map {α : Type} {f : α → PV} {g : α → NestedKey} (h : ∀ a, toNK (f a) = some (g a)) : ∀ xs : List α, toNKs (xs.map f) = some (xs.map g)
  | [] => by simp [toNKs]
  | x :: xs => by rw [List.map_cons, List.map_cons, toNKs, h x, toNKs_map h xs]
theorem toNK_H (h : Hd) : toNK (pvH h) = some (nkH h) := by
  cases h <;> simp [pvH, nkH, toNK, toNKs, pvParts, toNKs_map toNK_part]
theorem toNK_row (r : Nat × Hd) : toNK (pvRow r) = some (nkRow r) := by simp [pvRow, nkRow, toNK, toNKs, toNK_H]
theorem toNK_pr (p : Nat × Nat) : toNK (pvPr p) = some (nkPr p) := by simp [pvPr, nkPr, toNK, toNKs]
theorem depth_parts (ps : List (Str × Nat)) : NestedKey.depthAll (ps.map nkPart) ≤ 1 := by
  induction ps with
  | nil => simp [NestedKey.depthAll]
  | cons p ps ih => simp only [List.map_cons, NestedKey.depthAll, nkPart, NestedKey.depth]; omega
theorem depth_H (h : Hd) : (nkH h).depth ≤ 3 := by
  cases h <;> simp only [nkH, NestedKey.depth, NestedKey.depthAll] <;> first | omega | (rename_i ps; have := depth_parts ps; omega)
theorem depth_row (r : Nat × Hd) : (nkRow r).depth ≤ 4 := by
  have := depth_H r.2
  simp only [nkRow, NestedKey.depth, NestedKey.depthAll]; omega
theorem depth_pr (p : Nat × Nat) : (nkPr p).depth ≤ 1 := by simp only [nkPr, NestedKey.depth, NestedKey.depthAll]; omega
theorem led_row (r : Nat × Hd) : Led (nkRow r) := ⟨⟨_, _, rfl⟩, Nat.le_trans (depth_row r) (by omega)⟩
theorem led_pr (p : Nat × Nat) : Led (nkPr p) := ⟨⟨_, _, rfl⟩, Nat.le_trans (depth_pr p) (by omega)⟩
/-- comparing never fails -/
def Cmp (a b : NestedKey) : Prop := (ltNK a b).isSome = true
theorem cmps_cons {x y : NestedKey} {xs ys : List NestedKey} (h1 : Cmp x y) (h2 : (ltNKs xs ys).isSome = true) : (ltNKs (x :: xs) (y :: ys)).isSome = true := by
  rw [ltNKs]
  split
  · exact h2
  · exact h1
theorem cmp_num (i j : Int) : Cmp (.num i) (.num j) := by simp [Cmp, ltNK]
theorem cmp_text (i j : Str) : Cmp (.text i) (.text j) := by simp [Cmp, ltNK]
theorem cmps_nil (xs : List NestedKey) : (ltNKs [] xs).isSome = true := by cases xs <;> simp [ltNKs]
theorem cmps_nil2 (xs : List NestedKey) : (ltNKs xs []).isSome = true := by cases xs <;> simp [ltNKs]
theorem cmp_tup {xs ys : List NestedKey} (h : (ltNKs xs ys).isSome = true) : Cmp (.tup xs) (.tup ys) := by unfold Cmp; rw [ltNK]; exact h
theorem cmp_part (p q : Str × Nat) : Cmp (nkPart p) (nkPart q) := cmp_tup (cmps_cons (cmp_text _ _) (cmps_cons (cmp_num _ _) (cmps_nil _)))
theorem cmp_parts : ∀ ps qs : List (Str × Nat), (ltNKs (ps.map nkPart) (qs.map nkPart)).isSome = true
  | [], _ => cmps_nil _
  | _ :: _, [] => cmps_nil2 _
  | p :: ps, q :: qs => cmps_cons (cmp_part p q) (cmp_parts ps qs)
theorem cmps_text {i j : Str} {xs ys : List NestedKey} (h : i = j → (ltNKs xs ys).isSome = true) : (ltNKs (.text i :: xs) (.text j :: ys)).isSome = true := by
  rw [ltNKs]
  split
  · rename_i e
    rw [beq_iff'] at e
    cases e
    exact h rfl
  · exact cmp_text _ _
theorem w_ne : ("num" : Str) ≠ "fun" ∧ ("num" : Str) ≠ "rec" ∧ ("num" : Str) ≠ "var" ∧ ("fun" : Str) ≠ "rec" ∧ ("fun" : Str) ≠ "var" ∧ ("rec" : Str) ≠ "var" := by decide +kernel
theorem cmp_H (h k : Hd) : Cmp (nkH h) (nkH k) := by
  obtain ⟨n1, n2, n3, n4, n5, n6⟩ := w_ne
  cases h <;> cases k <;> refine cmp_tup (cmps_text fun e => ?_) <;> first
    | exact cmps_nil _
    | exact cmps_nil2 _
    | exact cmps_cons (cmp_num _ _) (cmps_cons (cmp_num _ _) (cmps_nil _))
    | exact cmps_cons (cmp_tup (cmp_parts _ _)) (cmps_nil _)
    | exact absurd e n4
    | exact absurd e n5
    | exact absurd e n6
    | exact absurd e.symm n4
    | exact absurd e.symm n5
    | exact absurd e.symm n6
theorem cmp_row (r s : Nat × Hd) : Cmp (nkRow r) (nkRow s) := cmp_tup (cmps_cons (cmp_num _ _) (cmps_cons (cmp_H _ _) (cmps_nil _)))
theorem cmp_pr (r s : Nat × Nat) : Cmp (nkPr r) (nkPr s) := cmp_tup (cmps_cons (cmp_num _ _) (cmps_cons (cmp_num _ _) (cmps_nil _)))
/-! rising rows of trees -/
def LtP (a b : PV) : Prop := ∃ k l, toNK a = some k ∧ toNK b = some l ∧ k.depth ≤ 8 ∧ l.depth ≤ 8 ∧ ltNK k l = some true
def Rising : List PV → Prop
  | a :: b :: r => LtP a b ∧ Rising (b :: r)
  | _ => True
theorem rising_zip : ∀ {ys : List PV}, Rising ys → ∀ x ∈ zipP ys (ys.drop 1), ∃ a b, x = .tup [a, b] ∧ LtP a b
  | [], _, x, hx => by simp [zipP] at hx
  | [a], _, x, hx => by simp [zipP] at hx
  | a :: b :: r, h, x, hx => by
    simp only [List.drop_succ_cons, List.drop_zero, zipP, List.mem_cons] at hx
    rcases hx with rfl | hx
    · exact ⟨a, b, rfl, h.1⟩
    · exact rising_zip h.2 x (by simpa using hx)
theorem cut1 (ys : List PV) : cutP ys (some 1) none = ys.drop 1 := by
  unfold cutP
  rw [HT.sIx_none, show (some (1 : Int)) = some ((1 : Nat) : Int) from rfl, HT.sIx_nat]
  cases ys with
  | nil => rfl
  | cons y ys =>
    have e : min 1 (y :: ys).length = 1 := by simp only [List.length_cons]; omega
    rw [e]
    simp
end K06

namespace K06
open PySem PySem.Spec PyProof.Rows L2 DL
local macro_rules | `(tactic| walk_at "D") => `(tactic| simp only [dRet, dRetN, dNext, dSeq, dIfS, dDrop, dAsg, dgName, dAndV, dOrV, dNotV, dAnd, dOr, dNot, dTest, dIf, dCB, dCons, dNil, dVar, getv, dC, sc, dChain, dOp, dUn, dI0, dI, dU, dEqS, dNeS, dIsi, dLen, dIx, dPart, dNoPart, dSl, dSlX, dCall, dAllC, dTup, dLst, dYes, dInSg, dInF, seqP, dLc, bkS, dFor, bkD, dIStr, dITup, dIZip, dIList, wipeD, dWGet, dCallA, dDictK, dDIn, dListC, dTupC, dDGet, dgTup, dgCons, dgNil, dPar, dPar3, dBM, dBM0, dAppend, dExtend, dPop, dty, dBits, dgSub, dSetL, dFld, dsFld, dMeth, dMake, dDGet1, dDSetd, dsDPut, dRevL, dPlus, dDisp, dPairs, dIEnum, dIEnumT, dIRng1, dIRng2, dIKeys, dLock, dTupF1, dTupF, dDictN, dSortN, dInN, dDcN, dInT, dIsN, dNotN, dIsB, dI2, dInt1, dRepr, dWhile, dDNewK, dAug, dBreak, dCont, dNever,
  startD, List.map_cons, List.map_nil, List.length_cons, List.length_nil, List.getElem?_cons_zero, List.getElem?_cons_succ, List.cons_append, List.nil_append, List.replicate, Nat.reduceAdd, Nat.reduceSub, List.set_cons_zero, List.set_cons_succ, isB, tyP, okTy, optD_some, optD_none, Option.isSome_some, true_and, and_true, if_true, if_false, Bool.false_eq_true, List.all_cons, List.all_nil, beq_self_eq_true, eqP_int, eqP_str, scal_int, scal_str, Bool.not_true, Bool.not_false, decide_true, decide_false])
section
variable {P : Program} {w : World} {K : PySem.W.Frag} {mg : Str → Option Value} {base : Heap} {fl ft : Addr}
def G_are_rising : DSp := fun xs S Q => ∃ x ys, xs = [x] ∧ (x = .tup ys ∨ ∃ p, x = .loc p ∧ S p = some (.lst ys)) ∧ Rising ys ∧ ys.length ≤ sizeLine ∧ ∀ S', Ext S S' → Q (.bl true) S'
theorem ltN_run {a b : PV} {S : Mp} {Q : DK} (h : LtP a b) (q : Q (.bl true) S) : dLtN a b S Q := by
  obtain ⟨k, l, e1, e2, d1, d2, e3⟩ := h
  unfold dLtN
  rw [e1, e2]
  refine ⟨d1, d2, ?_⟩
  rw [e3]
  exact q
theorem zipP_le (xs ys : List PV) : (zipP xs ys).length ≤ xs.length := by rw [zipP_length]; exact Nat.min_le_left _ _
theorem f_are_rising {f : Addr} {fd : FuncData} (F : Fun K "are_rising" "are_rising" s_are_rising f fd) (T : Txt K w mg fl ft) : FnOk P w K mg base CX0 (0+1) f fd ["row"] (spD K G_are_rising) := by
  refine fnD F sc_are_rising (fun xs S Q h => by obtain ⟨x, ys, rfl, _⟩ := h; rfl) fun cdv A outer s H E hr => ?_
  refine ⟨_, (pss_one (ps_ret (pe_callB (cr_all rfl) (by rfl) T.b_all bt_all (pa_cons (pe_lc (own := [("one", 1), ("other", 2)]) (tt := tYes) rfl sc_are_rising.nd (RZ.pi_zipA (by rfl) T.b_zip (pa_cons (pv 0) (pa_cons (pe_slice sl_any (pv 0) (po_some pe_int) po_none) pa_nil))) (blkOk_by (N := sc_are_rising_N) (sc := defScope s_are_rising) (by decide +kernel)) (fun _ _ _ _ _ => pgK (K := K) (n := 2) (pgs_cons (pg_name (i := 1) sc_are_rising.nd rfl (Or.inl rfl)) (pgs_cons (pg_name (i := 2) sc_are_rising.nd rfl (Or.inl rfl)) pgs_nil))) (fun _ _ _ _ _ => pts_nil) (fun _ _ _ _ _ => (pe_cmpR (ltK (K := K) hr) (pv 1) (pv 2) (nomark _)))) pa_nil)))), ?_⟩
  try dsimp only [cxOf, Cx.nox, Cx.wish]
  refine ⟨_, inferInstance, ?_⟩
  rintro _ S Q ⟨x, ys, rfl, hx, hR, hl, q⟩
  have hz : (zipP ys (ys.drop 1)).length ≤ sizeLine := Nat.le_trans (zipP_le _ _) hl
  rcases hx with rfl | ⟨p, rfl, hS⟩
  · walk_at "D"
    rw [cut1]
    refine ⟨by decide, hz, lcR_map (fun _ => [.bl true]) (fun x hx S1 e acc R hR2 => ?_) fun S1 p e hp _ => ?_⟩
    · obtain ⟨a, b, rfl, hab⟩ := rising_zip hR x hx
      walk_at "D"
      exact ltN_run hab (hR2 S1 Ext.refl)
    · simp only [bkS, lst_same, optD_some]
      rw [allB_true (by simp)]
      exact q _ (e.new2 hp)
  · walk_at "D"
    simp only [hS, optD_some, lr_at hS]
    refine ⟨by decide, fun q0 hq0 => ?_⟩
    have hpq : q0 ≠ p := fun z => by rw [z, hS] at hq0; cases hq0
    have e1 : (mset S q0 (some (.lst (cutP ys (some 1) none)))) p = some (.lst ys) := by rw [mset_ne (Ne.symm hpq)]; exact hS
    have e2 : (ldP (mset S q0 (some (.lst (cutP ys (some 1) none)))) p ys) q0 = some (.lst (cutP ys (some 1) none)) := by unfold ldP; rw [mset_ne hpq, mset_same]
    rw [lr_at e1]
    simp only [optD_some]
    rw [lr_at e2]
    simp only [optD_some]
    rw [cut1]
    refine ⟨hz, lcR_map (fun _ => [.bl true]) (fun x hx S1 e acc R hR2 => ?_) fun S1 r e hp hb => ?_⟩
    · obtain ⟨a, b, rfl, hab⟩ := rising_zip hR x hx
      walk_at "D"
      exact ltN_run hab (hR2 S1 Ext.refl)
    · simp only [lst_same, optD_some]
      rw [allB_true (by simp)]
      refine q _ fun a o ea => ?_
      have hbr : ∀ b, b ≠ p → b ≠ q0 → S b = some o → S1 b = some o := fun b h1 h2 eb => e b o (by unfold ldP; rw [mset_ne h2, mset_ne h1, mset_ne h2]; exact eb)
      have hrp : r ≠ p := fun z => by
        subst z
        have : S1 r = some (.rol ys) := e r _ (by unfold ldP; rw [mset_ne (Ne.symm hpq), mset_same])
        rw [this] at hp; cases hp
      have haq : a ≠ q0 := fun z => by rw [z, hq0] at ea; cases ea
      by_cases har : a = r
      · subst har
        by_cases hap : a = p
        · exact absurd hap hrp
        · have := hbr a hap haq ea
          rw [hp] at this; cases this
      · rw [mset_ne har]
        show (mset (mset S1 p (some (.lst ys))) q0 _) a = some o
        rw [mset_ne haq]
        by_cases hap : a = p
        · subst hap; rw [mset_same, ← hS, ea]
        · rw [mset_ne hap]; exact hbr a hap haq ea
def G_has_word : DSp := fun xs S Q => ∃ h, xs = [pvH h] ∧ HdOk h ∧ Q (.bl true) S
theorem pvH_tup (h : Hd) : ∃ z r, pvH h = .tup (.str z :: r) := by cases h <;> exact ⟨_, _, rfl⟩
theorem f_has_word {f : Addr} {fd : FuncData} (F : Fun K "has_word" "has_word" s_has_word f fd) (T : Txt K w mg fl ft) : FnOk P w K mg base CX0 (0+1) f fd ["thing"] (spD K G_has_word) := by
  refine fnD F sc_has_word (fun xs S Q h => by obtain ⟨z, rfl, _⟩ := h; rfl) fun cdv A outer s H E hr => ?_
  refine ⟨_, (pss_one (ps_ret (pe_and (pe_callB call_isi (by rfl) T.b_isinstance bt_isinstance (pa_cons (pv 0) (pa_cons (pe_cls (n := "tuple") (by rfl) T.b_tuple bt_tuple) pa_nil))) (pe_and (pe_cmpR (op_neD (room64 hr)) (pv 0) (pe_tup pa_nil) (nomark _)) (pe_one (pe_callB call_isi (by rfl) T.b_isinstance bt_isinstance (pa_cons (pe_ix (ixK (K := K)) (pv 0) pe_int (fun _ _ => rfl)) (pa_cons (pe_cls (n := "str") (by rfl) T.b_str bt_str) pa_nil)))))))), ?_⟩
  try dsimp only [cxOf, Cx.nox, Cx.wish]
  refine ⟨_, inferInstance, ?_⟩
  rintro _ S Q ⟨h, rfl, ok, q⟩
  have hd := dat_H ok
  obtain ⟨z, r, e⟩ := pvH_tup h
  rw [e] at hd ⊢
  walk_at "D"
  refine ⟨by decide, Nat.zero_le _, ?_⟩
  refine ne_nil_tup hd (by omega) rfl not ?_
  simp only [List.cons_ne_nil, decide_false, Bool.not_false, if_true]
  rw [at0]
  simp only [optD_some]
  exact ⟨rfl, by decide, q⟩
end
end K06

namespace K06
open PySem PySem.Spec PyProof.Rows L2 DL
local macro_rules | `(tactic| walk_at "D") => `(tactic| simp only [dRet, dRetN, dNext, dSeq, dIfS, dDrop, dAsg, dgName, dAndV, dOrV, dNotV, dAnd, dOr, dNot, dTest, dIf, dCB, dCons, dNil, dVar, getv, dC, sc, dChain, dOp, dUn, dI0, dI, dU, dEqS, dNeS, dIsi, dLen, dIx, dPart, dNoPart, dSl, dSlX, dCall, dAllC, dTup, dLst, dYes, dInSg, dInF, seqP, dLc, bkS, dFor, bkD, dIStr, dITup, dIZip, dIList, wipeD, dWGet, dCallA, dDictK, dDIn, dListC, dTupC, dDGet, dgTup, dgCons, dgNil, dPar, dPar3, dBM, dBM0, dAppend, dExtend, dPop, dty, dBits, dgSub, dSetL, dFld, dsFld, dMeth, dMake, dDGet1, dDSetd, dsDPut, dRevL, dPlus, dDisp, dPairs, dIEnum, dIEnumT, dIRng1, dIRng2, dIKeys, dLock, dTupF1, dTupF, dDictN, dSortN, dInN, dDcN, dInT, dIsN, dNotN, dIsB, dI2, dInt1, dRepr, dWhile, dDNewK, dAug, dBreak, dCont, dNever,
  startD, List.map_cons, List.map_nil, List.length_cons, List.length_nil, List.getElem?_cons_zero, List.getElem?_cons_succ, List.cons_append, List.nil_append, List.replicate, Nat.reduceAdd, Nat.reduceSub, List.set_cons_zero, List.set_cons_succ, isB, tyP, okTy, optD_some, optD_none, Option.isSome_some, true_and, and_true, if_true, if_false, Bool.false_eq_true, List.all_cons, List.all_nil, beq_self_eq_true, eqP_int, eqP_str, scal_int, scal_str, Bool.not_true, Bool.not_false, decide_true, decide_false])
def nameD (fl ft : Addr) : Addr → Option DSp := fun f => if f = fl then some G_is_label else if f = ft then some G_is_tag else none
/-- the names' order -/
def NmUp (ps : List (Str × Nat)) : Prop := (ps.map (·.1)).Pairwise fun a b => a.cps.toList < b.cps.toList
theorem nmUp_rising : ∀ {ps : List (Str × Nat)}, NmUp ps → Rising (ps.map fun p => .str p.1)
  | [], _ => trivial
  | [_], _ => trivial
  | p :: q :: r, h => by
    have h' : (p.1 :: q.1 :: r.map (·.1)).Pairwise fun a b => a.cps.toList < b.cps.toList := h
    rw [List.pairwise_cons] at h'
    refine ⟨⟨.text p.1, .text q.1, by rw [toNK], by rw [toNK], by simp [NestedKey.depth], by simp [NestedKey.depth], ?_⟩, nmUp_rising (ps := q :: r) h'.2⟩
    rw [ltNK, decide_eq_true (h'.1 q.1 List.mem_cons_self)]
section
variable {P : Program} {w : World} {K : PySem.W.Frag} {mg : Str → Option Value} {base : Heap} {fl ft : Addr}
def G_are_parts (fl ft : Addr) : DSp := fun xs S Q => ∃ (ps : List (Str × Nat)) (m : Nat) (f : Addr), xs = [pvParts ps, .int m, .loc f] ∧ ((f = fl ∧ ∀ p ∈ ps, p.1 ∈ labels) ∨ (f = ft ∧ f ≠ fl ∧ ∀ p ∈ ps, p.1 ∈ tags)) ∧ (∀ p ∈ ps, p.2 < m) ∧ NmUp ps ∧ ps.length ≤ 400 ∧ ∀ S', Ext S S' → Q (.bl true) S'
theorem f_are_parts {f : Addr} {fd : FuncData} (F : Fun K "are_parts" "are_parts" s_are_parts f fd) (T : Txt K w mg fl ft) (C_is_whole : C8.Cal P w K mg base 1 "is_whole" (spD K G_is_whole) []) (C_are_rising : C8.Cal P w K mg base 1 "are_rising" (spD K G_are_rising) [])
    (A_is_name : Hld P w K mg base 1 (nameD fl ft)) : FnOk P w K mg base CX0 (1+1) f fd ["thing", "many", "is_name"] (spD K (G_are_parts fl ft)) := by
  refine fnD F sc_are_parts (fun xs S Q h => by obtain ⟨x, m, f, rfl, _⟩ := h; rfl) fun cdv A outer s H E hr => ?_
  refine ⟨_, (pss_cons (ps_if (PW.pt (pw_or (pt_not (pt_val (pe_callB call_isi (by rfl) T.b_isinstance bt_isinstance (pa_cons (pv 0) (pa_cons (pe_cls (n := "tuple") (by rfl) T.b_tuple bt_tuple) pa_nil))))) (pw_or1 (pt_cmpR op_gt (pe_callB c_len (by rfl) T.b_len bt_len (pa_cons (pv 0) pa_nil)) (pe_gk T.g_MOST_PARTS) (nomark _))))) (pss_one (ps_ret pe_bl)) pss_nil)
    (pss_cons (ps_for PassesOwn.never rfl (pi_tup (pv 0)) (pg_name (i := 3) sc_are_parts.nd rfl (Or.inl rfl)) (pss_cons (ps_if (PW.pt (pw_or (pt_not (pt_val (pe_callB call_isi (by rfl) T.b_isinstance bt_isinstance (pa_cons (pv 3) (pa_cons (pe_cls (n := "tuple") (by rfl) T.b_tuple bt_tuple) pa_nil))))) (pw_or (pt_cmpR op_ne (pe_callB c_len (by rfl) T.b_len bt_len (pa_cons (pv 3) pa_nil)) pe_int (nomark _)) (pw_or1 (pt_not (pt_val (pe_calA (i := 2) A_is_name hr rfl (Or.inl rfl) (pa_cons (pe_ix (ixK (K := K)) (pv 3) pe_int (fun _ _ => rfl)) pa_nil)))))))) (pss_one (ps_ret pe_bl)) pss_nil)
    (pss_one (ps_if (pt_not (pt_val (C8.pe_c C_is_whole hr (by decide) (by rfl) (pa_cons (pe_ix (ixK (K := K)) (pv 3) pe_int (fun _ _ => rfl)) (pa_cons pe_int (pa_cons (pe_op op_sub (pv 1) pe_int) pa_nil)))))) (pss_one (ps_ret pe_bl)) pss_nil))))
    (pss_one (ps_ret (C8.pe_c C_are_rising hr (by decide) (by rfl) (pa_cons (pe_lc (own := [("part", 3)]) (tt := tYes) rfl sc_are_parts.nd (pi_tup (pv 0)) (blkOk_by (N := sc_are_parts_N) (sc := defScope s_are_parts) (by decide +kernel)) (fun _ _ _ _ _ => pg_name (i := 3) sc_are_parts.nd rfl (Or.inl rfl)) (fun _ _ _ _ _ => pts_nil) (fun _ _ _ _ _ => (pe_ix (ixK (K := K)) (pv 3) pe_int (fun _ _ => rfl)))) pa_nil)))))), ?_⟩
  try dsimp only [cxOf, Cx.nox, Cx.wish]
  refine ⟨_, inferInstance, ?_⟩
  rintro _ S Q ⟨ps, m, g, rfl, hf, hm, hup, hl, q⟩
  have hl' : ps.length ≤ sizeLine := by rw [sizeLine_eq]; omega
  unfold pvParts
  walk_at "D"
  have e1 : decide (((ps.map pvPart).length : Int) > 400) = false := decide_eq_false (by rw [List.length_map]; omega)
  simp only [gt_iff_lt] at e1
  simp only [gt_iff_lt, e1, tupP, optD_some, Bool.false_eq_true, if_false]
  refine ⟨by decide, ?_⟩
  refine forR_inv (fun r ρ S1 => ∃ ps' o, r = ps'.map pvPart ∧ (∀ p ∈ ps', p ∈ ps) ∧ Ext S S1 ∧ ρ = [some (.ktup (ps.map pvPart)), some (.int m), some (.loc g), o]) (fun x r ρ S1 hI N hN => ?_) (fun ρ S1 hI => ?_) _ _ _ ⟨ps, none, rfl, fun _ h => h, Ext.refl, rfl⟩
  · obtain ⟨ps', o, e, hs, ex, rfl⟩ := hI
    cases ps' with
    | nil => cases e
    | cons p ps' =>
      cases e
      have hp := hs p List.mem_cons_self
      unfold pvPart
      walk_at "D"
      rw [at0, at1]
      simp only [optD_some]
      have go : ∀ S2, Ext S1 S2 → G_is_whole [.int p.2, .int 0, .int (m - 1)] S2 fun x S3 => match x with
          | .bl b => (if (!b) = true then Q (.bl false) S3 else N [some (.ktup (ps.map pvPart)), some (.int m), some (.loc g), some (.tup [.str p.1, .int p.2])] S3)
          | _ => False := fun S2 e2 => by
        refine ⟨_, _, _, rfl, by omega, by have := hm p hp; omega, ?_⟩
        simp only [Bool.not_true, Bool.false_eq_true, if_false]
        exact hN _ _ ⟨ps', _, rfl, fun z hz => hs z (List.mem_cons_of_mem _ hz), ex.trans e2, rfl⟩
      refine ⟨by decide, ?_⟩
      rcases hf with ⟨rfl, hn⟩ | ⟨rfl, hne, hn⟩
      · rw [show nameD g ft g = some G_is_label by unfold nameD; rw [if_pos rfl]]
        refine ⟨_, rfl, hn p hp, fun S2 e2 => ?_⟩
        exact go S2 e2
      · rw [show nameD fl g g = some G_is_tag by unfold nameD; rw [if_neg hne, if_pos rfl]]
        refine ⟨_, rfl, hn p hp, fun S2 e2 => ?_⟩
        exact go S2 e2
  · obtain ⟨ps', o, e, hs, ex, rfl⟩ := hI
    walk_at "D"
    try simp only [tupP, optD_some]
    refine ⟨by decide, by rw [List.length_map]; exact hl', lcR_inv (fun r acc S2 => ∃ ps', r = ps'.map pvPart ∧ Ext S1 S2 ∧ acc ++ ps'.map (fun p => .str p.1) = ps.map fun p => .str p.1) (fun x r acc S2 hI R hR => ?_) (fun acc S2 p hI hp _ => ?_) _ _ _ ⟨ps, rfl, Ext.refl, rfl⟩⟩
    · obtain ⟨ps', e, ex2, ea⟩ := hI
      cases ps' with
      | nil => cases e
      | cons p ps' =>
        cases e
        unfold pvPart
        walk_at "D"
        rw [at0]
        exact hR _ _ ⟨ps', rfl, ex2, by rw [← ea]; simp⟩
    · obtain ⟨ps', e, ex2, ea⟩ := hI
      cases ps' with
      | cons p ps' => cases e
      | nil =>
        simp only [List.map_nil, List.append_nil] at ea
        subst ea
        simp only [bkS]
        refine ⟨_, _, rfl, .inr ⟨p, rfl, mset_same⟩, nmUp_rising hup, by rw [List.length_map]; exact hl', fun S' e' => q S' ?_⟩
        exact (ex.trans (ex2.new2 hp)).trans e'
end
end K06

namespace K06
open PySem PySem.Spec PyProof.Rows L2 DL
local macro_rules | `(tactic| walk_at "D") => `(tactic| simp only [dRet, dRetN, dNext, dSeq, dIfS, dDrop, dAsg, dgName, dAndV, dOrV, dNotV, dAnd, dOr, dNot, dTest, dIf, dCB, dCons, dNil, dVar, getv, dC, sc, dChain, dOp, dUn, dI0, dI, dU, dEqS, dNeS, dIsi, dLen, dIx, dPart, dNoPart, dSl, dSlX, dCall, dAllC, dTup, dLst, dYes, dInSg, dInF, seqP, dLc, bkS, dFor, bkD, dIStr, dITup, dIZip, dIList, wipeD, dWGet, dCallA, dDictK, dDIn, dListC, dTupC, dDGet, dgTup, dgCons, dgNil, dPar, dPar3, dBM, dBM0, dAppend, dExtend, dPop, dty, dBits, dgSub, dSetL, dFld, dsFld, dMeth, dMake, dDGet1, dDSetd, dsDPut, dRevL, dPlus, dDisp, dPairs, dIEnum, dIEnumT, dIRng1, dIRng2, dIKeys, dLock, dTupF1, dTupF, dDictN, dSortN, dInN, dDcN, dInT, dIsN, dNotN, dIsB, dI2, dInt1, dRepr, dWhile, dDNewK, dAug, dBreak, dCont, dNever,
  startD, List.map_cons, List.map_nil, List.length_cons, List.length_nil, List.getElem?_cons_zero, List.getElem?_cons_succ, List.cons_append, List.nil_append, List.replicate, Nat.reduceAdd, Nat.reduceSub, List.set_cons_zero, List.set_cons_succ, isB, tyP, okTy, optD_some, optD_none, Option.isSome_some, true_and, and_true, if_true, if_false, Bool.false_eq_true, List.all_cons, List.all_nil, beq_self_eq_true, eqP_int, eqP_str, scal_int, scal_str, Bool.not_true, Bool.not_false, decide_true, decide_false])
/-! ### good heads and graphs -/
def GoodP (ns : List Str) (m : Nat) (ps : List (Str × Nat)) : Prop := (∀ p ∈ ps, p.1 ∈ ns) ∧ (∀ p ∈ ps, p.2 < m) ∧ NmUp ps ∧ ps.length ≤ 400
def GoodH (m : Nat) : Hd → Prop
  | .fn a b => a < m ∧ b < m
  | .rc ps => GoodP labels m ps
  | .vr ps => ps ≠ [] ∧ GoodP tags m ps
  | _ => True
theorem GoodH.ok {m : Nat} {h : Hd} (g : GoodH m h) : HdOk h := by
  cases h with
  | rc ps => exact fun p hp => List.mem_append_left _ (g.1 p hp)
  | vr ps => exact fun p hp => List.mem_append_right _ (g.2.1 p hp)
  | _ => trivial
structure GoodR (m : Nat) (bad : Hd) (rs : List (Nat × Hd)) : Prop where
  hd : ∀ r ∈ rs, r.1 < m ∧ GoodH m r.2 ∧ r.2 ≠ bad
  len : rs.length ≤ 1000
  up : Rising (rs.map pvRow)
structure GoodE (m : Nat) (es : List (Nat × Nat)) : Prop where
  lt : ∀ p ∈ es, p.1 < m ∧ p.2 < m
  len : es.length ≤ m * m
  up : Rising (es.map pvPr)
def fewH : Hd → Nat
  | .rc ps => ps.length
  | .vr ps => ps.length
  | _ => 0
structure GoodG (g : Gr) : Prop where
  loS : g.lo.length ≤ 30
  upS : g.up.length ≤ 30
  few : ∀ r ∈ g.lo, fewH r.2 ≤ 3
  pos : 1 ≤ g.many
  most : g.many ≤ 14
  lo : GoodR g.many .none g.lo
  up : GoodR g.many .any g.up
  ed : GoodE g.many g.ed
  al : GoodE g.many g.al
def wordH : Hd → Str
  | .num => "num" | .fn _ _ => "fun" | .rc _ => "rec" | .vr _ => "var" | .any => "any" | .none => "none"
def restH : Hd → List PV
  | .fn a b => [.int a, .int b]
  | .rc ps => [pvParts ps]
  | .vr ps => [pvParts ps]
  | _ => []
theorem pvH_eq (h : Hd) : pvH h = .tup (.str (wordH h) :: restH h) := by cases h <;> rfl
theorem size_H (h : Hd) : sizes.lookup (wordH h) = some ((1 + (restH h).length : Nat) : Int) := by
  cases h with
  | num => exact (by decide +kernel : sizes.lookup ("num" : Str) = some 1)
  | fn a b => exact (by decide +kernel : sizes.lookup ("fun" : Str) = some 3)
  | rc ps => exact (by decide +kernel : sizes.lookup ("rec" : Str) = some 2)
  | vr ps => exact (by decide +kernel : sizes.lookup ("var" : Str) = some 2)
  | any => exact (by decide +kernel : sizes.lookup ("any" : Str) = some 1)
  | none => exact (by decide +kernel : sizes.lookup ("none" : Str) = some 1)
theorem w_ne2 : ("any" : Str) ≠ "fun" ∧ ("any" : Str) ≠ "rec" ∧ ("any" : Str) ≠ "var" ∧ ("none" : Str) ≠ "fun" ∧ ("none" : Str) ≠ "rec" ∧ ("none" : Str) ≠ "var" := by decide +kernel
theorem neq {a b : Str} (h : a ≠ b) : decide (a = b) = false := decide_eq_false h
theorem eqq {a : Str} : decide (a = a) = true := decide_eq_true rfl
section
variable {P : Program} {w : World} {K : PySem.W.Frag} {mg : Str → Option Value} {base : Heap} {fl ft : Addr}
def G_is_head : DSp := fun xs S Q => ∃ (h : Hd) (m : Nat), xs = [pvH h, .int m] ∧ GoodH m h ∧ ∀ S', Ext S S' → Q (.bl true) S'
theorem f_is_head {f : Addr} {fd : FuncData} (F : Fun K "is_head" "is_head" s_is_head f fd) (T : Txt K w mg fl ft) (hne : ft ≠ fl) (C_is_whole : C8.Cal P w K mg base 1 "is_whole" (spD K G_is_whole) []) (C_has_word : C8.Cal P w K mg base 1 "has_word" (spD K G_has_word) [])
    (C_are_parts : C8.Cal P w K mg base 2 "are_parts" (spD K (G_are_parts fl ft)) []) : FnOk P w K mg base CX0 (2+1) f fd ["thing", "many"] (spD K G_is_head) := by
  refine fnD F sc_is_head (fun xs S Q h => by obtain ⟨x, m, rfl, _⟩ := h; rfl) fun cdv A outer s H E hr => ?_
  refine ⟨_, (pss_cons (ps_if (PW.pt (pw_or (pt_not (pt_val (C8.pe_c C_has_word hr (by decide) (by rfl) (pa_cons (pv 0) pa_nil)))) (pw_or1 (pt_cmpR op_ne (pe_wget (by rfl) T.g_SIZES (pe_ix (ixK (K := K)) (pv 0) pe_int (fun _ _ => rfl)) ⟨rfl, rfl, rfl, rfl⟩) (pe_callB c_len (by rfl) T.b_len bt_len (pa_cons (pv 0) pa_nil)) (nomark _))))) (pss_one (ps_ret pe_bl)) pss_nil)
    (pss_cons (ps_if (pt_cmpR op_eq (pe_ix (ixK (K := K)) (pv 0) pe_int (fun _ _ => rfl)) (pe_gk T.g_FUN) (nomark _)) (pss_one (ps_ret (pe_and (C8.pe_c C_is_whole hr (by decide) (by rfl) (pa_cons (pe_ix (ixK (K := K)) (pv 0) pe_int (fun _ _ => rfl)) (pa_cons pe_int (pa_cons (pe_op op_sub (pv 1) pe_int) pa_nil)))) (pe_one (C8.pe_c C_is_whole hr (by decide) (by rfl) (pa_cons (pe_ix (ixK (K := K)) (pv 0) pe_int (fun _ _ => rfl)) (pa_cons pe_int (pa_cons (pe_op op_sub (pv 1) pe_int) pa_nil)))))))) pss_nil)
    (pss_cons (ps_if (pt_cmpR op_eq (pe_ix (ixK (K := K)) (pv 0) pe_int (fun _ _ => rfl)) (pe_gk T.g_REC) (nomark _)) (pss_one (ps_ret (C8.pe_c C_are_parts hr (by decide) (by rfl) (pa_cons (pe_ix (ixK (K := K)) (pv 0) pe_int (fun _ _ => rfl)) (pa_cons (pv 1) (pa_cons (pe_gk T.g_is_label) pa_nil)))))) pss_nil)
    (pss_cons (ps_if (pt_cmpR op_eq (pe_ix (ixK (K := K)) (pv 0) pe_int (fun _ _ => rfl)) (pe_gk T.g_VAR) (nomark _)) (pss_one (ps_ret (pe_and (pe_cmpR (op_neD (room64 hr)) (pe_ix (ixK (K := K)) (pv 0) pe_int (fun _ _ => rfl)) (pe_tup pa_nil) (nomark _)) (pe_one (C8.pe_c C_are_parts hr (by decide) (by rfl) (pa_cons (pe_ix (ixK (K := K)) (pv 0) pe_int (fun _ _ => rfl)) (pa_cons (pv 1) (pa_cons (pe_gk T.g_is_tag) pa_nil)))))))) pss_nil)
    (pss_one (ps_ret pe_bl)))))), ?_⟩
  try dsimp only [cxOf, Cx.nox, Cx.wish]
  refine ⟨_, inferInstance, ?_⟩
  rintro _ S Q ⟨h, m, rfl, hg, q⟩
  have hsz := size_H h
  have hpv := pvH_eq h
  walk_at "D"
  refine ⟨h, rfl, hg.ok, ?_⟩
  rw [hpv]
  simp only [Bool.not_true, Bool.false_eq_true, if_false, at0, optD_some, hsz, seqP, List.length_cons]
  have e1 : (!decide (((1 + (restH h).length : Nat) : Int) = (((restH h).length + 1 : Nat) : Int))) = false := by
    rw [Nat.add_comm]; simp
  simp only [eqP_int, scal_int, true_and, e1, Bool.false_eq_true, if_false]
  obtain ⟨n1, n2, n3, n4, n5, n6⟩ := w_ne
  cases h with
  | fn a b =>
    simp only [wordH, restH, scal_str, eqP_str, eqq, if_true, true_and, at1, at2, optD_some]
    refine ⟨_, _, _, rfl, by omega, by have := hg.1; omega, ?_⟩
    refine ⟨_, _, _, rfl, by omega, by have := hg.2; omega, q S Ext.refl⟩
  | rc ps =>
    simp only [wordH, restH, scal_str, eqP_str, eqq, neq (Ne.symm n4), Bool.false_eq_true, if_false, if_true, true_and, at1, optD_some]
    exact ⟨ps, m, fl, rfl, .inl ⟨rfl, hg.1⟩, hg.2.1, hg.2.2.1, hg.2.2.2, q⟩
  | vr ps =>
    simp only [wordH, restH, scal_str, eqP_str, eqq, neq (Ne.symm n5), neq (Ne.symm n6), Bool.false_eq_true, if_false, if_true, true_and, at1, optD_some]
    refine ⟨Nat.zero_le _, ne_nil_tup (dat_parts (GoodH.ok hg)) (by omega) rfl not ?_⟩
    have e2 : decide (ps.map pvPart = []) = false := decide_eq_false (by simpa using hg.1)
    simp only [e2, Bool.not_false, if_true]
    exact ⟨ps, m, ft, rfl, .inr ⟨rfl, hne, hg.2.1⟩, hg.2.2.1, hg.2.2.2.1, hg.2.2.2.2, q⟩
  | num =>
    simp only [wordH, restH, scal_str, eqP_str, neq n1, neq n2, neq n3, Bool.false_eq_true, if_false, true_and]
    exact q S Ext.refl
  | any =>
    obtain ⟨m1, m2, m3, m4, m5, m6⟩ := w_ne2
    simp only [wordH, restH, scal_str, eqP_str, neq m1, neq m2, neq m3, Bool.false_eq_true, if_false, true_and]
    exact q S Ext.refl
  | none =>
    obtain ⟨m1, m2, m3, m4, m5, m6⟩ := w_ne2
    simp only [wordH, restH, scal_str, eqP_str, neq m4, neq m5, neq m6, Bool.false_eq_true, if_false, true_and]
    exact q S Ext.refl
/-- rows of heads; bad: the head that must not be there -/
def G_are_heads : DSp := fun xs S Q => ∃ (rs : List (Nat × Hd)) (m : Nat) (bad : Hd), xs = [.tup (rs.map pvRow), .int m, .str (wordH bad)] ∧ (bad = .none ∨ bad = .any) ∧ GoodR m bad rs ∧ ∀ S', Ext S S' → Q (.bl true) S'
theorem word_ne {h bad : Hd} (hb : bad = .none ∨ bad = .any) (hn : h ≠ bad) : wordH h ≠ wordH bad := by
  have w3 : ("num" : Str) ≠ "none" ∧ ("num" : Str) ≠ "any" ∧ ("any" : Str) ≠ "none" := by decide +kernel
  obtain ⟨m1, m2, m3, m4, m5, m6⟩ := w_ne2
  rcases hb with rfl | rfl <;> cases h <;> first
    | exact absurd rfl hn
    | exact Ne.symm m1 | exact Ne.symm m2 | exact Ne.symm m3 | exact Ne.symm m4 | exact Ne.symm m5 | exact Ne.symm m6 | exact w3.1 | exact w3.2.1 | exact w3.2.2 | exact Ne.symm w3.2.2
theorem f_are_heads {f : Addr} {fd : FuncData} (F : Fun K "are_heads" "are_heads" s_are_heads f fd) (T : Txt K w mg fl ft) (C_is_whole : C8.Cal P w K mg base 1 "is_whole" (spD K G_is_whole) []) (C_is_head : C8.Cal P w K mg base 3 "is_head" (spD K G_is_head) [])
    (C_are_rising : C8.Cal P w K mg base 1 "are_rising" (spD K G_are_rising) []) : FnOk P w K mg base CX0 (3+1) f fd ["thing", "many", "shut"] (spD K G_are_heads) := by
  refine fnD F sc_are_heads (fun xs S Q h => by obtain ⟨x, m, b, rfl, _⟩ := h; rfl) fun cdv A outer s H E hr => ?_
  refine ⟨_, (pss_cons (ps_if (PW.pt (pw_or (pt_not (pt_val (pe_callB call_isi (by rfl) T.b_isinstance bt_isinstance (pa_cons (pv 0) (pa_cons (pe_cls (n := "tuple") (by rfl) T.b_tuple bt_tuple) pa_nil))))) (pw_or1 (pt_cmpR op_gt (pe_callB c_len (by rfl) T.b_len bt_len (pa_cons (pv 0) pa_nil)) (pe_gk T.g_MOST_ROWS) (nomark _))))) (pss_one (ps_ret pe_bl)) pss_nil)
    (pss_cons (ps_for PassesOwn.never rfl (pi_tup (pv 0)) (pg_name (i := 3) sc_are_heads.nd rfl (Or.inl rfl)) (pss_cons (ps_if (PW.pt (pw_or (pt_not (pt_val (pe_callB call_isi (by rfl) T.b_isinstance bt_isinstance (pa_cons (pv 3) (pa_cons (pe_cls (n := "tuple") (by rfl) T.b_tuple bt_tuple) pa_nil))))) (pw_or (pt_cmpR op_ne (pe_callB c_len (by rfl) T.b_len bt_len (pa_cons (pv 3) pa_nil)) pe_int (nomark _)) (pw_or1 (pt_not (pt_val (C8.pe_c C_is_whole hr (by decide) (by rfl) (pa_cons (pe_ix (ixK (K := K)) (pv 3) pe_int (fun _ _ => rfl)) (pa_cons pe_int (pa_cons (pe_op op_sub (pv 1) pe_int) pa_nil)))))))))) (pss_one (ps_ret pe_bl)) pss_nil)
    (pss_one (ps_if (PW.pt (pw_or (pt_not (pt_val (C8.pe_c C_is_head hr (by decide) (by rfl) (pa_cons (pe_ix (ixK (K := K)) (pv 3) pe_int (fun _ _ => rfl)) (pa_cons (pv 1) pa_nil))))) (pw_or1 (pt_cmpR op_eq (pe_ix (ixK (K := K)) (pe_ix (ixK (K := K)) (pv 3) pe_int (fun _ _ => rfl)) pe_int (fun _ _ => rfl)) (pv 2) (nomark _))))) (pss_one (ps_ret pe_bl)) pss_nil))))
    (pss_one (ps_ret (C8.pe_c C_are_rising hr (by decide) (by rfl) (pa_cons (pv 0) pa_nil)))))), ?_⟩
  try dsimp only [cxOf, Cx.nox, Cx.wish]
  refine ⟨_, inferInstance, ?_⟩
  rintro _ S Q ⟨rs, m, bad, rfl, hb, hg, q⟩
  have hl := hg.len
  walk_at "D"
  have e1 : decide (((rs.map pvRow).length : Int) > 1000000) = false := decide_eq_false (by rw [List.length_map]; omega)
  simp only [gt_iff_lt] at e1
  simp only [gt_iff_lt, e1, tupP, optD_some, Bool.false_eq_true, if_false]
  refine ⟨by decide, ?_⟩
  refine forR_inv (fun r ρ S1 => ∃ rs' o, r = rs'.map pvRow ∧ (∀ p ∈ rs', p ∈ rs) ∧ Ext S S1 ∧ ρ = [some (.tup (rs.map pvRow)), some (.int m), some (.str (wordH bad)), o]) (fun x r ρ S1 hI N hN => ?_) (fun ρ S1 hI => ?_) _ _ _ ⟨rs, none, rfl, fun _ h => h, Ext.refl, rfl⟩
  · obtain ⟨ps', o, e, hs, ex, rfl⟩ := hI
    cases ps' with
    | nil => cases e
    | cons p ps' =>
      cases e
      obtain ⟨hp1, hp2, hp3⟩ := hg.hd p (hs p List.mem_cons_self)
      unfold pvRow
      walk_at "D"
      rw [at0, at1]
      simp only [optD_some]
      rw [if_neg (by simp)]
      refine ⟨by decide, _, _, _, rfl, by omega, by omega, ?_⟩
      simp only [Bool.not_true, Bool.false_eq_true, if_false]
      refine ⟨p.2, m, rfl, hp2, fun S2 e2 => ?_⟩
      rw [pvH_eq]
      simp only [Bool.not_true, Bool.false_eq_true, if_false, seqP, optD_some, at0]
      simp only [scal_str, eqP_str, neq (word_ne hb hp3), Bool.false_eq_true, if_false, true_and]
      refine hN _ _ ⟨ps', some (pvRow p), rfl, fun z hz => hs z (List.mem_cons_of_mem _ hz), ex.trans e2, ?_⟩
      rw [← pvH_eq]
      rfl
  · obtain ⟨ps', o, e, hs, ex, rfl⟩ := hI
    walk_at "D"
    exact ⟨_, _, rfl, .inl rfl, hg.up, by rw [List.length_map, sizeLine_eq]; omega, fun S' e' => q S' (ex.trans e')⟩
def G_is_pair : DSp := fun xs S Q => ∃ (p : Nat × Nat) (m : Nat), xs = [pvPr p, .int m] ∧ p.1 < m ∧ p.2 < m ∧ ∀ S', Ext S S' → Q (.bl true) S'
theorem f_is_pair {f : Addr} {fd : FuncData} (F : Fun K "is_pair" "is_pair" s_is_pair f fd) (T : Txt K w mg fl ft) (C_is_whole : C8.Cal P w K mg base 1 "is_whole" (spD K G_is_whole) []) : FnOk P w K mg base CX0 (1+1) f fd ["thing", "many"] (spD K G_is_pair) := by
  refine fnD F sc_is_pair (fun xs S Q h => by obtain ⟨x, m, rfl, _⟩ := h; rfl) fun cdv A outer s H E hr => ?_
  refine ⟨_, (pss_one (ps_ret (pe_and (pe_callB call_isi (by rfl) T.b_isinstance bt_isinstance (pa_cons (pv 0) (pa_cons (pe_cls (n := "tuple") (by rfl) T.b_tuple bt_tuple) pa_nil))) (pe_and (pe_cmpR op_eq (pe_callB c_len (by rfl) T.b_len bt_len (pa_cons (pv 0) pa_nil)) pe_int (nomark _)) (pe_one (pe_callB (cr_all rfl) (by rfl) T.b_all bt_all (pa_cons (pe_lc (own := [("one", 2)]) (tt := tYes) rfl sc_is_pair.nd (pi_tup (pv 0)) (blkOk_by (N := sc_is_pair_N) (sc := defScope s_is_pair) (by decide +kernel)) (fun _ _ _ _ _ => pg_name (i := 2) sc_is_pair.nd rfl (Or.inl rfl)) (fun _ _ _ _ _ => pts_nil) (fun _ _ _ _ _ => (C8.pe_c C_is_whole hr (by decide) (by rfl) (pa_cons (pv 2) (pa_cons pe_int (pa_cons (pe_op op_sub (pv 1) pe_int) pa_nil)))))) pa_nil))))))), ?_⟩
  try dsimp only [cxOf, Cx.nox, Cx.wish]
  refine ⟨_, inferInstance, ?_⟩
  rintro _ S Q ⟨p, m, rfl, h1, h2, q⟩
  unfold pvPr
  walk_at "D"
  refine ⟨by decide, ?_⟩
  rw [if_pos (by simp)]
  refine ⟨by decide, small8 (by simp), lcR_map (fun _ => [.bl true]) (fun x hx S1 e acc R hR => ?_) fun S1 r e hp _ => ?_⟩
  · have : ∃ i : Nat, x = .int i ∧ i < m := by
      rcases List.mem_cons.mp hx with rfl | hx
      · exact ⟨_, rfl, h1⟩
      · obtain rfl := List.mem_singleton.mp hx; exact ⟨_, rfl, h2⟩
    obtain ⟨i, rfl, hi⟩ := this
    walk_at "D"
    exact ⟨_, _, _, rfl, by omega, by omega, hR S1 Ext.refl⟩
  · simp only [bkS, lst_same, optD_some]
    rw [allB_true (by simp)]
    exact q _ (e.new2 hp)
def G_are_pairs : DSp := fun xs S Q => ∃ (es : List (Nat × Nat)) (m : Nat), xs = [.tup (es.map pvPr), .int m] ∧ m ≤ 14 ∧ GoodE m es ∧ ∀ S', Ext S S' → Q (.bl true) S'
theorem f_are_pairs {f : Addr} {fd : FuncData} (F : Fun K "are_pairs" "are_pairs" s_are_pairs f fd) (T : Txt K w mg fl ft) (C_is_pair : C8.Cal P w K mg base 2 "is_pair" (spD K G_is_pair) []) (C_are_rising : C8.Cal P w K mg base 1 "are_rising" (spD K G_are_rising) []) :
    FnOk P w K mg base CX0 (2+1) f fd ["thing", "many"] (spD K G_are_pairs) := by
  refine fnD F sc_are_pairs (fun xs S Q h => by obtain ⟨x, m, rfl, _⟩ := h; rfl) fun cdv A outer s H E hr => ?_
  refine ⟨_, (pss_cons (ps_if (PW.pt (pw_or (pt_not (pt_val (pe_callB call_isi (by rfl) T.b_isinstance bt_isinstance (pa_cons (pv 0) (pa_cons (pe_cls (n := "tuple") (by rfl) T.b_tuple bt_tuple) pa_nil))))) (pw_or1 (pt_cmpR op_gt (pe_callB c_len (by rfl) T.b_len bt_len (pa_cons (pv 0) pa_nil)) (pe_op op_mul (pv 1) (pv 1)) (nomark _))))) (pss_one (ps_ret pe_bl)) pss_nil)
    (pss_one (ps_ret (pe_and (pe_callB (cr_all rfl) (by rfl) T.b_all bt_all (pa_cons (pe_lc (own := [("pair", 2)]) (tt := tYes) rfl sc_are_pairs.nd (pi_tup (pv 0)) (blkOk_by (N := sc_are_pairs_N) (sc := defScope s_are_pairs) (by decide +kernel)) (fun _ _ _ _ _ => pg_name (i := 2) sc_are_pairs.nd rfl (Or.inl rfl)) (fun _ _ _ _ _ => pts_nil) (fun _ _ _ _ _ => (C8.pe_c C_is_pair hr (by decide) (by rfl) (pa_cons (pv 2) (pa_cons (pv 1) pa_nil))))) pa_nil)) (pe_one (C8.pe_c C_are_rising hr (by decide) (by rfl) (pa_cons (pv 0) pa_nil))))))), ?_⟩
  try dsimp only [cxOf, Cx.nox, Cx.wish]
  refine ⟨_, inferInstance, ?_⟩
  rintro _ S Q ⟨es, m, rfl, hm, hg, q⟩
  have hl := hg.len
  have hmm : m * m ≤ 196 := Nat.le_trans (Nat.mul_le_mul hm hm) (by decide)
  have hl' : (es.map pvPr).length ≤ sizeLine := by rw [List.length_map, sizeLine_eq]; omega
  walk_at "D"
  have e1 : decide ((m : Int) * m < ((es.map pvPr).length : Int)) = false := by
    refine decide_eq_false ?_
    rw [List.length_map, ← Int.natCast_mul]
    omega
  simp only [gt_iff_lt, e1, Bool.false_eq_true, if_false]
  refine ⟨by decide, .inl (by omega), by decide, hl', lcR_inv (fun r acc S2 => ∃ es', r = es'.map pvPr ∧ (∀ p ∈ es', p ∈ es) ∧ Ext S S2 ∧ ∀ x ∈ acc, x = .bl true) (fun x r acc S2 hI R hR => ?_) (fun acc S2 p hI hp _ => ?_) _ _ _ ⟨es, rfl, fun _ h => h, Ext.refl, fun x hx => by cases hx⟩⟩
  · obtain ⟨es', e, hs, ex, hb⟩ := hI
    cases es' with
    | nil => cases e
    | cons p es' =>
      cases e
      obtain ⟨h1, h2⟩ := hg.lt p (hs p List.mem_cons_self)
      walk_at "D"
      refine ⟨p, m, rfl, h1, h2, fun S3 e3 => hR _ _ ⟨es', rfl, fun z hz => hs z (List.mem_cons_of_mem _ hz), ex.trans e3, fun x hx => ?_⟩⟩
      rcases List.mem_append.mp hx with hx | hx
      · exact hb x hx
      · exact List.mem_singleton.mp hx
  · obtain ⟨es', e, hs, ex, hb⟩ := hI
    simp only [bkS, lst_same, optD_some]
    rw [allB_true hb]
    simp only [optD_some, if_true]
    exact ⟨_, _, rfl, .inl rfl, hg.up, hl', fun S' e' => q S' ((ex.new2 hp).trans e')⟩
def G_graph (b : Bool) : DSp := fun xs S Q => ∃ g, xs = [pvG g] ∧ GoodG g ∧ ∀ S', Ext S S' → Q (if b then .bl true else .non) S'
theorem f_is_graph_value {f : Addr} {fd : FuncData} (F : Fun K "is_graph_value" "is_graph_value" s_is_graph_value f fd) (T : Txt K w mg fl ft) (C_is_whole : C8.Cal P w K mg base 1 "is_whole" (spD K G_is_whole) []) (C_are_heads : C8.Cal P w K mg base 4 "are_heads" (spD K G_are_heads) [])
    (C_are_pairs : C8.Cal P w K mg base 3 "are_pairs" (spD K G_are_pairs) []) : FnOk P w K mg base CX0 (4+1) f fd ["thing"] (spD K (G_graph true)) := by
  refine fnD F sc_is_graph_value (fun xs S Q h => by obtain ⟨g, rfl, _⟩ := h; rfl) fun cdv A outer s H E hr => ?_
  refine ⟨_, (pss_cons (ps_if (PW.pt (pw_or (pt_not (pt_val (pe_callB call_isi (by rfl) T.b_isinstance bt_isinstance (pa_cons (pv 0) (pa_cons (pe_cls (n := "tuple") (by rfl) T.b_tuple bt_tuple) pa_nil))))) (pw_or (pt_cmpR op_ne (pe_callB c_len (by rfl) T.b_len bt_len (pa_cons (pv 0) pa_nil)) (pe_gk T.g_GRAPH) (nomark _)) (pw_or1 (pt_not (pt_val (C8.pe_c C_is_whole hr (by decide) (by rfl) (pa_cons (pe_ix (ixK (K := K)) (pv 0) pe_int (fun _ _ => rfl)) (pa_cons pe_int (pa_cons (pe_gk T.g_MOST_NODES) pa_nil)))))))))) (pss_one (ps_ret pe_bl)) pss_nil)
    (pss_cons (ps_asg (pv 0) (pgK (K := K) (n := 5) (pgs_cons (pg_name (i := 1) sc_is_graph_value.nd rfl (Or.inl rfl)) (pgs_cons (pg_name (i := 2) sc_is_graph_value.nd rfl (Or.inl rfl)) (pgs_cons (pg_name (i := 3) sc_is_graph_value.nd rfl (Or.inl rfl)) (pgs_cons (pg_name (i := 4) sc_is_graph_value.nd rfl (Or.inl rfl)) (pgs_cons (pg_name (i := 5) sc_is_graph_value.nd rfl (Or.inl rfl)) pgs_nil)))))))
    (pss_cons (ps_if (PW.pt (pw_or (pt_not (pt_val (C8.pe_c C_are_heads hr (by decide) (by rfl) (pa_cons (pv 2) (pa_cons (pv 1) (pa_cons (pe_gk T.g_NONE) pa_nil)))))) (pw_or1 (pt_not (pt_val (C8.pe_c C_are_heads hr (by decide) (by rfl) (pa_cons (pv 3) (pa_cons (pv 1) (pa_cons (pe_gk T.g_ANY) pa_nil))))))))) (pss_one (ps_ret pe_bl)) pss_nil)
    (pss_one (ps_ret (pe_and (C8.pe_c C_are_pairs hr (by decide) (by rfl) (pa_cons (pv 4) (pa_cons (pv 1) pa_nil))) (pe_one (C8.pe_c C_are_pairs hr (by decide) (by rfl) (pa_cons (pv 5) (pa_cons (pv 1) pa_nil)))))))))), ?_⟩
  try dsimp only [cxOf, Cx.nox, Cx.wish]
  refine ⟨_, inferInstance, ?_⟩
  rintro _ S Q ⟨g, rfl, hg, q⟩
  have h1 := hg.pos
  have h14 := hg.most
  unfold pvG
  walk_at "D"
  rw [if_neg (by simp)]
  rw [at0]
  simp only [optD_some]
  refine ⟨by decide, _, _, _, rfl, by omega, by omega, ?_⟩
  simp only [Bool.not_true, Bool.false_eq_true, if_false]
  refine ⟨g.lo, g.many, .none, rfl, .inl rfl, hg.lo, fun S1 e1 => ?_⟩
  simp only [Bool.not_true, Bool.false_eq_true, if_false]
  refine ⟨g.up, g.many, .any, rfl, .inr rfl, hg.up, fun S2 e2 => ?_⟩
  simp only [Bool.not_true, Bool.false_eq_true, if_false]
  refine ⟨g.ed, g.many, rfl, h14, hg.ed, fun S3 e3 => ?_⟩
  simp only [if_true]
  exact ⟨g.al, g.many, rfl, h14, hg.al, fun S4 e4 => q S4 (((e1.trans e2).trans e3).trans e4)⟩
theorem f_need_graph {f : Addr} {fd : FuncData} (F : Fun K "need_graph" "need_graph" s_need_graph f fd) (T : Txt K w mg fl ft) (C_is_graph_value : C8.Cal P w K mg base 5 "is_graph_value" (spD K (G_graph true)) []) : FnOk P w K mg base CX0 (5+1) f fd ["graph"] (spD K (G_graph false)) := by
  refine fnD F sc_need_graph (fun xs S Q h => by obtain ⟨g, rfl, _⟩ := h; rfl) fun cdv A outer s H E hr => ?_
  refine ⟨_, (pss_one (ps_if (pt_not (pt_val (C8.pe_c C_is_graph_value hr (by decide) (by rfl) (pa_cons (pv 0) pa_nil)))) (pss_one ps_never) pss_nil)), ?_⟩
  try dsimp only [cxOf, Cx.nox, Cx.wish]
  refine ⟨_, inferInstance, ?_⟩
  rintro _ S Q ⟨g, rfl, hg, q⟩
  walk_at "D"
  exact ⟨g, rfl, hg, q⟩
theorem f_is_graph {f : Addr} {fd : FuncData} (F : Fun K "is_graph" "is_graph" s_is_graph f fd) (T : Txt K w mg fl ft) (C_is_graph_value : C8.Cal P w K mg base 5 "is_graph_value" (spD K (G_graph true)) []) : FnOk P w K mg base CX0 (5+1) f fd ["thing"] (spD K (G_graph true)) := by
  refine fnD F sc_is_graph (fun xs S Q h => by obtain ⟨g, rfl, _⟩ := h; rfl) fun cdv A outer s H E hr => ?_
  refine ⟨_, (pss_one (ps_ret (C8.pe_c C_is_graph_value hr (by decide) (by rfl) (pa_cons (pv 0) pa_nil)))), ?_⟩
  try dsimp only [cxOf, Cx.nox, Cx.wish]
  refine ⟨_, inferInstance, ?_⟩
  rintro _ S Q ⟨g, rfl, hg, q⟩
  walk_at "D"
  exact ⟨g, rfl, hg, q⟩
end
end K06

namespace K06
open PySem PySem.Spec PyProof.Rows L2 DL
local macro_rules | `(tactic| walk_at "D") => `(tactic| simp only [dRet, dRetN, dNext, dSeq, dIfS, dDrop, dAsg, dgName, dAndV, dOrV, dNotV, dAnd, dOr, dNot, dTest, dIf, dCB, dCons, dNil, dVar, getv, dC, sc, dChain, dOp, dUn, dI0, dI, dU, dEqS, dNeS, dIsi, dLen, dIx, dPart, dNoPart, dSl, dSlX, dCall, dAllC, dTup, dLst, dYes, dInSg, dInF, seqP, dLc, bkS, dFor, bkD, dIStr, dITup, dIZip, dIList, wipeD, dWGet, dCallA, dDictK, dDIn, dListC, dTupC, dDGet, dgTup, dgCons, dgNil, dPar, dPar3, dBM, dBM0, dAppend, dExtend, dPop, dty, dBits, dgSub, dSetL, dFld, dsFld, dMeth, dMake, dDGet1, dDSetd, dsDPut, dRevL, dPlus, dDisp, dPairs, dIEnum, dIEnumT, dIRng1, dIRng2, dIKeys, dLock, dTupF1, dTupF, dDictN, dSortN, dInN, dDcN, dInT, dIsN, dNotN, dIsB, dI2, dInt1, dRepr, dWhile, dDNewK, dAug, dBreak, dCont, dNever,
  startD, List.map_cons, List.map_nil, List.length_cons, List.length_nil, List.getElem?_cons_zero, List.getElem?_cons_succ, List.cons_append, List.nil_append, List.replicate, Nat.reduceAdd, Nat.reduceSub, List.set_cons_zero, List.set_cons_succ, isB, tyP, okTy, optD_some, optD_none, Option.isSome_some, true_and, and_true, if_true, if_false, Bool.false_eq_true, List.all_cons, List.all_nil, beq_self_eq_true, eqP_int, eqP_str, scal_int, scal_str, Bool.not_true, Bool.not_false, decide_true, decide_false])
/-! ### heads that meet -/
def lkS (qs : List (Str × Nat)) (n : Str) : Option Nat := (qs.find? fun q => decide (q.1 = n)).map (·.2)
def whyA : PV := .tup [.str "arg"]
def whyR : PV := .tup [.str "res"]
def whyN (wd n : Str) : PV := .tup [.str wd, .str n]
def meetS (wd : Str) (ps qs : List (Str × Nat)) : List (PV × Nat × Nat) := ps.filterMap fun p => (lkS qs p.1).map fun v => (whyN wd p.1, p.2, v)
/-- the flows of two heads: why, from, to -/
def flowsH : Hd → Hd → List (PV × Nat × Nat)
  | .fn a b, .fn c d => [(whyA, c, a), (whyR, b, d)]
  | .rc ps, .rc qs => meetS "label" ps qs
  | .vr ps, .vr qs => meetS "tag" ps qs
  | _, _ => []
def clashH : Hd → Hd → Bool
  | .num, .num => false
  | .fn _ _, .fn _ _ => false
  | .rc ps, .rc qs => !qs.all fun q => (lkS ps q.1).isSome
  | .vr ps, .vr qs => !ps.all fun p => (lkS qs p.1).isSome
  | _, _ => true
theorem word_eq {h k : Hd} (e : wordH h = wordH k) : (h = .num ∧ k = .num) ∨ (∃ a b c d, h = .fn a b ∧ k = .fn c d) ∨ (∃ ps qs, h = .rc ps ∧ k = .rc qs) ∨ (∃ ps qs, h = .vr ps ∧ k = .vr qs) ∨ (h = .any ∧ k = .any) ∨ (h = .none ∧ k = .none) := by
  obtain ⟨n1, n2, n3, n4, n5, n6⟩ := w_ne
  obtain ⟨m1, m2, m3, m4, m5, m6⟩ := w_ne2
  have w3 : ("num" : Str) ≠ "none" ∧ ("num" : Str) ≠ "any" ∧ ("any" : Str) ≠ "none" := by decide +kernel
  cases h <;> cases k <;> first
    | exact .inl ⟨rfl, rfl⟩
    | exact .inr (.inl ⟨_, _, _, _, rfl, rfl⟩)
    | exact .inr (.inr (.inl ⟨_, _, rfl, rfl⟩))
    | exact .inr (.inr (.inr (.inl ⟨_, _, rfl, rfl⟩)))
    | exact .inr (.inr (.inr (.inr (.inl ⟨rfl, rfl⟩))))
    | exact .inr (.inr (.inr (.inr (.inr ⟨rfl, rfl⟩))))
    | exact absurd e n1 | exact absurd e n2 | exact absurd e n3 | exact absurd e n4 | exact absurd e n5 | exact absurd e n6
    | exact absurd e.symm n1 | exact absurd e.symm n2 | exact absurd e.symm n3 | exact absurd e.symm n4 | exact absurd e.symm n5 | exact absurd e.symm n6
    | exact absurd e m1 | exact absurd e m2 | exact absurd e m3 | exact absurd e m4 | exact absurd e m5 | exact absurd e m6
    | exact absurd e.symm m1 | exact absurd e.symm m2 | exact absurd e.symm m3 | exact absurd e.symm m4 | exact absurd e.symm m5 | exact absurd e.symm m6
    | exact absurd e w3.1 | exact absurd e w3.2.1 | exact absurd e w3.2.2 | exact absurd e.symm w3.1 | exact absurd e.symm w3.2.1 | exact absurd e.symm w3.2.2
/-! dicts of parts -/
def kvS (ps : List (Str × Nat)) : List (Key × PV) := ps.map fun p => (.inr p.1, .int p.2)
theorem kvsP_parts : ∀ ps : List (Str × Nat), kvsP (ps.map pvPart) = some (kvS ps)
  | [] => by simp [kvsP, kvS]
  | p :: ps => by
    rw [List.map_cons]
    show kvsP (.tup [.str p.1, .int p.2] :: ps.map pvPart) = _
    rw [kvsP, kvsP_parts ps]
    rfl
theorem nodup_up {ps : List (Str × Nat)} (h : NmUp ps) : (ps.map (·.1)).Nodup := h.imp fun {a b} h e => by
  subst e
  exact List.lt_irrefl _ h
theorem putKP_new {kvs : List (Key × PV)} {k : Key} {v : PV} (h : k ∉ kvs.map (·.1)) : putKP kvs k v = kvs ++ [(k, v)] := by
  unfold putKP
  rw [if_neg]
  simp only [List.any_eq_true, decide_eq_true_eq, not_exists, not_and]
  exact fun x hx e => h (List.mem_map.mpr ⟨x, hx, e⟩)
theorem mergeP_new : ∀ {l kvs : List (Key × PV)}, (l.map (·.1)).Nodup → (∀ k ∈ l.map (·.1), k ∉ kvs.map (·.1)) → mergeP kvs l = kvs ++ l
  | [], kvs, _, _ => by simp [mergeP]
  | x :: l, kvs, h1, h2 => by
    rw [List.map_cons, List.nodup_cons] at h1
    have e : mergeP kvs (x :: l) = mergeP (putKP kvs x.1 x.2) l := rfl
    rw [e, putKP_new (h2 x.1 (by simp)), mergeP_new h1.2 fun k hk hm => ?_]
    · simp
    · rw [List.map_append] at hm
      rcases List.mem_append.mp hm with hm | hm
      · exact h2 k (by rw [List.map_cons]; exact List.mem_cons_of_mem _ hk) hm
      · simp only [List.map_cons, List.map_nil, List.mem_singleton] at hm
        exact h1.1 (hm ▸ hk)
theorem kvS_keys (ps : List (Str × Nat)) : (kvS ps).map (·.1) = (ps.map (·.1)).map Sum.inr := by simp [kvS]
theorem mergeP_parts {ps : List (Str × Nat)} (h : NmUp ps) : mergeP [] (kvS ps) = kvS ps := by
  rw [mergeP_new]
  · simp
  · rw [kvS_keys]
    exact (nodup_up h).map _ fun a b hab e => hab (Sum.inr.inj e)
  · intro k _ hm; cases hm
theorem lkP_kvS (n : Str) : ∀ ps : List (Str × Nat), lkP (kvS ps) (.inr n) = (lkS ps n).map fun (v : Nat) => PV.int v
  | [] => rfl
  | p :: ps => by
    have ih := lkP_kvS n ps
    unfold lkP lkS kvS at ih ⊢
    rw [List.map_cons]
    by_cases e : p.1 = n
    · rw [List.find?_cons_of_pos (by simp [e]), List.find?_cons_of_pos (by simp [e])]; rfl
    · rw [List.find?_cons_of_neg (by simp [e]), List.find?_cons_of_neg (by simp [e])]; exact ih
theorem atD_at {S : Mp} {a : Addr} {kvs : List (Key × PV)} {n : Str} (h : S a = some (.dk kvs)) : atD S (.loc a) (.str n) = some (lkP kvs (.inr n)) := by simp only [atD, h, keyP, Option.map_some]
theorem atD_rat {S : Mp} {a : Addr} {kvs : List (Key × PV)} {n : Str} (h : S a = some (.rdk kvs)) : atD S (.loc a) (.str n) = some (lkP kvs (.inr n)) := by simp only [atD, h, keyP, Option.map_some]
def anyW : List V := [unsc (.str "any"), unsc (.str "none")]
theorem in_words : inV (unsc (.str "num")) [unsc (.str "any"), unsc (.str "none")] = false ∧ inV (unsc (.str "fun")) [unsc (.str "any"), unsc (.str "none")] = false ∧ inV (unsc (.str "rec")) [unsc (.str "any"), unsc (.str "none")] = false ∧ inV (unsc (.str "var")) [unsc (.str "any"), unsc (.str "none")] = false ∧
    inV (unsc (.str "any")) [unsc (.str "any"), unsc (.str "none")] = true ∧ inV (unsc (.str "none")) [unsc (.str "any"), unsc (.str "none")] = true := by decide +kernel
theorem in_words2 : inV (unsc (.str "num")) [unsc (.str "rec"), unsc (.str "var")] = false ∧ inV (unsc (.str "fun")) [unsc (.str "rec"), unsc (.str "var")] = false ∧ inV (unsc (.str "rec")) [unsc (.str "rec"), unsc (.str "var")] = true ∧ inV (unsc (.str "var")) [unsc (.str "rec"), unsc (.str "var")] = true ∧
    inV (unsc (.str "any")) [unsc (.str "rec"), unsc (.str "var")] = false ∧ inV (unsc (.str "none")) [unsc (.str "rec"), unsc (.str "var")] = false := by decide +kernel
theorem allB_bl {α : Type} {f : α → Bool} : ∀ {xs : List α}, allB (xs.map fun x => PV.bl (f x)) = some (xs.all f)
  | [] => rfl
  | x :: xs => by rw [List.map_cons, DL.allB, allB_bl]; simp
section
variable {P : Program} {w : World} {K : PySem.W.Frag} {mg : Str → Option Value} {base : Heap} {fl ft : Addr}
def G_do_clash : DSp := fun xs S Q => ∃ (h k : Hd) (m : Nat), xs = [pvH h, pvH k] ∧ GoodH m h ∧ GoodH m k ∧ ∀ S', Ext S S' → Q (.bl (clashH h k)) S'
theorem small400 {n : Nat} (h : n ≤ 400) : n ≤ sizeLine := by rw [sizeLine_eq]; omega
theorem f_do_clash {f : Addr} {fd : FuncData} (F : Fun K "do_clash" "do_clash" s_do_clash f fd) (T : Txt K w mg fl ft) : FnOk P w K mg base CX0 (0+1) f fd ["lower", "upper"] (spD K G_do_clash) := by
  refine fnD F sc_do_clash (fun xs S Q h => by obtain ⟨x, y, m, rfl, _⟩ := h; rfl) fun cdv A outer s H E hr => ?_
  refine ⟨_, (pss_cons (ps_if (PW.pt (pw_or (pt_cmpR op_ne (pe_ix (ixK (K := K)) (pv 0) pe_int (fun _ _ => rfl)) (pe_ix (ixK (K := K)) (pv 1) pe_int (fun _ _ => rfl)) (nomark _)) (pw_or1 (pt_cmpR op_in_seq (pe_ix (ixK (K := K)) (pv 0) pe_int (fun _ _ => rfl)) (pe_tup (pa_cons (pe_gk T.g_ANY) (pa_cons (pe_gk T.g_NONE) pa_nil))) (by rfl))))) (pss_one (ps_ret pe_bl)) pss_nil)
    (pss_cons (ps_if (pt_cmpR op_eq (pe_ix (ixK (K := K)) (pv 0) pe_int (fun _ _ => rfl)) (pe_gk T.g_REC) (nomark _)) (pss_cons (ps_set (i := 2) sc_do_clash.nd rfl (Or.inr rfl) (pe_callTy (c_dictK rfl) (by rfl) T.b_dict bt_dict (pa_cons (pe_ix (ixK (K := K)) (pv 0) pe_int (fun _ _ => rfl)) pa_nil)))
    (pss_one (ps_ret (pe_not (pe_callB (cr_all rfl) (by rfl) T.b_all bt_all (pa_cons (pe_lc (own := [("label", 3), ("node", 4)]) (tt := tYes) rfl sc_do_clash.nd (pi_tup (pe_ix (ixK (K := K)) (pv 1) pe_int (fun _ _ => rfl))) (blkOk_by (N := sc_do_clash_N) (sc := defScope s_do_clash) (by decide +kernel)) (fun _ _ _ _ _ => pgK (K := K) (n := 2) (pgs_cons (pg_name (i := 3) sc_do_clash.nd rfl (Or.inl rfl)) (pgs_cons (pg_name (i := 4) sc_do_clash.nd rfl (Or.inl rfl)) pgs_nil))) (fun _ _ _ _ _ => pts_nil) (fun _ _ _ _ _ => (pe_cmp (pc_din (hu_of hr) (pv 3) (pv 2))))) pa_nil)))))) pss_nil)
    (pss_cons (ps_if (pt_cmpR op_eq (pe_ix (ixK (K := K)) (pv 0) pe_int (fun _ _ => rfl)) (pe_gk T.g_VAR) (nomark _)) (pss_cons (ps_set (i := 2) sc_do_clash.nd rfl (Or.inr rfl) (pe_callTy (c_dictK rfl) (by rfl) T.b_dict bt_dict (pa_cons (pe_ix (ixK (K := K)) (pv 1) pe_int (fun _ _ => rfl)) pa_nil)))
    (pss_one (ps_ret (pe_not (pe_callB (cr_all rfl) (by rfl) T.b_all bt_all (pa_cons (pe_lc (own := [("tag", 5), ("node", 4)]) (tt := tYes) rfl sc_do_clash.nd (pi_tup (pe_ix (ixK (K := K)) (pv 0) pe_int (fun _ _ => rfl))) (blkOk_by (N := sc_do_clash_N) (sc := defScope s_do_clash) (by decide +kernel)) (fun _ _ _ _ _ => pgK (K := K) (n := 2) (pgs_cons (pg_name (i := 5) sc_do_clash.nd rfl (Or.inl rfl)) (pgs_cons (pg_name (i := 4) sc_do_clash.nd rfl (Or.inl rfl)) pgs_nil))) (fun _ _ _ _ _ => pts_nil) (fun _ _ _ _ _ => (pe_cmp (pc_din (hu_of hr) (pv 5) (pv 2))))) pa_nil)))))) pss_nil)
    (pss_one (ps_ret pe_bl))))), ?_⟩
  try dsimp only [cxOf, Cx.nox, Cx.wish]
  refine ⟨_, inferInstance, ?_⟩
  rintro _ S Q ⟨h, k, m, rfl, gh, gk, q⟩
  obtain ⟨n1, n2, n3, n4, n5, n6⟩ := w_ne
  by_cases e : wordH h = wordH k
  · obtain ⟨i1, i2, i3, i4, i5, i6⟩ := in_words
    rcases word_eq e with ⟨rfl, rfl⟩ | ⟨a, b, c, d, rfl, rfl⟩ | ⟨ps, qs, rfl, rfl⟩ | ⟨ps, qs, rfl, rfl⟩ | ⟨rfl, rfl⟩ | ⟨rfl, rfl⟩
    · unfold pvH
      walk_at "D"
      simp only [at0, at1, optD_some, scal_str, eqP_str, decide_true, Bool.not_true, Bool.false_eq_true, if_false, if_true, true_and, flatP, List.all_cons, List.all_nil, Bool.and_self, i1, id, neq n2, neq n3, List.map_cons, List.map_nil]
      exact ⟨by decide, q S Ext.refl⟩
    · unfold pvH
      walk_at "D"
      simp only [at0, at1, optD_some, scal_str, eqP_str, decide_true, Bool.not_true, Bool.false_eq_true, if_false, if_true, true_and, flatP, List.all_cons, List.all_nil, Bool.and_self, i2, id, neq n4, neq n5]
      exact ⟨by decide, q S Ext.refl⟩
    · unfold pvH pvParts
      walk_at "D"
      simp only [at0, at1, optD_some, scal_str, eqP_str, decide_true, Bool.not_true, Bool.false_eq_true, if_false, if_true, true_and, flatP, List.all_cons, List.all_nil, Bool.and_self, i3, id]
      refine ⟨by decide, rfl, ?_⟩
      rw [kvsP_parts]
      simp only [optD_some]
      rw [mergeP_parts gh.2.2.1]
      intro d hd
      have hd' : (mset S d (some (.dk (kvS ps)))) d = some (.dk (kvS ps)) := mset_same
      refine ⟨by decide, by rw [List.length_map]; exact small400 gk.2.2.2, lcR_inv (fun r acc S2 => ∃ qs', r = qs'.map pvPart ∧ Ext (mset S d (some (.dk (kvS ps)))) S2 ∧ acc ++ qs'.map (fun q => PV.bl (lkS ps q.1).isSome) = qs.map (fun q => PV.bl (lkS ps q.1).isSome)) (fun x r acc S2 hI R hR => ?_) (fun acc S2 p hI hp _ => ?_) _ _ _ ⟨qs, rfl, Ext.refl, rfl⟩⟩
      · obtain ⟨qs', e', ex, ea⟩ := hI
        cases qs' with
        | nil => cases e'
        | cons q' qs' =>
          cases e'
          unfold pvPart
          walk_at "D"
          rw [atD_at (ex d _ hd')]
          simp only [optD_some, lkP_kvS, Option.isSome_map, id]
          exact hR _ _ ⟨qs', rfl, ex, by rw [← ea]; simp⟩
      · obtain ⟨qs', e', ex, ea⟩ := hI
        cases qs' with
        | cons q' qs' => cases e'
        | nil =>
          simp only [List.map_nil, List.append_nil] at ea
          subst ea
          simp only [bkS, lst_same, optD_some]
          rw [allB_bl]
          simp only [optD_some]
          refine (?_ : Q (.bl (!qs.all fun q => (lkS ps q.1).isSome)) _)
          exact q _ (((Ext.new hd).trans ex).new2 hp)
    · unfold pvH pvParts
      walk_at "D"
      simp only [at0, at1, optD_some, scal_str, eqP_str, decide_true, Bool.not_true, Bool.false_eq_true, if_false, if_true, true_and, flatP, List.all_cons, List.all_nil, Bool.and_self, i4, id, neq (Ne.symm n6)]
      refine ⟨by decide, rfl, ?_⟩
      rw [kvsP_parts]
      simp only [optD_some]
      rw [mergeP_parts gk.2.2.2.1]
      intro d hd
      have hd' : (mset S d (some (.dk (kvS qs)))) d = some (.dk (kvS qs)) := mset_same
      refine ⟨by decide, by rw [List.length_map]; exact small400 gh.2.2.2.2, lcR_inv (fun r acc S2 => ∃ qs', r = qs'.map pvPart ∧ Ext (mset S d (some (.dk (kvS qs)))) S2 ∧ acc ++ qs'.map (fun q => PV.bl (lkS qs q.1).isSome) = ps.map (fun q => PV.bl (lkS qs q.1).isSome)) (fun x r acc S2 hI R hR => ?_) (fun acc S2 p hI hp _ => ?_) _ _ _ ⟨ps, rfl, Ext.refl, rfl⟩⟩
      · obtain ⟨qs', e', ex, ea⟩ := hI
        cases qs' with
        | nil => cases e'
        | cons q' qs' =>
          cases e'
          unfold pvPart
          walk_at "D"
          rw [atD_at (ex d _ hd')]
          simp only [optD_some, lkP_kvS, Option.isSome_map, id]
          exact hR _ _ ⟨qs', rfl, ex, by rw [← ea]; simp⟩
      · obtain ⟨qs', e', ex, ea⟩ := hI
        cases qs' with
        | cons q' qs' => cases e'
        | nil =>
          simp only [List.map_nil, List.append_nil] at ea
          subst ea
          simp only [bkS, lst_same, optD_some]
          rw [allB_bl]
          simp only [optD_some]
          exact q _ (((Ext.new hd).trans ex).new2 hp)
    · unfold pvH
      walk_at "D"
      simp only [at0, at1, optD_some, scal_str, eqP_str, decide_true, Bool.not_true, Bool.false_eq_true, if_false, if_true, true_and, flatP, List.all_cons, List.all_nil, Bool.and_self, i5, id]
      exact ⟨by decide, q S Ext.refl⟩
    · unfold pvH
      walk_at "D"
      simp only [at0, at1, optD_some, scal_str, eqP_str, decide_true, Bool.not_true, Bool.false_eq_true, if_false, if_true, true_and, flatP, List.all_cons, List.all_nil, Bool.and_self, i6, id]
      exact ⟨by decide, q S Ext.refl⟩
  · have hc : clashH h k = true := by
      cases h <;> cases k <;> first | rfl | exact absurd rfl e
    rw [hc] at q
    rw [pvH_eq h, pvH_eq k]
    walk_at "D"
    simp only [at0, optD_some, scal_str, eqP_str, decide_eq_false e, Bool.not_false, if_true, true_and]
    exact q S Ext.refl
def pvFlow (t : PV × Nat × Nat) : PV := .tup [t.1, .int t.2.1, .int t.2.2]
def G_flows_of_heads : DSp := fun xs S Q => ∃ (h k : Hd) (m : Nat), xs = [pvH h, pvH k] ∧ GoodH m h ∧ GoodH m k ∧ ∀ S' p, Ext S S' → S p = none → S' p = some (.lst ((flowsH h k).map pvFlow)) → Q (.loc p) S'
theorem none_back {S S1 : Mp} {p : Addr} (e : Ext S S1) (h : S1 p = none) : S p = none := by
  cases q : S p with
  | none => rfl
  | some o => rw [e p o q] at h; cases h
theorem f_flows_of_heads {f : Addr} {fd : FuncData} (F : Fun K "flows_of_heads" "flows_of_heads" s_flows_of_heads f fd) (T : Txt K w mg fl ft) : FnOk P w K mg base CX0 (0+1) f fd ["lower", "upper"] (spD K G_flows_of_heads) := by
  refine fnD F sc_flows_of_heads (fun xs S Q h => by obtain ⟨x, y, m, rfl, _⟩ := h; rfl) fun cdv A outer s H E hr => ?_
  refine ⟨_, (pss_cons (ps_if (pt_cmpR op_ne (pe_ix (ixK (K := K)) (pv 0) pe_int (fun _ _ => rfl)) (pe_ix (ixK (K := K)) (pv 1) pe_int (fun _ _ => rfl)) (nomark _)) (pss_one (ps_ret (pe_lst pa_nil))) pss_nil)
    (pss_cons (ps_if (pt_cmpR op_eq (pe_ix (ixK (K := K)) (pv 0) pe_int (fun _ _ => rfl)) (pe_gk T.g_FUN) (nomark _)) (pss_one (ps_ret (pe_lst (pa_cons (pe_tup (pa_cons (pe_tup (pa_cons pe_str pa_nil)) (pa_cons (pe_ix (ixK (K := K)) (pv 1) pe_int (fun _ _ => rfl)) (pa_cons (pe_ix (ixK (K := K)) (pv 0) pe_int (fun _ _ => rfl)) pa_nil)))) (pa_cons (pe_tup (pa_cons (pe_tup (pa_cons pe_str pa_nil)) (pa_cons (pe_ix (ixK (K := K)) (pv 0) pe_int (fun _ _ => rfl)) (pa_cons (pe_ix (ixK (K := K)) (pv 1) pe_int (fun _ _ => rfl)) pa_nil)))) pa_nil))))) pss_nil)
    (pss_cons (ps_if (pt_cmpR op_in_seq (pe_ix (ixK (K := K)) (pv 0) pe_int (fun _ _ => rfl)) (pe_tup (pa_cons (pe_gk T.g_REC) (pa_cons (pe_gk T.g_VAR) pa_nil))) (by rfl)) (pss_cons (ps_asg (pe_tup (pa_cons (pe_ifExp (pt_cmpR op_eq (pe_ix (ixK (K := K)) (pv 0) pe_int (fun _ _ => rfl)) (pe_gk T.g_REC) (nomark _)) pe_str pe_str) (pa_cons (pe_callTy (c_dictK rfl) (by rfl) T.b_dict bt_dict (pa_cons (pe_ix (ixK (K := K)) (pv 1) pe_int (fun _ _ => rfl)) pa_nil)) pa_nil))) (pgK (K := K) (n := 2) (pgs_cons (pg_name (i := 2) sc_flows_of_heads.nd rfl (Or.inr rfl)) (pgs_cons (pg_name (i := 3) sc_flows_of_heads.nd rfl (Or.inr rfl)) pgs_nil))))
    (pss_one (ps_ret (pe_lc (own := [("name", 4), ("node", 5)]) rfl sc_flows_of_heads.nd (pi_tup (pe_ix (ixK (K := K)) (pv 0) pe_int (fun _ _ => rfl))) (blkOk_by (N := sc_flows_of_heads_N) (sc := defScope s_flows_of_heads) (by decide +kernel)) (fun _ _ _ _ _ => pgK (K := K) (n := 2) (pgs_cons (pg_name (i := 4) sc_flows_of_heads.nd rfl (Or.inl rfl)) (pgs_cons (pg_name (i := 5) sc_flows_of_heads.nd rfl (Or.inl rfl)) pgs_nil))) (fun _ _ _ _ _ => (pts_one (pt_cmp (pc_din (hu_of hr) (pv 4) (pv 3))))) (fun _ _ _ _ _ => (pe_tup (pa_cons (pe_tup (pa_cons (pv 2) (pa_cons (pv 4) pa_nil))) (pa_cons (pv 5) (pa_cons (pe_dget (hu_of hr) (pv 3) (pv 4) (fun _ _ => rfl)) pa_nil))))))))) pss_nil)
    (pss_one (ps_ret (pe_lst pa_nil)))))), ?_⟩
  try dsimp only [cxOf, Cx.nox, Cx.wish]
  refine ⟨_, inferInstance, ?_⟩
  rintro _ S Q ⟨h, k, m, rfl, gh, gk, q⟩
  obtain ⟨n1, n2, n3, n4, n5, n6⟩ := w_ne
  by_cases e : wordH h = wordH k
  · obtain ⟨i1, i2, i3, i4, i5, i6⟩ := in_words2
    obtain ⟨m1, m2, m3, m4, m5, m6⟩ := w_ne2
    have plain : flowsH h k = [] → ∀ p, S p = none → Q (.loc p) (mset S p (some (.lst []))) := fun hf p hp => q _ p (Ext.new hp) hp (by rw [mset_same, hf]; rfl)
    rcases word_eq e with ⟨rfl, rfl⟩ | ⟨a, b, c, d, rfl, rfl⟩ | ⟨ps, qs, rfl, rfl⟩ | ⟨ps, qs, rfl, rfl⟩ | ⟨rfl, rfl⟩ | ⟨rfl, rfl⟩
    · unfold pvH
      walk_at "D"
      simp only [at0, at1, optD_some, scal_str, eqP_str, decide_true, Bool.not_true, Bool.false_eq_true, if_false, if_true, true_and, flatP, List.all_cons, List.all_nil, Bool.and_self, i1, id, neq n1]
      exact ⟨by decide, Nat.zero_le _, plain rfl⟩
    · unfold pvH
      walk_at "D"
      simp only [at0, at1, at2, optD_some, scal_str, eqP_str, decide_true, Bool.not_true, Bool.false_eq_true, if_false, if_true, true_and]
      exact ⟨by decide, by decide, by decide, by decide, by decide, fun p hp => q _ p (Ext.new hp) hp mset_same⟩
    · unfold pvH pvParts
      walk_at "D"
      simp only [at0, at1, optD_some, scal_str, eqP_str, decide_true, Bool.not_true, Bool.false_eq_true, if_false, if_true, true_and, flatP, List.all_cons, List.all_nil, Bool.and_self, i3, id, neq (Ne.symm n4)]
      refine ⟨by decide, rfl, ?_⟩
      rw [kvsP_parts]
      simp only [optD_some]
      rw [mergeP_parts gk.2.2.1]
      intro d hd
      have hd' : (mset S d (some (.dk (kvS qs)))) d = some (.dk (kvS qs)) := mset_same
      refine ⟨by decide, by decide, by rw [List.length_map]; exact small400 gh.2.2.2, lcR_inv (fun r acc S2 => ∃ ps', r = ps'.map pvPart ∧ (∀ p ∈ ps', p ∈ ps) ∧ Ext (mset S d (some (.dk (kvS qs)))) S2 ∧ acc ++ (meetS "label" ps' qs).map pvFlow = (meetS "label" ps qs).map pvFlow) (fun x r acc S2 hI R hR => ?_) (fun acc S2 p hI hp _ => ?_) _ _ _ ⟨ps, rfl, fun _ h => h, Ext.refl, rfl⟩⟩
      · obtain ⟨ps', e', hs, ex, ea⟩ := hI
        cases ps' with
        | nil => cases e'
        | cons p' ps' =>
          cases e'
          unfold pvPart
          walk_at "D"
          rw [atD_at (ex d _ hd')]
          simp only [optD_some, lkP_kvS, Option.isSome_map, id]
          have hs' : ∀ z ∈ ps', z ∈ ps := fun z hz => hs z (List.mem_cons_of_mem _ hz)
          cases el : lkS qs p'.1 with
          | none =>
            simp only [Option.isSome_none, Bool.false_eq_true, if_false]
            refine hR _ _ ⟨ps', rfl, hs', ex, ?_⟩
            rw [← ea]; simp [meetS, el]
          | some v =>
            simp only [Option.isSome_some, if_true, Option.map_some, optD_some]
            refine ⟨by decide, by decide, ?_⟩
            refine hR _ _ ⟨ps', rfl, hs', ex, ?_⟩
            rw [← ea]; simp [meetS, el, pvFlow, whyN]
      · obtain ⟨ps', e', hs, ex, ea⟩ := hI
        cases ps' with
        | cons q' qs' => cases e'
        | nil =>
          simp only [meetS, List.filterMap_nil, List.map_nil, List.append_nil] at ea
          subst ea
          simp only [bkS]
          exact q _ p (((Ext.new hd).trans ex).new2 hp) (none_back ((Ext.new hd).trans ex) hp) mset_same
    · unfold pvH pvParts
      walk_at "D"
      simp only [at0, at1, optD_some, scal_str, eqP_str, decide_true, Bool.not_true, Bool.false_eq_true, if_false, if_true, true_and, flatP, List.all_cons, List.all_nil, Bool.and_self, i4, id, neq (Ne.symm n5), neq (Ne.symm n6)]
      refine ⟨by decide, rfl, ?_⟩
      rw [kvsP_parts]
      simp only [optD_some]
      rw [mergeP_parts gk.2.2.2.1]
      intro d hd
      have hd' : (mset S d (some (.dk (kvS qs)))) d = some (.dk (kvS qs)) := mset_same
      refine ⟨by decide, by decide, by rw [List.length_map]; exact small400 gh.2.2.2.2, lcR_inv (fun r acc S2 => ∃ ps', r = ps'.map pvPart ∧ (∀ p ∈ ps', p ∈ ps) ∧ Ext (mset S d (some (.dk (kvS qs)))) S2 ∧ acc ++ (meetS "tag" ps' qs).map pvFlow = (meetS "tag" ps qs).map pvFlow) (fun x r acc S2 hI R hR => ?_) (fun acc S2 p hI hp _ => ?_) _ _ _ ⟨ps, rfl, fun _ h => h, Ext.refl, rfl⟩⟩
      · obtain ⟨ps', e', hs, ex, ea⟩ := hI
        cases ps' with
        | nil => cases e'
        | cons p' ps' =>
          cases e'
          unfold pvPart
          walk_at "D"
          rw [atD_at (ex d _ hd')]
          simp only [optD_some, lkP_kvS, Option.isSome_map, id]
          have hs' : ∀ z ∈ ps', z ∈ ps := fun z hz => hs z (List.mem_cons_of_mem _ hz)
          cases el : lkS qs p'.1 with
          | none =>
            simp only [Option.isSome_none, Bool.false_eq_true, if_false]
            refine hR _ _ ⟨ps', rfl, hs', ex, ?_⟩
            rw [← ea]; simp [meetS, el]
          | some v =>
            simp only [Option.isSome_some, if_true, Option.map_some, optD_some]
            refine ⟨by decide, by decide, ?_⟩
            refine hR _ _ ⟨ps', rfl, hs', ex, ?_⟩
            rw [← ea]; simp [meetS, el, pvFlow, whyN]
      · obtain ⟨ps', e', hs, ex, ea⟩ := hI
        cases ps' with
        | cons q' qs' => cases e'
        | nil =>
          simp only [meetS, List.filterMap_nil, List.map_nil, List.append_nil] at ea
          subst ea
          simp only [bkS]
          exact q _ p (((Ext.new hd).trans ex).new2 hp) (none_back ((Ext.new hd).trans ex) hp) mset_same
    · unfold pvH
      walk_at "D"
      simp only [at0, at1, optD_some, scal_str, eqP_str, decide_true, Bool.not_true, Bool.false_eq_true, if_false, if_true, true_and, flatP, List.all_cons, List.all_nil, Bool.and_self, i5, id, neq m1]
      exact ⟨by decide, Nat.zero_le _, plain rfl⟩
    · unfold pvH
      walk_at "D"
      simp only [at0, at1, optD_some, scal_str, eqP_str, decide_true, Bool.not_true, Bool.false_eq_true, if_false, if_true, true_and, flatP, List.all_cons, List.all_nil, Bool.and_self, i6, id, neq m4]
      exact ⟨by decide, Nat.zero_le _, plain rfl⟩
  · have hc : flowsH h k = [] := by
      cases h <;> cases k <;> first | rfl | exact absurd rfl e
    rw [hc] at q
    rw [pvH_eq h, pvH_eq k]
    walk_at "D"
    simp only [at0, optD_some, scal_str, eqP_str, decide_eq_false e, Bool.not_false, if_true, true_and]
    exact ⟨Nat.zero_le _, fun p hp => q _ p (Ext.new hp) hp mset_same⟩
end
end K06

namespace K06
open PySem
/-! ### bits -/
theorem and_nat (a b : Nat) : Builtin.bitAnd (a : Int) (b : Int) = ((a &&& b : Nat) : Int) := by
  unfold Builtin.bitAnd
  rw [decide_eq_true (Int.natCast_nonneg a), decide_eq_true (Int.natCast_nonneg b)]
  simp
theorem not_nat (a : Nat) : Builtin.bitNot (a : Int) = -(a : Int) - 1 := rfl
theorem not_not (a : Int) : Builtin.bitNot (Builtin.bitNot a) = a := by unfold Builtin.bitNot; omega
theorem or_nat (a b : Nat) : Builtin.bitOr (a : Int) (b : Int) = ((a ||| b : Nat) : Int) := by
  unfold Builtin.bitOr Builtin.bitAnd
  rw [decide_eq_false (by unfold Builtin.bitNot; omega : ¬ (0 : Int) ≤ Builtin.bitNot (a : Int)), decide_eq_false (by unfold Builtin.bitNot; omega : ¬ (0 : Int) ≤ Builtin.bitNot (b : Int))]
  simp only [not_not]
  simp
theorem andnot_nat (a b : Nat) : Builtin.bitAnd (a : Int) (Builtin.bitNot (b : Int)) = (a : Int) - ((a &&& b : Nat) : Int) := by
  unfold Builtin.bitAnd
  rw [decide_eq_true (Int.natCast_nonneg a), decide_eq_false (by unfold Builtin.bitNot; omega : ¬ (0 : Int) ≤ Builtin.bitNot (b : Int))]
  simp only [not_not]
  simp
theorem bit_and1 (r y : Nat) : Builtin.bitAnd ((r : Int) / 2 ^ y) 1 = if r.testBit y then 1 else 0 := by
  rw [PyProof.Rows.bitAnd_m1]
  have e : ((r : Int) / 2 ^ y) = ((r / 2 ^ y : Nat) : Int) := by rw [Int.natCast_ediv]; simp
  rw [e, Nat.testBit_eq_decide_div_mod_eq]
  have : (r / 2 ^ y) % 2 < 2 := Nat.mod_lt _ (by decide)
  by_cases h : r / 2 ^ y % 2 = 1
  · simp only [h, decide_true, if_true]; omega
  · simp only [h, decide_false, Bool.false_eq_true, if_false]; omega
/-- a mask taken out -/
theorem sub_mask : ∀ b c : Nat, (∀ i, c.testBit i = true → b.testBit i = true) → c ≤ b ∧ b - c = b ^^^ c := by
  intro b
  induction b using Nat.strongRecOn with
  | _ b ih =>
    intro c h
    by_cases hb : b = 0
    · subst hb
      have : c = 0 := Nat.eq_of_testBit_eq fun i => by
        cases q : c.testBit i with
        | false => simp
        | true => have := h i q; simp at this
      subst this
      simp
    · have h2 : ∀ i, (c / 2).testBit i = true → (b / 2).testBit i = true := fun i q => by
        rw [Nat.testBit_div_two] at q ⊢
        exact h _ q
      obtain ⟨l, e⟩ := ih (b / 2) (by omega) (c / 2) h2
      have h0 := h 0
      simp only [Nat.testBit_zero, decide_eq_true_eq] at h0
      have x2 : (b ^^^ c) / 2 = b / 2 ^^^ c / 2 := Nat.xor_div_two
      have x0 : (b ^^^ c) % 2 = 1 ↔ ¬ (b % 2 = 1 ↔ c % 2 = 1) := by
        have t := Nat.testBit_xor (x := b) (y := c) (i := 0)
        simp only [Nat.testBit_zero] at t
        by_cases p1 : b % 2 = 1 <;> by_cases p2 : c % 2 = 1 <;> simp [p1, p2] at t ⊢ <;> omega
      rw [← x2] at e
      have r1 := Nat.mod_lt b (show 0 < 2 by decide)
      have r2 := Nat.mod_lt c (show 0 < 2 by decide)
      have r3 := Nat.mod_lt (b ^^^ c) (show 0 < 2 by decide)
      have d1 := Nat.div_add_mod b 2
      have d2 := Nat.div_add_mod c 2
      have d3 := Nat.div_add_mod (b ^^^ c) 2
      by_cases p1 : b % 2 = 1 <;> by_cases p2 : c % 2 = 1 <;> simp only [p1, p2, iff_true, iff_false, true_iff, false_iff, not_true, not_false_iff] at x0 <;> first | omega | (constructor <;> omega)
theorem testBit_minus (b c i : Nat) : (b - (b &&& c)).testBit i = (b.testBit i && !c.testBit i) := by
  obtain ⟨_, e⟩ := sub_mask b (b &&& c) fun i h => by rw [Nat.testBit_and, Bool.and_eq_true] at h; exact h.1
  rw [e, Nat.testBit_xor, Nat.testBit_and]
  cases b.testBit i <;> cases c.testBit i <;> rfl
/-- the lowest bit -/
theorem low_bit : ∀ n : Nat, 0 < n → ∃ k, n.testBit k = true ∧ (∀ j, j < k → n.testBit j = false) ∧ n - (n &&& (n - 1)) = 2 ^ k ∧ ∀ i, (n &&& (n - 1)).testBit i = (n.testBit i && decide (i ≠ k)) := by
  intro n
  induction n using Nat.strongRecOn with
  | _ n ih =>
    intro hn
    have d1 := Nat.div_add_mod n 2
    by_cases p : n % 2 = 1
    · have e2 : (n - 1) / 2 = n / 2 := by omega
      have e0 : (n - 1) % 2 = 0 := by omega
      have b : ∀ i, (n &&& (n - 1)).testBit i = (n.testBit i && decide (i ≠ 0)) := fun i => by
        rw [Nat.testBit_and]
        cases i with
        | zero => simp [Nat.testBit_zero, e0]
        | succ i => rw [← Nat.testBit_div_two, ← Nat.testBit_div_two, e2]; simp
      refine ⟨0, by simp [Nat.testBit_zero, p], fun j h => absurd h (Nat.not_lt_zero _), ?_, b⟩
      have : n &&& (n - 1) = n - 1 := Nat.eq_of_testBit_eq fun i => by
        rw [b]
        cases i with
        | zero => simp [Nat.testBit_zero, e0]
        | succ i => rw [← Nat.testBit_div_two, ← Nat.testBit_div_two, e2]; simp
      rw [this]
      simp
      omega
    · have hm : 0 < n / 2 := by omega
      obtain ⟨k, h1, h2, h3, h4⟩ := ih (n / 2) (by omega) hm
      have e2 : (n - 1) / 2 = n / 2 - 1 := by omega
      have b : ∀ i, (n &&& (n - 1)).testBit i = (n.testBit i && decide (i ≠ k + 1)) := fun i => by
        cases i with
        | zero => simp [Nat.testBit_and, Nat.testBit_zero, p]
        | succ i =>
          have := h4 i
          rw [Nat.testBit_and] at this ⊢
          rw [← Nat.testBit_div_two, ← Nat.testBit_div_two, e2, this]
          simp
      refine ⟨k + 1, by rw [← Nat.testBit_div_two]; exact h1, fun j hj => ?_, ?_, b⟩
      · cases j with
        | zero => simp [Nat.testBit_zero, p]
        | succ j => rw [← Nat.testBit_div_two]; exact h2 j (by omega)
      · have e3 : n &&& (n - 1) = 2 * (n / 2 &&& (n / 2 - 1)) := Nat.eq_of_testBit_eq fun i => by
          cases i with
          | zero => simp [Nat.testBit_and, Nat.testBit_zero, p]
          | succ i => rw [Nat.testBit_and, ← Nat.testBit_div_two, ← Nat.testBit_div_two, e2, ← Nat.testBit_and, ← Nat.testBit_div_two (2 * _)]; simp
        rw [e3, Nat.pow_succ]
        have : n / 2 &&& (n / 2 - 1) ≤ n / 2 := Nat.and_le_left
        omega
theorem neg_low {n : Nat} (h : 0 < n) : Builtin.bitAnd (n : Int) (0 - (n : Int)) = ((n - (n &&& (n - 1)) : Nat) : Int) := by
  have e : (0 : Int) - n = Builtin.bitNot ((n - 1 : Nat) : Int) := by unfold Builtin.bitNot; omega
  rw [e, andnot_nat]
  have : n &&& (n - 1) ≤ n := Nat.and_le_left
  omega
theorem xor_low {n : Nat} (h : 0 < n) : Builtin.bitXor (n : Int) ((n - (n &&& (n - 1)) : Nat) : Int) = ((n &&& (n - 1) : Nat) : Int) := by
  obtain ⟨k, h1, h2, h3, h4⟩ := low_bit n h
  unfold Builtin.bitXor
  rw [or_nat, and_nat, h3]
  have e1 : n ||| 2 ^ k = n := Nat.eq_of_testBit_eq fun i => by
    rw [Nat.testBit_or, Nat.testBit_two_pow]
    by_cases q : k = i
    · subst q; simp [h1]
    · simp [q]
  have e2 : n &&& 2 ^ k = 2 ^ k := Nat.eq_of_testBit_eq fun i => by
    rw [Nat.testBit_and, Nat.testBit_two_pow]
    by_cases q : k = i
    · subst q; simp [h1]
    · simp [q]
  rw [e1, e2]
  have : n &&& (n - 1) ≤ n := Nat.and_le_left
  omega
theorem bits_pow (k : Nat) : Builtin.Int.intBits ((2 ^ k : Nat) : Int) = k + 1 := by
  unfold Builtin.Int.intBits
  have : ((2 ^ k : Nat) : Int) ≠ 0 := by have := Nat.two_pow_pos k; omega
  rw [if_neg (by simpa using this)]
  rw [Int.natAbs_natCast, Nat.log2_two_pow]
/-- bs: the set bits of n, from the lowest -/
structure Bits (n : Nat) (bs : List Nat) : Prop where
  up : bs.Pairwise (· < ·)
  mem : ∀ i, i ∈ bs ↔ n.testBit i = true
end K06

namespace K06
open PySem PySem.Spec PyProof.Rows L2 DL
local macro_rules | `(tactic| walk_at "D") => `(tactic| simp only [dRet, dRetN, dNext, dSeq, dIfS, dDrop, dAsg, dgName, dAndV, dOrV, dNotV, dAnd, dOr, dNot, dTest, dIf, dCB, dCons, dNil, dVar, getv, dC, sc, dChain, dOp, dUn, dI0, dI, dU, dEqS, dNeS, dIsi, dLen, dIx, dPart, dNoPart, dSl, dSlX, dCall, dAllC, dTup, dLst, dYes, dInSg, dInF, seqP, dLc, bkS, dFor, bkD, dIStr, dITup, dIZip, dIList, wipeD, dWGet, dCallA, dDictK, dDIn, dListC, dTupC, dDGet, dgTup, dgCons, dgNil, dPar, dPar3, dBM, dBM0, dAppend, dExtend, dPop, dty, dBits, dgSub, dSetL, dFld, dsFld, dMeth, dMake, dDGet1, dDSetd, dsDPut, dRevL, dPlus, dDisp, dPairs, dIEnum, dIEnumT, dIRng1, dIRng2, dIKeys, dLock, dTupF1, dTupF, dDictN, dSortN, dInN, dDcN, dInT, dIsN, dNotN, dIsB, dI2, dInt1, dRepr, dWhile, dDNewK, dAug, dBreak, dCont, dNever,
  startD, List.map_cons, List.map_nil, List.length_cons, List.length_nil, List.getElem?_cons_zero, List.getElem?_cons_succ, List.cons_append, List.nil_append, List.replicate, Nat.reduceAdd, Nat.reduceSub, List.set_cons_zero, List.set_cons_succ, isB, tyP, okTy, optD_some, optD_none, Option.isSome_some, true_and, and_true, if_true, if_false, Bool.false_eq_true, List.all_cons, List.all_nil, beq_self_eq_true, eqP_int, eqP_str, scal_int, scal_str, Bool.not_true, Bool.not_false, decide_true, decide_false])
def pvNs (bs : List Nat) : List PV := bs.map fun (i : Nat) => .int i
section
variable {P : Program} {w : World} {K : PySem.W.Frag} {mg : Str → Option Value} {base : Heap} {fl ft : Addr}
def G_ones : DSp := fun xs S Q => ∃ n k : Nat, xs = [.int n] ∧ n < 2 ^ k ∧ k ≤ 1000 ∧ ∀ S' p bs, Bits n bs → Ext S S' → S p = none → S' p = some (.lst (pvNs bs)) → Q (.loc p) S'
theorem len_lt {k : Nat} : ∀ {bs : List Nat} {a : Nat}, bs.Pairwise (· < ·) → (∀ i ∈ bs, a ≤ i ∧ i < k) → a ≤ k → bs.length ≤ k - a
  | [], _, _, _, _ => by simp
  | b :: bs, a, h, hb, hk => by
    rw [List.pairwise_cons] at h
    have h1 := hb b List.mem_cons_self
    have := len_lt (a := b + 1) h.2 (fun i hi => ⟨h.1 i hi, (hb i (List.mem_cons_of_mem _ hi)).2⟩) h1.2
    simp only [List.length_cons]
    omega
theorem f_ones {f : Addr} {fd : FuncData} (F : Fun K "ones" "ones" s_ones f fd) (T : Txt K w mg fl ft) : FnOk P w K mg base CX0 (0+1) f fd ["number"] (spD K G_ones) := by
  refine fnD F sc_ones (fun xs S Q h => by obtain ⟨n, k, rfl, _⟩ := h; rfl) fun cdv A outer s H E hr => ?_
  refine ⟨_, (pss_cons (ps_par (i := 1) (j := 2) rfl sc_ones.nd rfl rfl (by decide) rfl rfl (pa_cons (pe_lst pa_nil) (pa_cons (pv 0) pa_nil)) (by rfl))
    (pss_cons (ps_while PassesOwn.never (pt_cmpR op_ne (pv 2) pe_int (nomark _)) (pss_cons (ps_set (i := 3) sc_ones.nd rfl (Or.inl rfl) (pe_op op_and (pv 2) (pe_op op_sub pe_int (pv 2))))
    (pss_cons (ps_expr (pe_bm PySem.F.plainAttrs_list PySem.F.slot_list_append PySem.F.type_list_append mt_append (pv 1) (pa_cons (pe_op op_sub (pe_bits (pv 3)) pe_int) pa_nil)))
    (pss_one (ps_set (i := 2) sc_ones.nd rfl (Or.inl rfl) (pe_op op_xor (pv 2) (pv 3)))))))
    (pss_one (ps_ret (pv 1))))), ?_⟩
  try dsimp only [cxOf, Cx.nox, Cx.wish]
  refine ⟨_, inferInstance, ?_⟩
  rintro _ S Q ⟨n, k, rfl, hk, hk2, q⟩
  walk_at "D"
  refine ⟨Nat.zero_le _, fun p hp => ?_⟩
  refine ⟨fun m ρ S1 => ∃ (left : Nat) (bs : List Nat) (o : Option PV), m = left ∧ ρ = [some (.int n), some (.loc p), some (.int left), o] ∧ S1 p = some (.lst (pvNs bs)) ∧ Ext S S1 ∧ left ≤ n ∧ (∀ i, n.testBit i = (decide (i ∈ bs) || left.testBit i)) ∧ bs.Pairwise (· < ·) ∧ ∀ i ∈ bs, ∀ j, left.testBit j = true → i < j,
    ⟨n, n, [], none, rfl, rfl, mset_same, Ext.new hp, Nat.le_refl _, fun i => by simp, .nil, fun i hi => by cases hi⟩, ?_⟩
  rintro m0 ρ S1 ⟨left, bs, o, hm, rfl, hS, ex, hle, hb, hup, hlt⟩
  rw [hm]
  clear hm m0
  walk_at "D"
  by_cases h0 : left = 0
  · subst h0
    simp only [decide_true, Bool.not_true, Bool.false_eq_true, if_false, Int.natCast_zero]
    exact q S1 p bs ⟨hup, fun i => by rw [hb i]; simp⟩ ex hp hS
  · have e0 : decide ((left : Int) = 0) = false := decide_eq_false (by omega)
    simp only [e0, Bool.not_false, if_true]
    have hpos : 0 < left := Nat.pos_of_ne_zero h0
    obtain ⟨j, h1, h2, h3, h4⟩ := low_bit left hpos
    rw [neg_low hpos, xor_low hpos, h3, bits_pow]
    have hbk : ∀ i ∈ bs, 0 ≤ i ∧ i < k := fun i hi => ⟨Nat.zero_le _, by
      rcases Nat.lt_or_ge i k with h | h
      · exact h
      · have e := hb i
        rw [Nat.testBit_lt_two_pow (Nat.lt_of_lt_of_le hk (Nat.pow_le_pow_right (by decide) h))] at e
        simp [hi] at e⟩
    have hlen : bs.length ≤ 1000 := Nat.le_trans (len_lt hup hbk (Nat.zero_le _)) (by omega)
    rw [lst_at hS]
    simp only [optD_some]
    have e1 : (((j + 1 : Nat) : Int) - 1) = (j : Nat) := by omega
    rw [e1]
    refine ⟨.inl ⟨_, hS⟩, by rw [pvNs, List.length_map, sizeLine_eq]; omega, ?_⟩
    refine ⟨left &&& (left - 1), ?_, left &&& (left - 1), bs ++ [j], some (.int ((2 ^ j : Nat) : Int)), rfl, rfl, ?_, Ext.mset2 hp ex, Nat.le_trans Nat.and_le_left hle, fun i => ?_, ?_, fun i hi l hl => ?_⟩
    · have := Nat.two_pow_pos j
      have : left &&& (left - 1) ≤ left := Nat.and_le_left
      omega
    · rw [mset_same]; simp [pvNs]
    · rw [hb i, h4 i]
      by_cases q : i = j
      · subst q; simp [h1]
      · simp [q]
    · rw [List.pairwise_append]
      exact ⟨hup, by simp, fun a ha b hb' => by rw [List.mem_singleton.mp hb']; exact hlt a ha j h1⟩
    · rw [h4 l, Bool.and_eq_true, decide_eq_true_eq] at hl
      rcases List.mem_append.mp hi with hi | hi
      · exact hlt i hi l hl.1
      · rw [List.mem_singleton.mp hi]
        rcases Nat.lt_trichotomy j l with h | h | h
        · exact h
        · exact absurd h.symm hl.2
        · rw [h2 l h] at hl; exact absurd hl.1 (by decide)
end
end K06

namespace K06
open PySem PySem.Spec PyProof.Rows L2 DL
local macro_rules | `(tactic| walk_at "D") => `(tactic| simp only [dRet, dRetN, dNext, dSeq, dIfS, dDrop, dAsg, dgName, dAndV, dOrV, dNotV, dAnd, dOr, dNot, dTest, dIf, dCB, dCons, dNil, dVar, getv, dC, sc, dChain, dOp, dUn, dI0, dI, dU, dEqS, dNeS, dIsi, dLen, dIx, dPart, dNoPart, dSl, dSlX, dCall, dAllC, dTup, dLst, dYes, dInSg, dInF, seqP, dLc, bkS, dFor, bkD, dIStr, dITup, dIZip, dIList, wipeD, dWGet, dCallA, dDictK, dDIn, dListC, dTupC, dDGet, dgTup, dgCons, dgNil, dPar, dPar3, dBM, dBM0, dAppend, dExtend, dPop, dty, dBits, dgSub, dSetL, dFld, dsFld, dMeth, dMake, dDGet1, dDSetd, dsDPut, dRevL, dPlus, dDisp, dPairs, dIEnum, dIEnumT, dIRng1, dIRng2, dIKeys, dLock, dTupF1, dTupF, dDictN, dSortN, dInN, dDcN, dInT, dIsN, dNotN, dIsB, dI2, dInt1, dRepr, dWhile, dDNewK, dAug, dBreak, dCont, dNever,
  startD, List.map_cons, List.map_nil, List.length_cons, List.length_nil, List.getElem?_cons_zero, List.getElem?_cons_succ, List.cons_append, List.nil_append, List.replicate, Nat.reduceAdd, Nat.reduceSub, List.set_cons_zero, List.set_cons_succ, isB, tyP, okTy, optD_some, optD_none, Option.isSome_some, true_and, and_true, if_true, if_false, Bool.false_eq_true, List.all_cons, List.all_nil, beq_self_eq_true, eqP_int, eqP_str, scal_int, scal_str, Bool.not_true, Bool.not_false, decide_true, decide_false])
/-! ### heads by their nodes -/
def rowsAt (rs : List (Nat × Hd)) (n : Nat) : List (Nat × Hd) := rs.zipIdx.filterMap fun r => if r.1.1 = n then some (r.2, r.1.2) else none
theorem rowsAt_snoc (l : List (Nat × Hd)) (r : Nat × Hd) (n : Nat) : rowsAt (l ++ [r]) n = rowsAt l n ++ if r.1 = n then [(l.length, r.2)] else [] := by
  unfold rowsAt
  rw [List.zipIdx_append, List.filterMap_append]
  congr 1
  by_cases h : r.1 = n <;> simp [h]
def pvNum (q : Nat × Hd) : PV := .tup [.int q.1, pvH q.2]
/-- the dict at d: what stands at each node -/
structure HB (S : Mp) (d : Addr) (rs : List (Nat × Hd)) (kvs : List (Key × PV)) : Prop where
  at_ : S d = some (.dk kvs)
  no : ∀ n : Nat, rowsAt rs n = [] → lkP kvs (.inl (n : Int)) = none
  yes : ∀ n : Nat, rowsAt rs n ≠ [] → ∃ l, lkP kvs (.inl (n : Int)) = some (.loc l) ∧ S l = some (.lst ((rowsAt rs n).map pvNum))
  inj : ∀ (n m : Nat) (l : Addr), lkP kvs (.inl (n : Int)) = some (.loc l) → lkP kvs (.inl (m : Int)) = some (.loc l) → n = m
  keys : ∀ kv ∈ kvs, ∃ n : Nat, kv.1 = .inl (n : Int) ∧ rowsAt rs n ≠ []
  len : kvs.length ≤ rs.length
theorem lkP_put_same {κ : Type} [DecidableEq κ] {kvs : List (κ × PV)} {k : κ} {v : PV} (h : lkP kvs k = none) : lkP (putKP kvs k v) k = some v := by
  have hn : (kvs.any fun kv => decide (kv.1 = k)) = false := by
    rw [Bool.eq_false_iff]
    intro q
    obtain ⟨x, hx, e⟩ := List.any_eq_true.mp q
    unfold lkP at h
    rw [Option.map_eq_none_iff, List.find?_eq_none] at h
    exact h x hx e
  unfold putKP
  rw [if_neg (by rw [hn]; decide)]
  unfold lkP at h ⊢
  rw [List.find?_append]
  rw [Option.map_eq_none_iff] at h
  rw [h]
  simp
theorem lkP_put_ne {κ : Type} [DecidableEq κ] {kvs : List (κ × PV)} {k q : κ} {v : PV} (h : lkP kvs k = none) (hq : q ≠ k) : lkP (putKP kvs k v) q = lkP kvs q := by
  have hn : (kvs.any fun kv => decide (kv.1 = k)) = false := by
    rw [Bool.eq_false_iff]
    intro q
    obtain ⟨x, hx, e⟩ := List.any_eq_true.mp q
    unfold lkP at h
    rw [Option.map_eq_none_iff, List.find?_eq_none] at h
    exact h x hx e
  unfold putKP
  rw [if_neg (by rw [hn]; decide)]
  unfold lkP
  rw [List.find?_append]
  have : decide (k = q) = false := decide_eq_false (Ne.symm hq)
  simp [this]
theorem putKP_new_eq {κ : Type} [DecidableEq κ] {kvs : List (κ × PV)} {k : κ} {v : PV} (h : lkP kvs k = none) : putKP kvs k v = kvs ++ [(k, v)] := by
  have hn : (kvs.any fun kv => decide (kv.1 = k)) = false := by
    rw [Bool.eq_false_iff]
    intro q
    obtain ⟨x, hx, e⟩ := List.any_eq_true.mp q
    unfold lkP at h
    rw [Option.map_eq_none_iff, List.find?_eq_none] at h
    exact h x hx e
  unfold putKP
  rw [if_neg (by rw [hn]; decide)]
section
variable {P : Program} {w : World} {K : PySem.W.Frag} {mg : Str → Option Value} {base : Heap} {fl ft : Addr}
/-- what is new since S -/
def Fresh (S : Mp) (d : Addr) (kvs : List (Key × PV)) : Prop := S d = none ∧ ∀ (n : Nat) (l : Addr), lkP kvs (.inl (n : Int)) = some (.loc l) → S l = none
def G_heads_by_node : DSp := fun xs S Q => ∃ rs : List (Nat × Hd), xs = [.tup (rs.map pvRow)] ∧ rs.length ≤ 1000 ∧ ∀ S' d kvs, HB S' d rs kvs → Fresh S d kvs → Ext S S' → Q (.loc d) S'
theorem enumP_cons (k : Nat) (x : PV) (xs : List PV) : enumP k (x :: xs) = .tup [.int k, x] :: enumP (k + 1) xs := rfl
theorem f_heads_by_node {f : Addr} {fd : FuncData} (F : Fun K "heads_by_node" "heads_by_node" s_heads_by_node f fd) (T : Txt K w mg fl ft) : FnOk P w K mg base CX0 (0+1) f fd ["rows"] (spD K G_heads_by_node) := by
  refine fnD F sc_heads_by_node (fun xs S Q h => by obtain ⟨rs, rfl, _⟩ := h; rfl) fun cdv A outer s H E hr => ?_
  refine ⟨_, (pss_cons (ps_set (i := 1) sc_heads_by_node.nd rfl (Or.inl rfl) pe_dnewK)
    (pss_cons (ps_for PassesOwn.never rfl (pi_enumT (by rfl) T.b_enumerate (pa_cons (pv 0) pa_nil)) (pgK (K := K) (n := 2) (pgs_cons (pg_name (i := 2) sc_heads_by_node.nd rfl (Or.inl rfl)) (pgs_cons (pgK (K := K) (n := 2) (pgs_cons (pg_name (i := 3) sc_heads_by_node.nd rfl (Or.inl rfl)) (pgs_cons (pg_name (i := 4) sc_heads_by_node.nd rfl (Or.inl rfl)) pgs_nil))) pgs_nil))) (pss_one (ps_expr (pe_bm PySem.F.plainAttrs_list PySem.F.slot_list_append PySem.F.type_list_append mt_append (pe_dsetd (pv 1) (pv 3) (pe_lst pa_nil) ⟨rfl, rfl, rfl, rfl⟩) (pa_cons (pe_tup (pa_cons (pv 2) (pa_cons (pv 4) pa_nil))) pa_nil)))))
    (pss_one (ps_ret (pv 1))))), ?_⟩
  try dsimp only [cxOf, Cx.nox, Cx.wish]
  refine ⟨_, inferInstance, ?_⟩
  rintro _ S Q ⟨rs, rfl, hl, q⟩
  walk_at "D"
  intro d hd
  simp only [tupP, optD_some]
  refine forR_inv (fun r ρ S1 => ∃ done todo o1 o2 o3 kvs, rs = done ++ todo ∧ r = enumP done.length (todo.map pvRow) ∧ ρ = [some (.tup (rs.map pvRow)), some (.loc d), o1, o2, o3] ∧ HB S1 d done kvs ∧ Fresh S d kvs ∧ Ext S S1) (fun x r ρ S1 hI N hN => ?_) (fun ρ S1 hI => ?_) _ _ _
    ⟨[], rs, none, none, none, [], rfl, rfl, rfl, ⟨mset_same, fun n _ => rfl, fun n h => absurd rfl h, fun n m l h => (by cases h), fun kv h => (by cases h), Nat.le_refl _⟩, ⟨hd, fun n l h => (by cases h)⟩, Ext.new hd⟩
  · obtain ⟨done, todo, o1, o2, o3, kvs, er, e, rfl, hb, hf, ex⟩ := hI
    cases todo with
    | nil => cases e
    | cons t todo =>
      rw [List.map_cons, enumP_cons] at e
      cases e
      unfold pvRow
      walk_at "D"
      refine ⟨.inl ⟨kvs, hb.at_⟩, Nat.zero_le _, fun q0 hq0 => ?_⟩
      have hq1 : q0 ≠ d := fun z => by rw [z, hb.at_] at hq0; cases hq0
      have hdl : done.length < 1000 := by rw [er] at hl; simp at hl; omega
      have hlk : kvs.length < sizeLine := by have := hb.len; rw [sizeLine_eq]; omega
      have hrl : (rowsAt done t.1).length ≤ done.length := by
        unfold rowsAt
        exact Nat.le_trans (List.length_filterMap_le _ _) (by simp)
      have hS2d : (mset S1 q0 (some (.lst []))) d = some (.dk kvs) := by rw [mset_ne (Ne.symm hq1)]; exact hb.at_
      have hset : setD (mset S1 q0 (some (.lst []))) (.loc d) (.int t.1) (.loc q0) = match lkP kvs (.inl (t.1 : Int)) with
          | some z => some (z, mset S1 q0 (some (.lst [])))
          | none => some (.loc q0, mset (mset S1 q0 (some (.lst []))) d (some (.dk (putKP kvs (.inl (t.1 : Int)) (.loc q0))))) := by
        simp only [setD, hS2d, hlk, if_true, keyP]
        try (cases lkP kvs (.inl (t.1 : Int)) <;> rfl)
      rw [hset]
      have er' : rs = (done ++ [t]) ++ todo := by rw [er]; simp
      have hlen' : (done ++ [t]).length = done.length + 1 := by simp
      by_cases hz : rowsAt done t.1 = []
      · have hno := hb.no t.1 hz
        rw [hno]
        simp only [optD_some]
        have hq2 : (mset (mset S1 q0 (some (.lst []))) d (some (.dk (putKP kvs (.inl (t.1 : Int)) (.loc q0))))) q0 = some (.lst []) := by rw [mset_ne hq1, mset_same]
        rw [lst_at hq2]
        simp only [optD_some]
        refine ⟨.inl ⟨_, hq2⟩, by decide, by rw [sizeLine_eq]; decide, ?_⟩
        refine hN _ _ ⟨done ++ [t], todo, _, _, _, putKP kvs (.inl (t.1 : Int)) (.loc q0), er', by rw [hlen'], rfl, ?_, ⟨hf.1, fun n l h => ?_⟩, ?_⟩
        · have pass : ∀ a, a ≠ q0 → a ≠ d → (mset (mset (mset S1 q0 (some (.lst []))) d (some (.dk (putKP kvs (.inl (t.1 : Int)) (.loc q0))))) q0 (some (.lst ([] ++ [PV.tup [.int done.length, pvH t.2]])))) a = S1 a := fun a h1 h2 => by rw [mset_ne h1, mset_ne h2, mset_ne h1]
          refine ⟨by rw [mset_ne (Ne.symm hq1), mset_same], fun n h => ?_, fun n h => ?_, fun n m l h1 h2 => ?_, fun kv hkv => ?_, ?_⟩
          · rw [rowsAt_snoc] at h
            by_cases hn : t.1 = n
            · rw [if_pos hn] at h; simp at h
            · rw [if_neg hn, List.append_nil] at h
              rw [lkP_put_ne hno (fun z => hn (by injection z with z; omega))]
              exact hb.no n h
          · rw [rowsAt_snoc] at h ⊢
            by_cases hn : t.1 = n
            · subst hn
              rw [if_pos rfl, hz]
              exact ⟨q0, lkP_put_same hno, mset_same⟩
            · rw [if_neg hn, List.append_nil] at h ⊢
              obtain ⟨l, e1, e2⟩ := hb.yes n h
              have hlq : l ≠ q0 := fun z => by rw [z, hq0] at e2; cases e2
              have hld : l ≠ d := fun z => by rw [z, hb.at_] at e2; cases e2
              exact ⟨l, by rw [lkP_put_ne hno (fun z => hn (by injection z with z; omega))]; exact e1, by rw [pass l hlq hld]; exact e2⟩
          · by_cases hn : n = t.1 <;> by_cases hm : m = t.1
            · rw [hn, hm]
            · subst hn
              rw [lkP_put_same hno] at h1
              cases h1
              rw [lkP_put_ne hno (fun z => hm (by injection z with z; omega))] at h2
              by_cases hr : rowsAt done m = []
              · rw [hb.no m hr] at h2; cases h2
              · obtain ⟨l, e1, e2⟩ := hb.yes m hr
                rw [e1] at h2; cases h2
                rw [hq0] at e2; cases e2
            · subst hm
              rw [lkP_put_same hno] at h2
              cases h2
              rw [lkP_put_ne hno (fun z => hn (by injection z with z; omega))] at h1
              by_cases hr : rowsAt done n = []
              · rw [hb.no n hr] at h1; cases h1
              · obtain ⟨l, e1, e2⟩ := hb.yes n hr
                rw [e1] at h1; cases h1
                rw [hq0] at e2; cases e2
            · rw [lkP_put_ne hno (fun z => hn (by injection z with z; omega))] at h1
              rw [lkP_put_ne hno (fun z => hm (by injection z with z; omega))] at h2
              exact hb.inj n m l h1 h2
          · rw [putKP_new_eq hno] at hkv
            rcases List.mem_append.mp hkv with hkv | hkv
            · obtain ⟨n, e1, e2⟩ := hb.keys kv hkv
              exact ⟨n, e1, by rw [rowsAt_snoc]; simp [e2]⟩
            · rw [List.mem_singleton.mp hkv]
              exact ⟨t.1, rfl, by rw [rowsAt_snoc]; simp⟩
          · rw [putKP_new_eq hno]
            have := hb.len
            simp
            omega
        · by_cases hn : n = t.1
          · subst hn
            rw [lkP_put_same hno] at h
            cases h
            exact none_back ex hq0
          · rw [lkP_put_ne hno (fun z => hn (by injection z with z; omega))] at h
            exact hf.2 n l h
        · intro a o ea
          have h1 : a ≠ q0 := fun z => by rw [z, none_back ex hq0] at ea; cases ea
          have h2 : a ≠ d := fun z => by rw [z, hf.1] at ea; cases ea
          rw [mset_ne h1, mset_ne h2, mset_ne h1]
          exact ex a o ea
      · obtain ⟨l, e1, e2⟩ := hb.yes t.1 hz
        have hlq : l ≠ q0 := fun z => by rw [z, hq0] at e2; cases e2
        have hld : l ≠ d := fun z => by rw [z, hb.at_] at e2; cases e2
        rw [e1]
        simp only [optD_some]
        have e3 : (mset S1 q0 (some (.lst []))) l = some (.lst ((rowsAt done t.1).map pvNum)) := by rw [mset_ne hlq]; exact e2
        rw [lst_at e3]
        simp only [optD_some]
        refine ⟨.inl ⟨_, e3⟩, by decide, by rw [List.length_map, sizeLine_eq]; omega, ?_⟩
        have pass : ∀ a, a ≠ q0 → a ≠ l → (mset (mset S1 q0 (some (.lst []))) l (some (.lst ((rowsAt done t.1).map pvNum ++ [PV.tup [.int done.length, pvH t.2]])))) a = S1 a := fun a h1 h2 => by rw [mset_ne h2, mset_ne h1]
        refine hN _ _ ⟨done ++ [t], todo, _, _, _, kvs, er', by rw [hlen'], rfl, ⟨by rw [pass d (Ne.symm hq1) (Ne.symm hld)]; exact hb.at_, fun n h => ?_, fun n h => ?_, hb.inj, fun kv hkv => ?_, ?_⟩, hf, ?_⟩
        · rw [rowsAt_snoc] at h
          exact hb.no n (List.append_eq_nil_iff.mp h).1
        · rw [rowsAt_snoc] at h ⊢
          by_cases hn : t.1 = n
          · subst hn
            rw [if_pos rfl]
            exact ⟨l, e1, by rw [mset_same, List.map_append]; rfl⟩
          · rw [if_neg hn, List.append_nil] at h ⊢
            obtain ⟨l', e4, e5⟩ := hb.yes n h
            have h1 : l' ≠ q0 := fun z => by rw [z, hq0] at e5; cases e5
            have h2 : l' ≠ l := fun z => hn (hb.inj t.1 n l e1 (by rw [← z]; exact e4))
            exact ⟨l', e4, by rw [pass l' h1 h2]; exact e5⟩
        · obtain ⟨n, e4, e5⟩ := hb.keys kv hkv
          exact ⟨n, e4, by rw [rowsAt_snoc]; simp [e5]⟩
        · have := hb.len; simp; omega
        · intro a o ea
          have h1 : a ≠ q0 := fun z => by rw [z, none_back ex hq0] at ea; cases ea
          have h2 : a ≠ l := fun z => by rw [z, hf.2 t.1 l e1] at ea; cases ea
          rw [pass a h1 h2]
          exact ex a o ea
  · obtain ⟨done, todo, o1, o2, o3, kvs, er, e, rfl, hb, hf, ex⟩ := hI
    cases todo with
    | cons t todo => cases e
    | nil =>
      rw [List.append_nil] at er
      subst er
      walk_at "D"
      exact q S1 d kvs hb hf ex
end
end K06

namespace K06
open PySem PySem.Spec PyProof.Rows L2 DL
open PySem.PyData (strOk)
local macro_rules | `(tactic| walk_at "D") => `(tactic| simp only [dRet, dRetN, dNext, dSeq, dIfS, dDrop, dAsg, dgName, dAndV, dOrV, dNotV, dAnd, dOr, dNot, dTest, dIf, dCB, dCons, dNil, dVar, getv, dC, sc, dChain, dOp, dUn, dI0, dI, dU, dEqS, dNeS, dIsi, dLen, dIx, dPart, dNoPart, dSl, dSlX, dCall, dAllC, dTup, dLst, dYes, dInSg, dInF, seqP, dLc, bkS, dFor, bkD, dIStr, dITup, dIZip, dIList, wipeD, dWGet, dCallA, dDictK, dDIn, dListC, dTupC, dDGet, dgTup, dgCons, dgNil, dPar, dPar3, dBM, dBM0, dAppend, dExtend, dPop, dty, dBits, dgSub, dSetL, dFld, dsFld, dMeth, dMake, dDGet1, dDSetd, dsDPut, dRevL, dPlus, dDisp, dPairs, dIEnum, dIEnumT, dIRng1, dIRng2, dIKeys, dLock, dTupF1, dTupF, dDictN, dSortN, dInN, dDcN, dInT, dIsN, dNotN, dIsB, dI2, dInt1, dRepr, dWhile, dDNewK, dAug, dBreak, dCont, dNever,
  startD, List.map_cons, List.map_nil, List.length_cons, List.length_nil, List.getElem?_cons_zero, List.getElem?_cons_succ, List.cons_append, List.nil_append, List.replicate, Nat.reduceAdd, Nat.reduceSub, List.set_cons_zero, List.set_cons_succ, isB, tyP, okTy, optD_some, optD_none, Option.isSome_some, true_and, and_true, if_true, if_false, Bool.false_eq_true, List.all_cons, List.all_nil, beq_self_eq_true, eqP_int, eqP_str, scal_int, scal_str, Bool.not_true, Bool.not_false, decide_true, decide_false])
/-! ### the closing: what its objects hold -/
structure Ad where
  c : Addr
  pr : Addr
  pb : Addr
  dl : Addr
  du : Addr
  da : Addr
  st : Addr
  wt : Addr
  kl : List (Key × PV)
  ku : List (Key × PV)
def fieldsA (A : Ad) : List (Str × PV) := [("reach", .loc A.pr), ("back", .loc A.pb), ("lowers_at", .loc A.dl), ("uppers_at", .loc A.du), ("allowed_known", .loc A.da), ("steps", .loc A.st), ("waiting", .loc A.wt)]
/-- the dict at d, perhaps read-only -/
structure HC (S : Mp) (d : Addr) (rs : List (Nat × Hd)) (kvs : List (Key × PV)) : Prop where
  at_ : S d = some (.dk kvs) ∨ S d = some (.rdk kvs)
  no : ∀ n : Nat, rowsAt rs n = [] → lkP kvs (.inl (n : Int)) = none
  yes : ∀ n : Nat, rowsAt rs n ≠ [] → ∃ l, lkP kvs (.inl (n : Int)) = some (.loc l) ∧ S l = some (.lst ((rowsAt rs n).map pvNum))
  keys : ∀ kv ∈ kvs, ∃ n : Nat, kv.1 = .inl (n : Int) ∧ rowsAt rs n ≠ []
  len : kvs.length ≤ rs.length
theorem HC.mono {S S' : Mp} {d : Addr} {rs : List (Nat × Hd)} {kvs : List (Key × PV)} (h : HC S d rs kvs) (e : Ext S S') : HC S' d rs kvs :=
  ⟨h.at_.elim (fun z => .inl (e _ _ z)) fun z => .inr (e _ _ z), h.no, fun n hn => let ⟨l, a, b⟩ := h.yes n hn; ⟨l, a, e _ _ b⟩, h.keys, h.len⟩
theorem HB.hc {S : Mp} {d : Addr} {rs : List (Nat × Hd)} {kvs : List (Key × PV)} (h : HB S d rs kvs) : HC S d rs kvs := ⟨.inl h.at_, h.no, h.yes, h.keys, h.len⟩
theorem HC.get {S : Mp} {d : Addr} {rs : List (Nat × Hd)} {kvs : List (Key × PV)} (h : HC S d rs kvs) (n : Nat) : atD S (.loc d) (.int n) = some (lkP kvs (.inl (n : Int))) := by
  rcases h.at_ with e | e <;> simp only [atD, e, keyP, Option.map_some]
/-- a flow that waits: from, to, why, steps -/
abbrev Wt := Nat × Nat × PV × Nat
def pvW (t : Wt) : PV := .tup [.int t.1, .int t.2.1, t.2.2.1, .int t.2.2.2]
def uvW (t : Wt) : Nat × Nat := (t.1, t.2.1)
structure Mu (A : Ad) (S : Mp) (R B : List Nat) (ss : List PV) (ws : List Wt) : Prop where
  rr : S A.pr = some (.lst (pvNs R))
  bb : S A.pb = some (.lst (pvNs B))
  st : S A.st = some (.lst ss)
  wt : S A.wt = some (.lst (ws.map pvW))
  dat : ∀ t ∈ ws, Dat 4 t.2.2.1
def isMu (A : Ad) (a : Addr) : Prop := a = A.pr ∨ a = A.pb ∨ a = A.st ∨ a = A.wt
structure Fx (w : World) (C : Addr) (g : Gr) (A : Ad) (S : Mp) : Prop where
  ins : S A.c = some (.ins C (fieldsA A))
  lo : HC S A.dl g.lo A.kl
  up : HC S A.du g.up A.ku
  al : ∃ nks ks, S A.da = some (ndM w A.da nks ks) ∧ toNKs ks = some nks ∧ ∀ p, nkPr p ∈ nks ↔ p ∈ g.al
  sep : ∀ (n m : Nat) (l : Addr), lkP A.kl (.inl (n : Int)) = some (.loc l) → lkP A.ku (.inl (m : Int)) ≠ some (.loc l)
  off : ∀ a, isMu A a → S a = none
  d1 : A.pr ≠ A.pb
  d2 : A.pr ≠ A.st
  d3 : A.pr ≠ A.wt
  d4 : A.pb ≠ A.st
  d5 : A.pb ≠ A.wt
  d6 : A.st ≠ A.wt
  d7 : A.dl ≠ A.du
theorem Fx.mono {w : World} {C : Addr} {g : Gr} {A : Ad} {S S' : Mp} (h : Fx w C g A S) (e : Ext S S') (o : ∀ a, isMu A a → S' a = none) : Fx w C g A S' :=
  ⟨e _ _ h.ins, h.lo.mono e, h.up.mono e, let ⟨n, k, a, b⟩ := h.al; ⟨n, k, e _ _ a, b⟩, h.sep, o, h.d1, h.d2, h.d3, h.d4, h.d5, h.d6, h.d7⟩
theorem Fx.lock {w : World} {C : Addr} {g : Gr} {A : Ad} {S : Mp} (h : Fx w C g A S) (e : S A.dl = some (.dk A.kl)) : Fx w C g A (mset S A.dl (some (.rdk A.kl))) := by
  have pass : ∀ a o, S a = some o → o ≠ .dk A.kl → mset S A.dl (some (.rdk A.kl)) a = some o := fun a o q n => by
    rw [mset_ne (fun z => n (by rw [z, e] at q; exact (Option.some.inj q).symm))]; exact q
  obtain ⟨nks, ks, a1, a2, a3⟩ := h.al
  refine ⟨pass _ _ h.ins (fun z => by cases z), ⟨.inr mset_same, h.lo.no, fun n hn => ?_, h.lo.keys, h.lo.len⟩, ⟨?_, h.up.no, fun n hn => ?_, h.up.keys, h.up.len⟩, ⟨nks, ks, pass _ _ a1 (fun z => by cases z), a2, a3⟩, h.sep, fun a ha => ?_, h.d1, h.d2, h.d3, h.d4, h.d5, h.d6, h.d7⟩
  · obtain ⟨l, e1, e2⟩ := h.lo.yes n hn
    exact ⟨l, e1, pass _ _ e2 (fun z => by cases z)⟩
  · rw [mset_ne (Ne.symm h.d7)]; exact h.up.at_
  · obtain ⟨l, e1, e2⟩ := h.up.yes n hn
    exact ⟨l, e1, pass _ _ e2 (fun z => by cases z)⟩
  · rw [mset_ne (fun z => by have := h.off a ha; rw [z, e] at this; cases this)]; exact h.off a ha
theorem ext_lock {S S' : Mp} {a : Addr} {o : MO} (h : Ext S S') : Ext (mset S a (some o)) (mset S' a (some o)) := fun c u e => by
  by_cases z : c = a
  · rw [z, mset_same] at e ⊢; exact e
  · rw [mset_ne z] at e ⊢; exact h c u e
theorem ext_unlock {S S' : Mp} {a : Addr} {o o' : MO} (e0 : S a = some o') (h : Ext (mset S a (some o)) S') : Ext S (mset S' a (some o')) := fun c u e => by
  by_cases z : c = a
  · rw [z, mset_same]; rw [z, e0] at e; exact e
  · rw [mset_ne z]; exact h c u (by rw [mset_ne z]; exact e)
/-- the flows that x into y brings -/
def flowsAt (g : Gr) (x y : Nat) : List (Nat × Nat) := if (x, y) ∈ g.al then [] else (rowsAt g.lo x).flatMap fun a => (rowsAt g.up y).flatMap fun b => (flowsH a.2 b.2).map (·.2)
theorem fA1 {A : Ad} : List.lookup ("reach" : Str) (fieldsA A) = some (PV.loc A.pr) := by rfl
theorem fA2 {A : Ad} : List.lookup ("back" : Str) (fieldsA A) = some (PV.loc A.pb) := by rfl
theorem fA3 {A : Ad} : List.lookup ("lowers_at" : Str) (fieldsA A) = some (PV.loc A.dl) := by rfl
theorem fA4 {A : Ad} : List.lookup ("uppers_at" : Str) (fieldsA A) = some (PV.loc A.du) := by rfl
theorem fA5 {A : Ad} : List.lookup ("allowed_known" : Str) (fieldsA A) = some (PV.loc A.da) := by rfl
theorem fA6 {A : Ad} : List.lookup ("steps" : Str) (fieldsA A) = some (PV.loc A.st) := by rfl
theorem fA7 {A : Ad} : List.lookup ("waiting" : Str) (fieldsA A) = some (PV.loc A.wt) := by rfl
theorem lkS_mem {qs : List (Str × Nat)} {n : Str} {v : Nat} (h : lkS qs n = some v) : (n, v) ∈ qs := by
  unfold lkS at h
  obtain ⟨q, h1, rfl⟩ := Option.map_eq_some_iff.mp h
  have h2 := List.mem_of_find?_eq_some h1
  have h3 := List.find?_some h1
  simp only [decide_eq_true_eq] at h3
  rw [← h3]; exact h2
theorem meetS_mem {wd : Str} {ps qs : List (Str × Nat)} {t : PV × Nat × Nat} (h : t ∈ meetS wd ps qs) : ∃ p ∈ ps, ∃ v, (p.1, v) ∈ qs ∧ t = (whyN wd p.1, p.2, v) := by
  unfold meetS at h
  obtain ⟨p, hp, e⟩ := List.mem_filterMap.mp h
  obtain ⟨v, h1, rfl⟩ := Option.map_eq_some_iff.mp e
  exact ⟨p, hp, v, lkS_mem h1, rfl⟩
theorem strOk_w : strOk "arg" = true ∧ strOk "res" = true ∧ strOk "label" = true ∧ strOk "tag" = true := by decide +kernel
def WhyOk (z : PV) : Prop := ∃ s r, z = .tup (.str s :: r) ∧ strOk s = true ∧ (∀ z ∈ r, Dat 0 z) ∧ r.length ≤ 1
theorem why_n {wd n : Str} (h1 : strOk wd = true) (h2 : strOk n = true) : WhyOk (whyN wd n) := ⟨wd, [.str n], rfl, h1, fun z hz => by rw [List.mem_singleton.mp hz]; exact dat_str h2, Nat.le_refl _⟩
theorem flows_why {h k : Hd} {m : Nat} (gh : GoodH m h) (gk : GoodH m k) : ∀ t ∈ flowsH h k, WhyOk t.1 ∧ t.2.1 < m ∧ t.2.2 < m := by
  intro t ht
  cases h <;> cases k <;> try cases ht
  · exact ⟨⟨_, [], rfl, strOk_w.1, fun z hz => (by cases hz), Nat.zero_le _⟩, gk.1, gh.1⟩
  · rename_i ht
    rcases List.mem_cons.mp ht with rfl | ht
    · exact ⟨⟨_, [], rfl, strOk_w.2.1, fun z hz => (by cases hz), Nat.zero_le _⟩, gh.2, gk.2⟩
    · cases ht
  · obtain ⟨p, hp, v, hv, rfl⟩ := meetS_mem ht
    exact ⟨why_n strOk_w.2.2.1 (dat_names (List.mem_append_left _ (gh.1 p hp))), gh.2.1 p hp, gk.2.1 _ hv⟩
  · obtain ⟨p, hp, v, hv, rfl⟩ := meetS_mem ht
    exact ⟨why_n strOk_w.2.2.2 (dat_names (List.mem_append_right _ (gh.2.1 p hp))), gh.2.2.1 p hp, gk.2.2.1 _ hv⟩
theorem flows_len {h k : Hd} (f : fewH h ≤ 3) : (flowsH h k).length ≤ 3 := by
  cases h <;> cases k <;> simp only [flowsH, List.length_cons, List.length_nil] <;> first | omega | exact Nat.le_trans (List.length_filterMap_le _ _) f
theorem rowsAt_mem {rs : List (Nat × Hd)} {n : Nat} {r : Nat × Hd} (h : r ∈ rowsAt rs n) : (n, r.2) ∈ rs := by
  unfold rowsAt at h
  obtain ⟨p, hp, e⟩ := List.mem_filterMap.mp h
  split at e
  · rename_i e2
    cases e
    have := List.mem_zipIdx hp
    obtain ⟨h1, h2, h3⟩ := this
    rw [← e2]
    have e4 : p.1 ∈ rs := by rw [h3]; exact List.getElem_mem _
    exact e4
  · cases e
theorem rowsAt_len (rs : List (Nat × Hd)) (n : Nat) : (rowsAt rs n).length ≤ rs.length := by
  unfold rowsAt
  exact Nat.le_trans (List.length_filterMap_le _ _) (by simp)
def ExtB (L : List Addr) (S S' : Mp) : Prop := ∀ a o, S a = some o → a ∉ L → S' a = some o
theorem ExtB.ext {L : List Addr} {S S1 S2 : Mp} (a : ExtB L S S1) (b : Ext S1 S2) : ExtB L S S2 := fun c o h n => b c o (a c o h n)
theorem toB {L : List Addr} {S S1 : Mp} (a : Ext S S1) : ExtB L S S1 := fun c o h _ => a c o h
theorem ExtB.put {L : List Addr} {S S1 : Mp} {p : Addr} {o : Option MO} (a : ExtB L S S1) (h : p ∈ L) : ExtB L S (mset S1 p o) := fun c u e n => by
  rw [mset_ne (fun z => n (by rw [z]; exact h))]; exact a c u e n
theorem ExtB.put0 {L : List Addr} {S S1 : Mp} {p : Addr} {o : Option MO} (a : ExtB L S S1) (h : S p = none) : ExtB L S (mset S1 p o) := fun c u e n => by
  rw [mset_ne (fun z => by rw [z, h] at e; cases e)]; exact a c u e n
theorem ExtB.putN {L : List Addr} {S S1 S2 : Mp} {p : Addr} {o : Option MO} (a : ExtB L S S1) (h : S1 p = none) (b : ExtB L S S2) : ExtB L S (mset S2 p o) := fun c u e n => by
  rw [mset_ne (fun z => by rw [← z, a c u e n] at h; cases h)]; exact b c u e n
theorem ExtB.more {L M : List Addr} {S S1 : Mp} (a : ExtB L S S1) (h : ∀ x ∈ L, x ∈ M) : ExtB M S S1 := fun c u e n => a c u e fun z => n (h c z)
/-- the walked list comes back -/
theorem ExtB.back {L : List Addr} {S S1 : Mp} {p : Addr} {o : MO} (a : ExtB (p :: L) S S1) (h : S p = some o) : ExtB L S (mset S1 p (some o)) := fun c u e n => by
  by_cases z : c = p
  · rw [z, mset_same]; rw [z, h] at e; exact e
  · rw [mset_ne z]; exact a c u e fun q => (List.mem_cons.mp q).elim z n
theorem ExtB.nil {S S1 : Mp} (a : ExtB [] S S1) : Ext S S1 := fun c o h => a c o h (by simp)
theorem Mu.put {A : Ad} {S : Mp} {R B : List Nat} {ss : List PV} {ws : List Wt} {p : Addr} {o : Option MO} (m : Mu A S R B ss ws) (h : ¬ isMu A p) : Mu A (mset S p o) R B ss ws :=
  ⟨by rw [mset_ne fun z => h (.inl z.symm)]; exact m.rr, by rw [mset_ne fun z => h (.inr (.inl z.symm))]; exact m.bb, by rw [mset_ne fun z => h (.inr (.inr (.inl z.symm)))]; exact m.st, by rw [mset_ne fun z => h (.inr (.inr (.inr z.symm)))]; exact m.wt, m.dat⟩
theorem Mu.ext {A : Ad} {S S1 : Mp} {R B : List Nat} {ss : List PV} {ws : List Wt} (m : Mu A S R B ss ws) (e : Ext S S1) : Mu A S1 R B ss ws :=
  ⟨e _ _ m.rr, e _ _ m.bb, e _ _ m.st, e _ _ m.wt, m.dat⟩
theorem Mu.ne {A : Ad} {S : Mp} {R B : List Nat} {ss : List PV} {ws : List Wt} {p : Addr} (m : Mu A S R B ss ws) (h : S p = none) : ¬ isMu A p := by
  rintro (z | z | z | z)
  · rw [z, m.rr] at h; cases h
  · rw [z, m.bb] at h; cases h
  · rw [z, m.st] at h; cases h
  · rw [z, m.wt] at h; cases h
section
variable {P : Program} {w : World} {K : PySem.W.Frag} {mg : Str → Option Value} {base : Heap} {fl ft : Addr}
def G_met (w : World) (C : Addr) : DSp := fun xs S Q => ∃ (g : Gr) (A : Ad) (S0 : Mp) (R B : List Nat) (ss : List PV) (ws : List Wt) (x y : Nat), xs = [.loc A.c, .int x, .int y] ∧ GoodG g ∧ Fx w C g A S0 ∧ Ext S0 S ∧ Mu A S R B ss ws ∧ ws.length ≤ 8000000 ∧
  ∀ S' nw, Ext S0 S' → Mu A S' R B ss (ws ++ nw) → nw.map uvW = flowsAt g x y → Q .non S'
theorem f_met {f : Addr} {fd : FuncData} {C : Addr} (F : Fun K "met" "Closing.met" s_Closing_met f fd) (T : Txt K w mg fl ft) (C_flows_of_heads : C8.Cal P w K mg base 1 "flows_of_heads" (spD K G_flows_of_heads) []) (hC : Cls K C) (n1 : NoAttr K C "allowed_known") (n2 : NoAttr K C "lowers_at") (n3 : NoAttr K C "uppers_at") (n4 : NoAttr K C "waiting") (n5 : NoAttr K C "steps") :
    FnOk P w K mg base CX0 (1+1) f fd ["self", "x", "y"] (spD K (G_met w C)) := by
  refine fnD F sc_Closing_met (fun xs S Q h => by obtain ⟨_, _, _, _, _, _, _, _, _, rfl, _⟩ := h; rfl) fun cdv A outer s H E hr => ?_
  refine ⟨_, (pss_cons (ps_if (PW.pt (pw_or (pt_cmpR (o_inN hr) (pe_tup (pa_cons (pv 1) (pa_cons (pv 2) pa_nil))) (pe_fld (pv 0) rfl) (by rfl)) (pw_or (pt_cmp (pc_dnotin (hu_of hr) (pv 1) (pe_fld (pv 0) rfl))) (pw_or1 (pt_cmp (pc_dnotin (hu_of hr) (pv 2) (pe_fld (pv 0) rfl))))))) (pss_one ps_retN) pss_nil)
    (pss_one (ps_for PassesOwn.never rfl (pi_list (pe_dget (hu_of hr) (pe_fld (pv 0) rfl) (pv 1) (fun _ _ => rfl))) (pgK (K := K) (n := 2) (pgs_cons (pg_name (i := 3) sc_Closing_met.nd rfl (Or.inl rfl)) (pgs_cons (pg_name (i := 4) sc_Closing_met.nd rfl (Or.inl rfl)) pgs_nil))) (pss_one (ps_for PassesOwn.never rfl (pi_list (pe_dget (hu_of hr) (pe_fld (pv 0) rfl) (pv 2) (fun _ _ => rfl))) (pgK (K := K) (n := 2) (pgs_cons (pg_name (i := 5) sc_Closing_met.nd rfl (Or.inl rfl)) (pgs_cons (pg_name (i := 6) sc_Closing_met.nd rfl (Or.inl rfl)) pgs_nil))) (pss_one (ps_for PassesOwn.never rfl (pi_list (C8.pe_c C_flows_of_heads hr (by decide) (by rfl) (pa_cons (pv 4) (pa_cons (pv 6) pa_nil)))) (pgK (K := K) (n := 3) (pgs_cons (pg_name (i := 7) sc_Closing_met.nd rfl (Or.inl rfl)) (pgs_cons (pg_name (i := 8) sc_Closing_met.nd rfl (Or.inl rfl)) (pgs_cons (pg_name (i := 9) sc_Closing_met.nd rfl (Or.inl rfl)) pgs_nil)))) (pss_one (ps_expr (pe_bm PySem.F.plainAttrs_list PySem.F.slot_list_append PySem.F.type_list_append mt_append (pe_fld (pv 0) rfl) (pa_cons (pe_tup (pa_cons (pv 8) (pa_cons (pv 9) (pa_cons (pe_op op_plus (pe_tup (pa_cons (pe_ix (ixK (K := K)) (pv 7) pe_int (fun _ _ => rfl)) (pa_cons (pe_tup (pa_cons (pv 1) (pa_cons (pv 2) pa_nil))) (pa_cons (pv 3) (pa_cons (pv 5) pa_nil))))) (pe_slice sl_any (pv 7) (po_some pe_int) po_none)) (pa_cons (pe_callB c_len (by rfl) T.b_len bt_len (pa_cons (pe_fld (pv 0) rfl) pa_nil)) pa_nil))))) pa_nil))))))))))), ?_⟩
  try dsimp only [cxOf, Cx.nox, Cx.wish]
  refine ⟨_, inferInstance, ?_⟩
  rintro _ S Q ⟨g, A, S0, R, B, ss, ws, x, y, rfl, hg, fx, ex, mu, hw, q⟩
  have eI := ex _ _ fx.ins
  obtain ⟨nks, ks, a1, a2, a3⟩ := fx.al
  walk_at "D"
  refine ⟨by decide, _, _, eI, hC, n1, ?_⟩
  rw [fA5]
  simp only [optD_some]
  refine ⟨nks, ks, ex _ _ a1, a2, rfl, ?_⟩
  rw [show PV.tup [PV.int (x : Int), PV.int (y : Int)] = pvPr (x, y) from rfl, toNK_pr]
  simp only [optD_some]
  refine ⟨Nat.le_trans (depth_pr _) (by omega), ?_⟩
  by_cases hal : (x, y) ∈ g.al
  · rw [if_pos (by simp only [id, decide_eq_true_eq]; exact (a3 _).mpr hal)]
    exact q S [] ex (by rw [List.append_nil]; exact mu) (by unfold flowsAt; rw [if_pos hal]; rfl)
  rw [if_neg (by simp only [id, decide_eq_true_eq]; exact fun z => hal ((a3 _).mp z))]
  refine ⟨_, _, eI, hC, n2, ?_⟩
  rw [fA3]
  simp only [optD_some]
  rw [(fx.lo.mono ex).get x]
  simp only [optD_some]
  by_cases hx : rowsAt g.lo x = []
  · rw [fx.lo.no x hx]
    simp only [Option.isSome_none, Bool.not_false, if_true]
    exact q S [] ex (by rw [List.append_nil]; exact mu) (by unfold flowsAt; rw [if_neg hal, hx]; rfl)
  obtain ⟨ll, l1, l2⟩ := fx.lo.yes x hx
  rw [l1]
  simp only [Option.isSome_some, Bool.not_true, Bool.false_eq_true, if_false]
  refine ⟨_, _, eI, hC, n3, ?_⟩
  rw [fA4]
  simp only [optD_some]
  rw [(fx.up.mono ex).get y]
  simp only [optD_some]
  by_cases hy : rowsAt g.up y = []
  · rw [fx.up.no y hy]
    simp only [Option.isSome_none, Bool.not_false, if_true]
    exact q S [] ex (by rw [List.append_nil]; exact mu) (by unfold flowsAt; rw [if_neg hal, hy]; simp)
  obtain ⟨lu, u1, u2⟩ := fx.up.yes y hy
  rw [u1]
  simp only [Option.isSome_some, Bool.not_true, Bool.false_eq_true, if_false]
  refine ⟨_, _, eI, hC, n2, ?_⟩
  rw [fA3]
  simp only [optD_some]
  rw [(fx.lo.mono ex).get x]
  simp only [optD_some]
  rw [l1]
  simp only [optD_some]
  rw [lr_at (ex _ _ l2)]
  simp only [optD_some]
  have hlla : ¬ isMu A ll := fun z => by rw [fx.off _ z] at l2; cases l2
  have hlua : ¬ isMu A lu := fun z => by rw [fx.off _ z] at u2; cases u2
  have hlul : lu ≠ ll := fun z => fx.sep x y ll l1 (by rw [← z]; exact u1)
  have hcl : A.c ≠ ll := fun z => by rw [← z, fx.ins] at l2; cases l2
  have hcu : A.c ≠ lu := fun z => by rw [← z, fx.ins] at u2; cases u2
  have hdl : A.du ≠ ll := fun z => by rcases fx.up.at_ with e | e <;> (rw [z, l2] at e; cases e)
  refine forR_inv (fun r ρ S1 => ∃ done todo nw o3 o4 o5 o6 o7 o8 o9, rowsAt g.lo x = done ++ todo ∧ r = todo.map pvNum ∧ ρ = [some (.loc A.c), some (.int x), some (.int y), o3, o4, o5, o6, o7, o8, o9] ∧ ExtB [ll] S0 S1 ∧ Mu A S1 R B ss (ws ++ nw) ∧
    nw.map uvW = done.flatMap (fun a => (rowsAt g.up y).flatMap fun b => (flowsH a.2 b.2).map (·.2)) ∧ nw.length ≤ 90 * done.length) (fun x' r ρ S1 hI N hN => ?_) (fun ρ S1 hI => ?_) _ _ _ ⟨[], rowsAt g.lo x, [], none, none, none, none, none, none, none, rfl, rfl, rfl, (toB ex).put (by simp), by rw [List.append_nil]; exact mu.put hlla, rfl, Nat.zero_le _⟩
  · obtain ⟨done, todo, nw, o3, o4, o5, o6, o7, o8, o9, er, e, rfl, xb, mu1, eu, hn⟩ := hI
    cases todo with
    | nil => cases e
    | cons t todo =>
      cases e
      unfold pvNum
      walk_at "D"
      have pass : ∀ a o, S0 a = some o → a ≠ ll → S1 a = some o := fun a o e n => xb a o e (by simpa using n)
      refine ⟨_, _, pass _ _ fx.ins hcl, hC, n3, ?_⟩
      rw [fA4]
      simp only [optD_some]
      have hdu : atD S1 (.loc A.du) (.int y) = some (lkP A.ku (.inl (y : Int))) := by
        rcases fx.up.at_ with e | e
        · simp only [atD, pass _ _ e hdl, keyP, Option.map_some]
        · simp only [atD, pass _ _ e hdl, keyP, Option.map_some]
      rw [hdu]
      simp only [optD_some]
      rw [u1]
      simp only [optD_some]
      rw [lr_at (pass _ _ u2 hlul)]
      simp only [optD_some]
      have ht : t ∈ rowsAt g.lo x := by rw [er]; simp
      obtain ⟨gm1, gm2, gm3⟩ := hg.lo.hd _ (rowsAt_mem ht)
      have hfew := hg.few _ (rowsAt_mem ht)
      refine forR_inv (fun r ρ S2 => ∃ done2 todo2 nw2 o5 o6 o7 o8 o9, rowsAt g.up y = done2 ++ todo2 ∧ r = todo2.map pvNum ∧ ρ = [some (.loc A.c), some (.int x), some (.int y), some (.int t.1), some (pvH t.2), o5, o6, o7, o8, o9] ∧ ExtB [lu, ll] S0 S2 ∧ Mu A S2 R B ss (ws ++ nw ++ nw2) ∧
        nw2.map uvW = done2.flatMap (fun b => (flowsH t.2 b.2).map (·.2)) ∧ nw2.length ≤ 3 * done2.length) (fun x2 r2 ρ S2 hI N2 hN2 => ?_) (fun ρ S2 hI => ?_) _ _ _ ⟨[], rowsAt g.up y, [], o5, o6, o7, o8, o9, rfl, rfl, rfl, (xb.more (by simp)).put (by simp), by rw [List.append_nil]; exact mu1.put hlua, rfl, Nat.zero_le _⟩
      · obtain ⟨done2, todo2, nw2, p5, p6, p7, p8, p9, er2, e2, rfl, xb2, mu2, eu2, hn2⟩ := hI
        cases todo2 with
        | nil => cases e2
        | cons t2 todo2 =>
          cases e2
          unfold pvNum
          walk_at "D"
          have ht2 : t2 ∈ rowsAt g.up y := by rw [er2]; simp
          obtain ⟨gk1, gk2, gk3⟩ := hg.up.hd _ (rowsAt_mem ht2)
          refine ⟨t.2, t2.2, g.many, rfl, gm2, gk2, fun S3 p e3 hp0 hp => ?_⟩
          dsimp only
          rw [lr_at hp]
          simp only [optD_some]
          have hpm := mu2.ne hp0
          have hlw : (ws ++ nw ++ nw2).length ≤ 8100000 := by
            have a1 : done.length ≤ 30 := by have := rowsAt_len g.lo x; have := hg.loS; rw [er] at *; simp at *; omega
            have a2 : done2.length ≤ 30 := by have := rowsAt_len g.up y; have := hg.upS; rw [er2] at *; simp at *; omega
            simp only [List.length_append]
            omega
          have hfl := flows_len (h := t.2) (k := t2.2) hfew
          have hfw := flows_why gm2 gk2
          refine forR_inv (fun r ρ S4 => ∃ done3 todo3 nw3 o7 o8 o9, flowsH t.2 t2.2 = done3 ++ todo3 ∧ r = todo3.map pvFlow ∧ ρ = [some (.loc A.c), some (.int x), some (.int y), some (.int t.1), some (pvH t.2), some (.int t2.1), some (pvH t2.2), o7, o8, o9] ∧ ExtB [lu, ll] S0 S4 ∧ Mu A S4 R B ss (ws ++ nw ++ nw2 ++ nw3) ∧
            nw3.map uvW = done3.map (·.2) ∧ nw3.length = done3.length) (fun x3 r3 ρ S4 hI N3 hN3 => ?_) (fun ρ S4 hI => ?_) _ _ _ ⟨[], flowsH t.2 t2.2, [], p7, p8, p9, rfl, rfl, rfl, xb2.putN hp0 (xb2.ext e3), by rw [List.append_nil]; exact (mu2.ext e3).put hpm, rfl, rfl⟩
          · obtain ⟨done3, todo3, nw3, q7, q8, q9, er3, e3', rfl, xb3, mu3, eu3, hn3⟩ := hI
            cases todo3 with
            | nil => cases e3'
            | cons t3 todo3 =>
              cases e3'
              obtain ⟨⟨sw, rw', ew, h1, h2, h3⟩, h4, h5⟩ := hfw t3 (by rw [er3]; simp)
              unfold pvFlow
              have pass3 : ∀ a o, S0 a = some o → a ≠ lu → a ≠ ll → S4 a = some o := fun a o e n1 n2 => xb3 a o e (by simp [n1, n2])
              walk_at "D"
              rw [ew]
              refine ⟨_, _, pass3 _ _ fx.ins hcu hcl, hC, n4, ?_⟩
              rw [fA7]
              simp only [optD_some]
              rw [at0, cut1]
              simp only [optD_some]
              have hl3 : done3.length ≤ 3 := by rw [er3] at hfl; simp at hfl; omega
              refine ⟨.inl ⟨_, mu3.wt⟩, by decide, by decide, by rw [List.drop_succ_cons, List.drop_zero, sizeLine_eq]; omega, _, _, pass3 _ _ fx.ins hcu hcl, hC, n5, ?_⟩
              rw [fA6]
              simp only [optD_some, mu3.st]
              refine ⟨by decide, ?_⟩
              rw [lst_at mu3.wt]
              simp only [optD_some]
              refine ⟨by rw [List.length_map, List.length_append, sizeLine_eq]; omega, ?_⟩
              refine hN3 _ _ ⟨done3 ++ [t3], todo3, nw3 ++ [(t3.2.1, t3.2.2, PV.tup (PV.str sw :: PV.tup [PV.int x, PV.int y] :: PV.int t.1 :: PV.int t2.1 :: List.drop 1 (PV.str sw :: rw')), ss.length)], _, _, _, by rw [er3]; simp, rfl, rfl, ?_, ⟨?_, ?_, ?_, ?_, ?_⟩, ?_, ?_⟩
              · exact xb3.put0 (fx.off _ (.inr (.inr (.inr rfl))))
              · rw [mset_ne fx.d3]; exact mu3.rr
              · rw [mset_ne fx.d5]; exact mu3.bb
              · rw [mset_ne fx.d6]; exact mu3.st
              · rw [mset_same, ← List.append_assoc, List.map_append (l₂ := [_])]; rfl
              · intro z hz
                rw [← List.append_assoc] at hz
                rcases List.mem_append.mp hz with hz | hz
                · exact mu3.dat z hz
                · rw [List.mem_singleton.mp hz]
                  refine (dat_tup (n := 1) fun z hz => ?_).mono (by omega)
                  rcases List.mem_cons.mp hz with rfl | hz
                  · exact (dat_str h1).mono (by omega)
                  rcases List.mem_cons.mp hz with rfl | hz
                  · refine dat_tup (n := 0) fun z hz => ?_
                    rcases List.mem_cons.mp hz with rfl | hz
                    · exact dat_int _
                    · obtain rfl := List.mem_singleton.mp hz; exact dat_int _
                  rcases List.mem_cons.mp hz with rfl | hz
                  · exact (dat_int _).mono (by omega)
                  rcases List.mem_cons.mp hz with rfl | hz
                  · exact (dat_int _).mono (by omega)
                  · exact (h2 z hz).mono (by omega)
              · rw [List.map_append, eu3, List.map_append]; rfl
              · rw [List.length_append, List.length_append, hn3]; rfl
          · obtain ⟨done3, todo3, nw3, q7, q8, q9, er3, e3', rfl, xb3, mu3, eu3, hn3⟩ := hI
            cases todo3 with
            | cons t3 todo3 => cases e3'
            | nil =>
              rw [List.append_nil] at er3
              refine hN2 _ _ ⟨done2 ++ [t2], todo2, nw2 ++ nw3, _, _, _, _, _, by rw [er2]; simp, rfl, rfl, xb2.putN hp0 xb3, by rw [← List.append_assoc]; exact mu3.put hpm, ?_, ?_⟩
              · rw [List.map_append, eu2, eu3, List.flatMap_append, ← er3]
                simp
              · rw [List.length_append, List.length_append]
                rw [er3] at hfl
                simp only [List.length_cons, List.length_nil]
                omega
      · obtain ⟨done2, todo2, nw2, p5, p6, p7, p8, p9, er2, e2, rfl, xb2, mu2, eu2, hn2⟩ := hI
        cases todo2 with
        | cons t2 todo2 => cases e2
        | nil =>
          rw [List.append_nil] at er2
          have hl1 := rowsAt_len g.up y
          have hl2 := hg.upS
          refine hN _ _ ⟨done ++ [t], todo, nw ++ nw2, _, _, _, _, _, _, _, by rw [er]; simp, rfl, rfl, xb2.back u2, by rw [← List.append_assoc]; exact mu2.put hlua, ?_, ?_⟩
          · rw [List.map_append, eu, eu2, List.flatMap_append, er2]
            simp
          · rw [List.length_append, List.length_append]
            rw [er2] at hl1
            simp only [List.length_cons, List.length_nil]
            omega
  · obtain ⟨done, todo, nw, o3, o4, o5, o6, o7, o8, o9, er, e, rfl, xb, mu1, eu, hn⟩ := hI
    cases todo with
    | cons t todo => cases e
    | nil =>
      rw [List.append_nil] at er
      refine q _ nw (xb.back l2).nil (mu1.put hlla) ?_
      rw [eu]
      unfold flowsAt
      rw [if_neg hal, er]
end
end K06

namespace K06
open PySem PySem.Spec PyProof.Rows L2 DL
local macro_rules | `(tactic| walk_at "D") => `(tactic| simp only [dRet, dRetN, dNext, dSeq, dIfS, dDrop, dAsg, dgName, dAndV, dOrV, dNotV, dAnd, dOr, dNot, dTest, dIf, dCB, dCons, dNil, dVar, getv, dC, sc, dChain, dOp, dUn, dI0, dI, dU, dEqS, dNeS, dIsi, dLen, dIx, dPart, dNoPart, dSl, dSlX, dCall, dAllC, dTup, dLst, dYes, dInSg, dInF, seqP, dLc, bkS, dFor, bkD, dIStr, dITup, dIZip, dIList, wipeD, dWGet, dCallA, dDictK, dDIn, dListC, dTupC, dDGet, dgTup, dgCons, dgNil, dPar, dPar3, dBM, dBM0, dAppend, dExtend, dPop, dty, dBits, dgSub, dSetL, dFld, dsFld, dMeth, dMake, dDGet1, dDSetd, dsDPut, dRevL, dPlus, dDisp, dPairs, dIEnum, dIEnumT, dIRng1, dIRng2, dIKeys, dLock, dTupF1, dTupF, dDictN, dSortN, dInN, dDcN, dInT, dIsN, dNotN, dIsB, dI2, dInt1, dRepr, dWhile, dDNewK, dAug, dBreak, dCont, dNever,
  startD, List.map_cons, List.map_nil, List.length_cons, List.length_nil, List.getElem?_cons_zero, List.getElem?_cons_succ, List.cons_append, List.nil_append, List.replicate, Nat.reduceAdd, Nat.reduceSub, List.set_cons_zero, List.set_cons_succ, isB, tyP, okTy, optD_some, optD_none, Option.isSome_some, true_and, and_true, if_true, if_false, Bool.false_eq_true, List.all_cons, List.all_nil, beq_self_eq_true, eqP_int, eqP_str, scal_int, scal_str, Bool.not_true, Bool.not_false, decide_true, decide_false])
/-! ### the closing: a flow that joins -/
def bit (R : List Nat) (i j : Nat) : Bool := (R.getD i 0).testBit j
def prs (m : Nat) : List (Nat × Nat) := (List.range m).flatMap fun i => (List.range m).map fun j => (i, j)
def zeros (m : Nat) (R : List Nat) : Nat := (prs m).countP fun p => !bit R p.1 p.2
structure St (m : Nat) (R B : List Nat) : Prop where
  lenR : R.length = m
  lenB : B.length = m
  ltR : ∀ i j, bit R i j = true → i < m ∧ j < m
  tr : ∀ i j, bit B j i = bit R i j
structure Jn (g : Gr) (x y : Nat) (R B R' B' : List Nat) (nw : List (Nat × Nat)) : Prop where
  st : St g.many R' B'
  r : ∀ i j, bit R' i j = (bit R i j || (bit R i x && bit R y j))
  new : ∀ i j, bit R' i j = true → bit R i j = false → ∀ p ∈ flowsAt g i j, p ∈ nw
  old : ∀ p ∈ nw, ∃ i j, bit R' i j = true ∧ p ∈ flowsAt g i j
  pot : nw.length + 2700 * zeros g.many B' ≤ 2700 * zeros g.many B
theorem pvNs_at {R : List Nat} {x : Nat} (h : x < R.length) : atI (pvNs R) (x : Int) = some (.int (R.getD x 0 : Nat)) := by
  refine atI_nat ?_
  rw [pvNs, List.getElem?_map, List.getElem?_eq_getElem h, List.getD_eq_getElem?_getD, List.getElem?_eq_getElem h]
  rfl
theorem pvNs_set {R : List Nat} {i v : Nat} : (pvNs R).set i (.int v) = pvNs (R.set i v) := by
  unfold pvNs
  rw [List.map_set]
theorem ix_nat {n i : Nat} (h : i < n) : ixN n (i : Int) = some i := by
  unfold ixN
  rw [if_pos (by omega), if_pos (by omega), Int.toNat_natCast]
theorem bit_set {R : List Nat} {i v : Nat} (h : i < R.length) (a b : Nat) : bit (R.set i v) a b = if a = i then v.testBit b else bit R a b := by
  unfold bit
  rw [List.getD_eq_getElem?_getD, List.getD_eq_getElem?_getD, List.getElem?_set]
  by_cases e : i = a
  · subst e; simp [h]
  · rw [if_neg e, if_neg (fun z => e z.symm)]
theorem St.val {m : Nat} {R B : List Nat} (s : St m R B) (i : Nat) : R.getD i 0 < 2 ^ m := by
  refine Nat.lt_pow_two_of_testBit _ fun j hj => ?_
  cases h : (R.getD i 0).testBit j with
  | false => rfl
  | true => have := (s.ltR i j h).2; omega
theorem St.valB {m : Nat} {R B : List Nat} (s : St m R B) (i : Nat) : B.getD i 0 < 2 ^ m := by
  refine Nat.lt_pow_two_of_testBit _ fun j hj => ?_
  cases h : (B.getD i 0).testBit j with
  | false => rfl
  | true =>
    have h' : bit B i j = true := h
    rw [s.tr] at h'
    have := (s.ltR j i h').1; omega
theorem Mu.addS {A : Ad} {w : World} {C : Addr} {g : Gr} {S0 S : Mp} {R B : List Nat} {ss : List PV} {ws : List Wt} (fx : Fx w C g A S0) (m : Mu A S R B ss ws) (z : PV) : Mu A (mset S A.st (some (.lst (ss ++ [z])))) R B (ss ++ [z]) ws :=
  ⟨by rw [mset_ne fx.d2]; exact m.rr, by rw [mset_ne fx.d4]; exact m.bb, mset_same, by rw [mset_ne (Ne.symm fx.d6)]; exact m.wt, m.dat⟩
theorem Mu.setR {A : Ad} {w : World} {C : Addr} {g : Gr} {S0 S : Mp} {R B R' : List Nat} {ss : List PV} {ws : List Wt} (fx : Fx w C g A S0) (m : Mu A S R B ss ws) : Mu A (mset S A.pr (some (.lst (pvNs R')))) R' B ss ws :=
  ⟨mset_same, by rw [mset_ne (Ne.symm fx.d1)]; exact m.bb, by rw [mset_ne (Ne.symm fx.d2)]; exact m.st, by rw [mset_ne (Ne.symm fx.d3)]; exact m.wt, m.dat⟩
theorem Mu.setB {A : Ad} {w : World} {C : Addr} {g : Gr} {S0 S : Mp} {R B B' : List Nat} {ss : List PV} {ws : List Wt} (fx : Fx w C g A S0) (m : Mu A S R B ss ws) : Mu A (mset S A.pb (some (.lst (pvNs B')))) R B' ss ws :=
  ⟨by rw [mset_ne fx.d1]; exact m.rr, mset_same, by rw [mset_ne (Ne.symm fx.d4)]; exact m.st, by rw [mset_ne (Ne.symm fx.d5)]; exact m.wt, m.dat⟩
theorem countP_lt {α : Type} {p q : α → Bool} : ∀ {l : List α}, (∀ x, p x = true → q x = true) → (∃ x ∈ l, q x = true ∧ p x = false) → l.countP p + 1 ≤ l.countP q
  | [], _, h => by obtain ⟨x, hx, _⟩ := h; cases hx
  | y :: l, hm, h => by
    have mono : l.countP p ≤ l.countP q := List.countP_mono_left fun x _ hx => hm x hx
    rw [List.countP_cons, List.countP_cons]
    obtain ⟨x, hx, h1, h2⟩ := h
    rcases List.mem_cons.mp hx with rfl | hx
    · rw [h1, h2]; simp; omega
    · have ih := countP_lt (l := l) hm ⟨x, hx, h1, h2⟩
      by_cases e : p y = true
      · rw [e, hm y e]; simp; omega
      · rw [if_neg e]; split <;> omega
theorem mem_prs {m i j : Nat} (hi : i < m) (hj : j < m) : (i, j) ∈ prs m := List.mem_flatMap.mpr ⟨i, List.mem_range.mpr hi, List.mem_map.mpr ⟨j, List.mem_range.mpr hj, rfl⟩⟩
theorem zeros_lt {m i j : Nat} {B B' : List Nat} (h : ∀ a b, bit B a b = true → bit B' a b = true) (hi : i < m) (hj : j < m) (h0 : bit B i j = false) (h1 : bit B' i j = true) : zeros m B' + 1 ≤ zeros m B := by
  unfold zeros
  refine countP_lt (fun x hx => ?_) ⟨(i, j), mem_prs hi hj, by simp [h0], by simp [h1]⟩
  cases e : bit B x.1 x.2 with
  | false => rfl
  | true => rw [h _ _ e] at hx; exact absurd hx (by decide)
theorem flatMap_len {α β : Type} {f : α → List β} {k : Nat} : ∀ {l : List α}, (∀ x ∈ l, (f x).length ≤ k) → (l.flatMap f).length ≤ k * l.length
  | [], _ => by simp
  | x :: l, h => by
    rw [List.flatMap_cons, List.length_append, List.length_cons, Nat.mul_succ]
    have := flatMap_len (l := l) fun y hy => h y (List.mem_cons_of_mem _ hy)
    have := h x List.mem_cons_self
    omega
theorem flowsAt_len {g : Gr} (hg : GoodG g) (x y : Nat) : (flowsAt g x y).length ≤ 2700 := by
  unfold flowsAt
  split
  · exact Nat.zero_le _
  · have h1 := rowsAt_len g.lo x
    have h2 := rowsAt_len g.up y
    have h3 := hg.loS
    have h4 := hg.upS
    have := flatMap_len (l := rowsAt g.lo x) (f := fun a => (rowsAt g.up y).flatMap fun b => (flowsH a.2 b.2).map (·.2)) (k := 90) fun a ha => by
      have := flatMap_len (l := rowsAt g.up y) (f := fun b => (flowsH a.2 b.2).map (·.2)) (k := 3) fun b hb => by
        rw [List.length_map]
        exact flows_len (hg.few (x, a.2) (rowsAt_mem ha))
      omega
    omega
section
variable {P : Program} {w : World} {K : PySem.W.Frag} {mg : Str → Option Value} {base : Heap} {fl ft : Addr}
def G_joined (w : World) (C : Addr) : DSp := fun xs S Q => ∃ (g : Gr) (A : Ad) (S0 : Mp) (R B : List Nat) (ss : List PV) (ws : List Wt) (t : Wt), xs = [.loc A.c, pvW t] ∧ GoodG g ∧ Fx w C g A S0 ∧ Ext S0 S ∧ Mu A S R B ss ws ∧ St g.many R B ∧ t.1 < g.many ∧ t.2.1 < g.many ∧
  ws.length + 2700 * zeros g.many B ≤ 7000000 ∧ ss.length ≤ 1000000 ∧ (bit R t.1 t.2.1 = true → ∀ S', Ext S0 S' → Mu A S' R B ss ws → Q .non S') ∧
  (bit R t.1 t.2.1 = false → ∀ S' R' B' nw, Ext S0 S' → Mu A S' R' B' (ss ++ [pvW t]) (ws ++ nw) → Jn g t.1 t.2.1 R B R' B' (nw.map uvW) → Q .non S')
theorem f_joined {f : Addr} {fd : FuncData} {C : Addr} (F : Fun K "joined" "Closing.joined" s_Closing_joined f fd) (T : Txt K w mg fl ft) (C_ones : C8.Cal P w K mg base 1 "ones" (spD K G_ones) []) (C_Closing_met : C8.Met P w K mg base 2 C "met" (spD K (G_met w C)) []) (hC : Cls K C) (n1 : NoAttr K C "reach") (n2 : NoAttr K C "back") (n5 : NoAttr K C "steps") :
    FnOk P w K mg base CX0 (2+1) f fd ["self", "step"] (spD K (G_joined w C)) := by
  refine fnD F sc_Closing_joined (fun xs S Q h => by obtain ⟨_, _, _, _, _, _, _, _, rfl, _⟩ := h; rfl) fun cdv A outer s H E hr => ?_
  refine ⟨_, (pss_cons (ps_asg (pv 1) (pgK (K := K) (n := 4) (pgs_cons (pg_name (i := 2) sc_Closing_joined.nd rfl (Or.inl rfl)) (pgs_cons (pg_name (i := 3) sc_Closing_joined.nd rfl (Or.inl rfl)) (pgs_cons (pg_name (i := 4) sc_Closing_joined.nd rfl (Or.inl rfl)) (pgs_cons (pg_name (i := 5) sc_Closing_joined.nd rfl (Or.inl rfl)) pgs_nil))))))
    (pss_cons (ps_if (pt_cmpR op_eq (pe_op op_and (pe_op op_shr (pe_ix (ixK (K := K)) (pe_fld (pv 0) rfl) (pv 2) (fun _ _ => rfl)) (pv 3)) pe_int) pe_int (nomark _)) (pss_one ps_retN) pss_nil)
    (pss_cons (ps_expr (pe_bm PySem.F.plainAttrs_list PySem.F.slot_list_append PySem.F.type_list_append mt_append (pe_fld (pv 0) rfl) (pa_cons (pv 1) pa_nil)))
    (pss_cons (ps_par (i := 6) (j := 7) rfl sc_Closing_joined.nd rfl rfl (by decide) rfl rfl (pa_cons (pe_ix (ixK (K := K)) (pe_fld (pv 0) rfl) (pv 2) (fun _ _ => rfl)) (pa_cons (pe_ix (ixK (K := K)) (pe_fld (pv 0) rfl) (pv 3) (fun _ _ => rfl)) pa_nil)) (by rfl))
    (pss_one (ps_for PassesOwn.never rfl (pi_list (C8.pe_c C_ones hr (by decide) (by rfl) (pa_cons (pv 6) pa_nil))) (pg_name (i := 8) sc_Closing_joined.nd rfl (Or.inl rfl)) (pss_cons (ps_set (i := 9) sc_Closing_joined.nd rfl (Or.inl rfl) (pe_op op_and (pv 7) (pe_un un_inv (pe_ix (ixK (K := K)) (pe_fld (pv 0) rfl) (pv 8) (fun _ _ => rfl)))))
    (pss_cons (ps_asg (pe_op op_or (pe_ix (ixK (K := K)) (pe_fld (pv 0) rfl) (pv 8) (fun _ _ => rfl)) (pv 9)) (pg_sub (pe_fld (pv 0) rfl) (pv 8) set_list))
    (pss_one (ps_for PassesOwn.never rfl (pi_list (C8.pe_c C_ones hr (by decide) (by rfl) (pa_cons (pv 9) pa_nil))) (pg_name (i := 10) sc_Closing_joined.nd rfl (Or.inl rfl)) (pss_cons (ps_asg (pe_op op_or (pe_ix (ixK (K := K)) (pe_fld (pv 0) rfl) (pv 10) (fun _ _ => rfl)) (pe_op op_shl pe_int (pv 8))) (pg_sub (pe_fld (pv 0) rfl) (pv 10) set_list))
    (pss_one (ps_expr (C8.pe_mt C_Closing_met hr (by decide) (pv 0) (pa_cons (pv 8) (pa_cons (pv 10) pa_nil)))))))))))))))), ?_⟩
  try dsimp only [cxOf, Cx.nox, Cx.wish]
  refine ⟨_, inferInstance, ?_⟩
  rintro _ S Q ⟨g, A, S0, R, B, ss, ws, t, rfl, hg, fx, ex, mu, st, hx, hy, hp, hs, q1, q2⟩
  obtain ⟨x, y, why, n⟩ := t
  have eI := ex _ _ fx.ins
  unfold pvW
  walk_at "D"
  refine ⟨_, _, eI, hC, n1, ?_⟩
  rw [fA1]
  simp only [optD_some]
  have hxl : x < R.length := by rw [st.lenR]; exact hx
  have hyl : y < R.length := by rw [st.lenR]; exact hy
  have hxb : x < B.length := by rw [st.lenB]; exact hx
  rw [mu.rr]
  simp only [optD_some]
  rw [pvNs_at hxl]
  simp only [optD_some]
  refine ⟨by omega, ?_⟩
  rw [Int.toNat_natCast, bit_and1]
  cases hb : bit R x y with
  | true =>
    have hb' : (R.getD x 0).testBit y = true := hb
    rw [hb']
    simp only [if_true, decide_true]
    exact q1 hb S ex mu
  | false =>
    have hb' : (R.getD x 0).testBit y = false := hb
    rw [hb']
    rw [if_neg (by simp)]
    refine ⟨_, _, eI, hC, n5, ?_⟩
    rw [fA6]
    simp only [optD_some]
    refine ⟨.inl ⟨_, mu.st⟩, ?_⟩
    rw [lst_at mu.st]
    simp only [optD_some]
    refine ⟨by rw [sizeLine_eq]; omega, ?_⟩
    have ex1 := Ext.mset2 (o := some (.lst (ss ++ [pvW (x, y, why, n)]))) (fx.off A.st (.inr (.inr (.inl rfl)))) ex
    have mu1 := mu.addS fx (pvW (x, y, why, n))
    refine ⟨_, _, ex1 _ _ fx.ins, hC, n2, ?_⟩
    rw [fA2]
    simp only [optD_some]
    rw [show (PV.tup [PV.int x, PV.int y, why, PV.int n]) = pvW (x, y, why, n) from rfl]
    rw [mu1.bb]
    simp only [optD_some]
    rw [pvNs_at hxb]
    simp only [optD_some]
    refine ⟨_, _, ex1 _ _ fx.ins, hC, n1, ?_⟩
    rw [fA1]
    simp only [optD_some]
    rw [mu1.rr]
    simp only [optD_some]
    rw [pvNs_at hyl]
    simp only [optD_some]
    refine ⟨_, g.many, rfl, st.valB x, by have := hg.most; omega, fun S2 p as has e2 hp0 hp => ?_⟩
    dsimp only
    rw [lr_at hp]
    simp only [optD_some]
    refine forR_inv (fun r ρ S3 => ∃ done todo R1 B1 nw o8 o9 o10, as = done ++ todo ∧ r = pvNs todo ∧ ρ = [some (.loc A.c), some (pvW (x, y, why, n)), some (.int x), some (.int y), some why, some (.int n), some (.int (B.getD x 0 : Nat)), some (.int (R.getD y 0 : Nat)), o8, o9, o10] ∧ Ext S0 S3 ∧
      Mu A S3 R1 B1 (ss ++ [pvW (x, y, why, n)]) (ws ++ nw) ∧ St g.many R1 B1 ∧ (∀ i j, bit R1 i j = (bit R i j || (decide (i ∈ done) && bit R y j))) ∧ (∀ i j, bit R1 i j = true → bit R i j = false → ∀ p ∈ flowsAt g i j, p ∈ nw.map uvW) ∧
      (∀ p ∈ nw.map uvW, ∃ i j, bit R1 i j = true ∧ p ∈ flowsAt g i j) ∧ nw.length + 2700 * zeros g.many B1 ≤ 2700 * zeros g.many B) (fun x' r ρ S3 hI N hN => ?_) (fun ρ S3 hI => ?_) _ _ _
      ⟨[], as, R, B, [], none, none, none, rfl, rfl, rfl, Ext.mset2 (none_back ex1 hp0) (ex1.trans e2), by rw [List.append_nil]; exact (mu1.ext e2).put (mu1.ne hp0), st, fun i j => by simp, fun i j h1 h2 => (by rw [h1] at h2; cases h2), fun p hp => (by cases hp), by simp⟩
    · obtain ⟨done, todo, R1, B1, nw, o8, o9, o10, ea, e, rfl, x3, mu3, st3, b3, new3, old3, pot3⟩ := hI
      cases todo with
      | nil => cases e
      | cons i todo =>
        cases e
        have hia : i ∈ as := by rw [ea]; simp
        have hBi : bit R i x = true := by rw [← st.tr]; exact (has.mem i).mp hia
        have him := (st.ltR _ _ hBi).1
        have hid : i ∉ done := fun z => by
          have := has.up
          rw [ea, List.pairwise_append] at this
          exact absurd (this.2.2 i z i List.mem_cons_self) (Nat.lt_irrefl _)
        have hR1i : ∀ j, bit R1 i j = bit R i j := fun j => by rw [b3]; simp [hid]
        have hil : i < R1.length := by rw [st3.lenR]; exact him
        walk_at "D"
        refine ⟨_, _, x3 _ _ fx.ins, hC, n1, ?_⟩
        rw [fA1]
        simp only [optD_some]
        rw [mu3.rr]
        simp only [optD_some]
        rw [pvNs_at hil]
        simp only [optD_some]
        have hv : Builtin.bitAnd ((R.getD y 0 : Nat) : Int) (Builtin.bitNot ((R1.getD i 0 : Nat) : Int)) = ((R.getD y 0 - (R.getD y 0 &&& R1.getD i 0) : Nat) : Int) := by
          rw [andnot_nat, Int.ofNat_sub Nat.and_le_left]
        rw [hv]
        have hvb : ∀ j, (R.getD y 0 - (R.getD y 0 &&& R1.getD i 0)).testBit j = (bit R y j && !bit R i j) := fun j => by
          rw [testBit_minus, ← hR1i]; rfl
        have hvl : R.getD y 0 - (R.getD y 0 &&& R1.getD i 0) < 2 ^ g.many := Nat.lt_of_le_of_lt (Nat.sub_le _ _) (st.val y)
        generalize R.getD y 0 - (R.getD y 0 &&& R1.getD i 0) = v at hvb hvl
        refine ⟨_, _, x3 _ _ fx.ins, hC, n1, ?_⟩
        rw [fA1]
        simp only [optD_some]
        rw [mu3.rr]
        simp only [optD_some]
        rw [pvNs_at hil]
        simp only [optD_some]
        refine ⟨_, _, x3 _ _ fx.ins, hC, n1, ?_⟩
        rw [fA1]
        simp only [optD_some]
        rw [lst_at mu3.rr]
        simp only [optD_some]
        rw [ix_nat (by rw [pvNs, List.length_map]; exact hil)]
        simp only [optD_some]
        rw [or_nat, pvNs_set]
        have x4 := Ext.mset2 (o := some (.lst (pvNs (R1.set i (R1.getD i 0 ||| v))))) (fx.off A.pr (.inl rfl)) x3
        have mu4 := mu3.setR fx (R' := R1.set i (R1.getD i 0 ||| v))
        have hb2 : ∀ a b, bit (R1.set i (R1.getD i 0 ||| v)) a b = (bit R a b || (decide (a ∈ done ++ [i]) && bit R y b)) := fun a b => by
          rw [bit_set hil]
          by_cases e : a = i
          · subst e
            rw [if_pos rfl, Nat.testBit_or, hvb]
            rw [show (R1.getD a 0).testBit b = bit R1 a b from rfl, hR1i]
            simp
            cases bit R a b <;> simp
          · rw [if_neg e, b3]
            simp [e]
        have hl2 : (R1.set i (R1.getD i 0 ||| v)).length = g.many := by rw [List.length_set]; exact st3.lenR
        generalize R1.set i (R1.getD i 0 ||| v) = R2 at x4 mu4 hb2 hl2
        refine ⟨v, g.many, rfl, hvl, by have := hg.most; omega, fun S5 p5 fs hfs e5 hp50 hp5 => ?_⟩
        dsimp only
        rw [lr_at hp5]
        simp only [optD_some]
        have hp5n := mu4.ne hp50
        have hp5s := none_back x4 hp50
        refine forR_inv (fun r ρ S6 => ∃ done2 todo2 B2 nw2 o10, fs = done2 ++ todo2 ∧ r = pvNs todo2 ∧ ρ = [some (.loc A.c), some (pvW (x, y, why, n)), some (.int x), some (.int y), some why, some (.int n), some (.int (B.getD x 0 : Nat)), some (.int (R.getD y 0 : Nat)), some (.int i), some (.int v), o10] ∧ Ext S0 S6 ∧
          Mu A S6 R2 B2 (ss ++ [pvW (x, y, why, n)]) (ws ++ nw ++ nw2) ∧ B2.length = g.many ∧ (∀ a b, bit B2 b a = (bit B1 b a || (decide (a = i) && decide (b ∈ done2)))) ∧ (∀ j ∈ done2, ∀ p ∈ flowsAt g i j, p ∈ nw2.map uvW) ∧
          (∀ p ∈ nw2.map uvW, ∃ j ∈ done2, p ∈ flowsAt g i j) ∧ nw2.length + 2700 * zeros g.many B2 ≤ 2700 * zeros g.many B1) (fun x' r ρ S6 hI N2 hN2 => ?_) (fun ρ S6 hI => ?_) _ _ _
          ⟨[], fs, B1, [], o10, rfl, rfl, rfl, Ext.mset2 hp5s (x4.trans e5), by rw [List.append_nil]; exact (mu4.ext e5).put hp5n, st3.lenB, fun i j => by simp, fun i j => (by cases j), fun p hp => (by cases hp), by simp⟩
        · obtain ⟨done2, todo2, B2, nw2, o10, ea2, e2', rfl, x6, mu6, l6, b6, new6, old6, pot6⟩ := hI
          cases todo2 with
          | nil => cases e2'
          | cons j todo2 =>
            cases e2'
            have hjf : j ∈ fs := by rw [ea2]; simp
            have hvj := (hfs.mem j).mp hjf
            have hvj' := hvj
            rw [hvb, Bool.and_eq_true, Bool.not_eq_true'] at hvj'
            have hjm := (st.ltR _ _ hvj'.1).2
            have hjl : j < B2.length := by rw [l6]; exact hjm
            have hjd : j ∉ done2 := fun z => by
              have := hfs.up
              rw [ea2, List.pairwise_append] at this
              exact absurd (this.2.2 j z j List.mem_cons_self) (Nat.lt_irrefl _)
            walk_at "D"
            refine ⟨_, _, x6 _ _ fx.ins, hC, n2, ?_⟩
            rw [fA2]
            simp only [optD_some]
            rw [mu6.bb]
            simp only [optD_some]
            rw [pvNs_at hjl]
            simp only [optD_some]
            have him14 := hg.most
            refine ⟨⟨by omega, by omega, by decide⟩, _, _, x6 _ _ fx.ins, hC, n2, ?_⟩
            rw [fA2]
            simp only [optD_some]
            rw [lst_at mu6.bb]
            simp only [optD_some]
            rw [ix_nat (by rw [pvNs, List.length_map]; exact hjl)]
            simp only [optD_some]
            rw [show (1 * 2 ^ ((i : Int).toNat) : Int) = ((2 ^ i : Nat) : Int) by rw [Int.toNat_natCast, Int.one_mul]; simp, or_nat, pvNs_set]
            have x7 := Ext.mset2 (o := some (.lst (pvNs (B2.set j (B2.getD j 0 ||| 2 ^ i))))) (fx.off A.pb (.inr (.inl rfl))) x6
            have mu7 := mu6.setB fx (B' := B2.set j (B2.getD j 0 ||| 2 ^ i))
            have b7 : ∀ a b, bit (B2.set j (B2.getD j 0 ||| 2 ^ i)) b a = (bit B1 b a || (decide (a = i) && decide (b ∈ done2 ++ [j]))) := fun a b => by
              rw [bit_set hjl]
              by_cases e : b = j
              · subst e
                rw [if_pos rfl, Nat.testBit_or, Nat.testBit_two_pow]
                rw [show (B2.getD b 0).testBit a = bit B2 b a from rfl, b6]
                simp [hjd]
                by_cases q : a = i
                · subst q; simp
                · simp [q, Ne.symm q]
              · rw [if_neg e, b6]
                simp [e]
            have l7 : (B2.set j (B2.getD j 0 ||| 2 ^ i)).length = g.many := by rw [List.length_set]; exact l6
            generalize B2.set j (B2.getD j 0 ||| 2 ^ i) = B3 at x7 mu7 b7 l7
            have hz : zeros g.many B3 + 1 ≤ zeros g.many B2 := by
              refine zeros_lt (i := j) (j := i) (fun a b h => ?_) hjm him ?_ ?_
              · rw [b6] at h
                rw [b7]
                rcases (by simpa using h : bit B1 a b = true ∨ (b = i ∧ a ∈ done2)) with h8 | ⟨h9, h8⟩
                · rw [h8]; rfl
                · simp [h8, h9]
              · rw [b6, st3.tr, hR1i, hvj'.2]
                simp [hjd]
              · rw [b7]; simp
            have hfl := flowsAt_len hg i j
            refine ⟨_, x7 _ _ fx.ins, rfl, g, A, S0, R2, B3, _, ws ++ nw ++ nw2, i, j, rfl, hg, fx, x7, mu7, ?_, fun S8 nw3 x8 mu8 e8 => ?_⟩
            · simp only [List.length_append]
              omega
            · have hl3 : nw3.length ≤ 2700 := by
                have := congrArg List.length e8
                rw [List.length_map] at this
                omega
              refine hN2 _ _ ⟨done2 ++ [j], todo2, B3, nw2 ++ nw3, _, by rw [ea2]; simp, rfl, rfl, x8, by rw [← List.append_assoc]; exact mu8, l7, b7, fun a ha p hp => ?_, fun p hp => ?_, by rw [List.length_append]; omega⟩
              · rw [List.map_append]
                rcases List.mem_append.mp ha with ha | ha
                · exact List.mem_append_left _ (new6 a ha p hp)
                · rw [List.mem_singleton.mp ha] at hp
                  exact List.mem_append_right _ (by rw [e8]; exact hp)
              · rw [List.map_append] at hp
                rcases List.mem_append.mp hp with hp | hp
                · obtain ⟨a, h1, h2⟩ := old6 p hp
                  exact ⟨a, List.mem_append_left _ h1, h2⟩
                · rw [e8] at hp
                  exact ⟨j, by simp, hp⟩
        · obtain ⟨done2, todo2, B2, nw2, o10, ea2, e2', rfl, x6, mu6, l6, b6, new6, old6, pot6⟩ := hI
          cases todo2 with
          | cons j todo2 => cases e2'
          | nil =>
            rw [List.append_nil] at ea2
            subst ea2
            have hR1R2 : ∀ a b, bit R2 a b = (bit R1 a b || (decide (a = i) && decide (b ∈ fs))) := fun a b => by
              rw [hb2, b3]
              have hm := hfs.mem b
              rw [hvb] at hm
              by_cases e : a = i
              · subst e
                by_cases hb : b ∈ fs
                · have := hm.mp hb
                  simp [hb] at this ⊢
                  simp [this.1]
                · have : (bit R y b && !bit R a b) = false := by
                    cases q : (bit R y b && !bit R a b) with
                    | false => rfl
                    | true => exact absurd (hm.mpr q) hb
                  simp [hb, hid]
                  cases q1 : bit R a b <;> cases q2 : bit R y b <;> simp [q1, q2] at this ⊢
              · simp [e]
            have st6 : St g.many R2 B2 := ⟨hl2, l6, fun a b h => by
              rw [hR1R2] at h
              rcases Bool.or_eq_true _ _ ▸ h with h | h
              · exact st3.ltR a b h
              · simp at h
                rw [h.1]
                have := (hfs.mem b).mp h.2
                rw [hvb, Bool.and_eq_true] at this
                exact ⟨him, (st.ltR _ _ this.1).2⟩, fun a b => by rw [b6, hR1R2, st3.tr]⟩
            refine hN _ _ ⟨done ++ [i], todo, R2, B2, nw ++ nw2, _, _, _, by rw [ea]; simp, rfl, rfl, Ext.mset2 hp5s x6, by rw [← List.append_assoc]; exact mu6.put hp5n, st6, hb2, fun a b h1 h2 p hp => ?_, fun p hp => ?_, by rw [List.length_append]; omega⟩
            · rw [List.map_append]
              rw [hR1R2] at h1
              rcases (by simpa using h1 : bit R1 a b = true ∨ (a = i ∧ b ∈ fs)) with h | ⟨rfl, h⟩
              · exact List.mem_append_left _ (new3 a b h h2 p hp)
              · exact List.mem_append_right _ (new6 b h p hp)
            · rw [List.map_append] at hp
              rcases List.mem_append.mp hp with hp | hp
              · obtain ⟨a, b, h1, h2⟩ := old3 p hp
                exact ⟨a, b, by rw [hR1R2, h1]; rfl, h2⟩
              · obtain ⟨b, h1, h2⟩ := old6 p hp
                exact ⟨i, b, by rw [hR1R2]; simp [h1], h2⟩
    · obtain ⟨done, todo, R1, B1, nw, o8, o9, o10, ea, e, rfl, x3, mu3, st3, b3, new3, old3, pot3⟩ := hI
      cases todo with
      | cons i todo => cases e
      | nil =>
        rw [List.append_nil] at ea
        subst ea
        have hp3 : S0 p = none := none_back ex1 hp0
        refine q2 hb _ R1 B1 nw (Ext.mset2 hp3 x3) (mu3.put (mu1.ne hp0)) ⟨st3, fun i j => ?_, new3, old3, by rw [List.length_map]; exact pot3⟩
        rw [b3]
        congr 2
        have := has.mem i
        rw [show (B.getD x 0).testBit i = bit B x i from rfl, st.tr] at this
        cases hbi : bit R i x with
        | true => exact decide_eq_true (this.mpr hbi)
        | false => exact decide_eq_false fun z => by rw [this.mp z] at hbi; cases hbi
end
end K06

namespace K06
open PySem PySem.Spec PyProof.Rows L2 DL
local macro_rules | `(tactic| walk_at "D") => `(tactic| simp only [dRet, dRetN, dNext, dSeq, dIfS, dDrop, dAsg, dgName, dAndV, dOrV, dNotV, dAnd, dOr, dNot, dTest, dIf, dCB, dCons, dNil, dVar, getv, dC, sc, dChain, dOp, dUn, dI0, dI, dU, dEqS, dNeS, dIsi, dLen, dIx, dPart, dNoPart, dSl, dSlX, dCall, dAllC, dTup, dLst, dYes, dInSg, dInF, seqP, dLc, bkS, dFor, bkD, dIStr, dITup, dIZip, dIList, wipeD, dWGet, dCallA, dDictK, dDIn, dListC, dTupC, dDGet, dgTup, dgCons, dgNil, dPar, dPar3, dBM, dBM0, dAppend, dExtend, dPop, dty, dBits, dgSub, dSetL, dFld, dsFld, dMeth, dMake, dDGet1, dDSetd, dsDPut, dRevL, dPlus, dDisp, dPairs, dIEnum, dIEnumT, dIRng1, dIRng2, dIKeys, dLock, dTupF1, dTupF, dDictN, dSortN, dInN, dDcN, dInT, dIsN, dNotN, dIsB, dI2, dInt1, dRepr, dWhile, dDNewK, dAug, dBreak, dCont, dNever,
  startD, List.map_cons, List.map_nil, List.length_cons, List.length_nil, List.getElem?_cons_zero, List.getElem?_cons_succ, List.cons_append, List.nil_append, List.replicate, Nat.reduceAdd, Nat.reduceSub, List.set_cons_zero, List.set_cons_succ, isB, tyP, okTy, optD_some, optD_none, Option.isSome_some, true_and, and_true, if_true, if_false, Bool.false_eq_true, List.all_cons, List.all_nil, beq_self_eq_true, eqP_int, eqP_str, scal_int, scal_str, Bool.not_true, Bool.not_false, decide_true, decide_false])
/-! ### the least relation -/
inductive Rel (g : Gr) : Nat → Nat → Prop
  | refl {x : Nat} : x < g.many → Rel g x x
  | edge {p : Nat × Nat} : p ∈ g.ed → Rel g p.1 p.2
  | trans {x y z : Nat} : Rel g x y → Rel g y z → Rel g x z
  | flow {x y : Nat} {p : Nat × Nat} : Rel g x y → p ∈ flowsAt g x y → Rel g p.1 p.2
structure CI (g : Gr) (R B : List Nat) (ws : List (Nat × Nat)) : Prop where
  st : St g.many R B
  refl : ∀ i, i < g.many → bit R i i = true
  trans : ∀ i j k, bit R i j = true → bit R j k = true → bit R i k = true
  snd : ∀ i j, bit R i j = true → Rel g i j
  wsnd : ∀ p ∈ ws, Rel g p.1 p.2 ∧ p.1 < g.many ∧ p.2 < g.many
  edg : ∀ p ∈ g.ed, bit R p.1 p.2 = true ∨ p ∈ ws
  flw : ∀ i j, bit R i j = true → ∀ p ∈ flowsAt g i j, bit R p.1 p.2 = true ∨ p ∈ ws
theorem flowsAt_lt {g : Gr} (hg : GoodG g) {x y : Nat} {p : Nat × Nat} (h : p ∈ flowsAt g x y) : p.1 < g.many ∧ p.2 < g.many := by
  unfold flowsAt at h
  split at h
  · cases h
  · obtain ⟨a, ha, h⟩ := List.mem_flatMap.mp h
    obtain ⟨b, hb, h⟩ := List.mem_flatMap.mp h
    obtain ⟨t, ht, rfl⟩ := List.mem_map.mp h
    exact (flows_why (hg.lo.hd _ (rowsAt_mem ha)).2.1 (hg.up.hd _ (rowsAt_mem hb)).2.1 t ht).2
theorem CI.drop {g : Gr} {R B : List Nat} {ws : List (Nat × Nat)} {t : Nat × Nat} (c : CI g R B (ws ++ [t])) (h : bit R t.1 t.2 = true) : CI g R B ws where
  st := c.st
  refl := c.refl
  trans := c.trans
  snd := c.snd
  wsnd p hp := c.wsnd p (List.mem_append_left _ hp)
  edg p hp := by
    rcases c.edg p hp with e | e
    · exact .inl e
    · rcases List.mem_append.mp e with e | e
      · exact .inr e
      · rw [List.mem_singleton.mp e]; exact .inl h
  flw i j hb p hp := by
    rcases c.flw i j hb p hp with e | e
    · exact .inl e
    · rcases List.mem_append.mp e with e | e
      · exact .inr e
      · rw [List.mem_singleton.mp e]; exact .inl h
theorem CI.xy {g : Gr} {R B R' B' : List Nat} {ws nw : List (Nat × Nat)} {t : Nat × Nat} (c : CI g R B (ws ++ [t])) (j : Jn g t.1 t.2 R B R' B' nw) : bit R' t.1 t.2 = true := by
  obtain ⟨h1, h2, h3⟩ := c.wsnd t (by simp)
  rw [j.r, c.refl _ h2, c.refl _ h3]
  simp
theorem CI.join {g : Gr} (hg : GoodG g) {R B R' B' : List Nat} {ws nw : List (Nat × Nat)} {t : Nat × Nat} (c : CI g R B (ws ++ [t])) (j : Jn g t.1 t.2 R B R' B' nw) : CI g R' B' (ws ++ nw) := by
  have hxy := c.xy j
  obtain ⟨h1, h2, h3⟩ := c.wsnd t (by simp)
  have mono : ∀ a b, bit R a b = true → bit R' a b = true := fun a b h => by rw [j.r, h]; rfl
  have cases' : ∀ a b, bit R' a b = true → bit R a b = true ∨ (bit R a t.1 = true ∧ bit R t.2 b = true) := fun a b h => by
    rw [j.r] at h
    simpa using h
  have mk : ∀ a b, bit R a t.1 = true → bit R t.2 b = true → bit R' a b = true := fun a b h1 h2 => by rw [j.r, h1, h2]; simp
  have snd : ∀ a b, bit R' a b = true → Rel g a b := fun a b h => by
    rcases cases' a b h with h | ⟨h4, h5⟩
    · exact c.snd a b h
    · exact ((c.snd _ _ h4).trans h1).trans (c.snd _ _ h5)
  refine ⟨j.st, fun i hi => mono _ _ (c.refl i hi), fun a b d hab hbd => ?_, snd, fun p hp => ?_, fun p hp => ?_, fun a b hb p hp => ?_⟩
  · rcases cases' a b hab with q1 | ⟨q1, q2⟩ <;> rcases cases' b d hbd with q3 | ⟨q3, q4⟩
    · exact mono _ _ (c.trans _ _ _ q1 q3)
    · exact mk _ _ (c.trans _ _ _ q1 q3) q4
    · exact mk _ _ q1 (c.trans _ _ _ q2 q3)
    · exact mk _ _ q1 q4
  · rcases List.mem_append.mp hp with hp | hp
    · exact c.wsnd p (List.mem_append_left _ hp)
    · obtain ⟨a, b, h4, h5⟩ := j.old p hp
      exact ⟨(snd a b h4).flow h5, flowsAt_lt hg h5⟩
  · rcases c.edg p hp with e | e
    · exact .inl (mono _ _ e)
    · rcases List.mem_append.mp e with e | e
      · exact .inr (List.mem_append_left _ e)
      · rw [List.mem_singleton.mp e]; exact .inl hxy
  · cases q : bit R a b with
    | true =>
      rcases c.flw a b q p hp with e | e
      · exact .inl (mono _ _ e)
      · rcases List.mem_append.mp e with e | e
        · exact .inr (List.mem_append_left _ e)
        · rw [List.mem_singleton.mp e]; exact .inl hxy
    | false => exact .inr (List.mem_append_right _ (j.new a b hb q p hp))
theorem CI.done {g : Gr} {R B : List Nat} (c : CI g R B []) (i j : Nat) : bit R i j = true ↔ Rel g i j := by
  refine ⟨c.snd i j, fun h => ?_⟩
  induction h with
  | refl hx => exact c.refl _ hx
  | edge hp => exact (c.edg _ hp).resolve_right (by simp)
  | trans _ _ h1 h2 => exact c.trans _ _ _ h1 h2
  | flow _ hp h1 => exact (c.flw _ _ h1 _ hp).resolve_right (by simp)
theorem CI.less {g : Gr} {R B R' B' : List Nat} {ws nw : List (Nat × Nat)} {t : Nat × Nat} (c : CI g R B (ws ++ [t])) (j : Jn g t.1 t.2 R B R' B' nw) (h : bit R t.1 t.2 = false) : zeros g.many B' + 1 ≤ zeros g.many B := by
  obtain ⟨h1, h2, h3⟩ := c.wsnd t (by simp)
  refine zeros_lt (i := t.2) (j := t.1) (fun a b q => ?_) h3 h2 (by rw [c.st.tr]; exact h) (by rw [j.st.tr]; exact c.xy j)
  rw [c.st.tr] at q
  rw [j.st.tr, j.r, q]
  rfl
theorem zeros_le (m : Nat) (B : List Nat) : zeros m B ≤ m * m := by
  unfold zeros
  refine Nat.le_trans List.countP_le_length ?_
  have := flatMap_len (l := List.range m) (f := fun i => (List.range m).map fun j => (i, j)) (k := m) fun x hx => by simp
  rw [List.length_range] at this
  exact this
theorem ne_nil_lst {n : Nat} {a p : Addr} {xs : List PV} {S : Mp} {Q : DK} (ha : S a = some (.lst xs)) (h : ∀ x ∈ xs, Dat n x) (hn : n + 1 ≤ 64) (hp : S p = some (.lst [])) (f : Bool → Bool) (q : Q (.bl (f (decide (xs = [])))) S) : dEqD f (.loc a) (.loc p) S Q := by
  obtain ⟨ds, h1, h2, h3, h4⟩ := dats_all h
  have e1 : datS S (.loc a) = some (.list ds) := by simp only [datS, seq_at ha, Option.bind_some, h1, Option.map_some]
  have e0 : datS S (.loc p) = some (.list []) := by simp only [datS, seq_at hp, Option.bind_some, dats, Option.map_some]
  unfold dEqD
  rw [e1, e0]
  refine ⟨shaped_of (n := n + 1) (by rw [PyData.canLay0]; exact h2) (by rw [PyData.depth]; omega) hn, by decide +kernel, ?_⟩
  rw [eqv_list_nil]
  have : decide (ds = []) = decide (xs = []) := by
    cases xs with
    | nil => cases ds with
      | nil => rfl
      | cons _ _ => cases h4
    | cons _ _ => cases ds with
      | nil => cases h4
      | cons _ _ => simp
  rw [this]
  exact q
theorem dat_W {t : Wt} (h : Dat 4 t.2.2.1) : Dat 5 (pvW t) := dat_tup fun x hx => by
  rcases List.mem_cons.mp hx with rfl | hx
  · exact (dat_int _).mono (by omega)
  rcases List.mem_cons.mp hx with rfl | hx
  · exact (dat_int _).mono (by omega)
  rcases List.mem_cons.mp hx with rfl | hx
  · exact h
  · obtain rfl := List.mem_singleton.mp hx; exact (dat_int _).mono (by omega)
section
variable {P : Program} {w : World} {K : PySem.W.Frag} {mg : Str → Option Value} {base : Heap} {fl ft : Addr}
def G_closed (w : World) (C : Addr) : DSp := fun xs S Q => ∃ (g : Gr) (A : Ad) (S0 : Mp) (R B : List Nat) (ws : List Wt), xs = [.loc A.c] ∧ GoodG g ∧ Fx w C g A S0 ∧ S0 A.dl = some (.dk A.kl) ∧ Ext S0 S ∧ Mu A S R B [] ws ∧ St g.many R B ∧ (∀ i j, bit R i j = true ↔ i = j ∧ i < g.many) ∧ ws.map uvW = g.ed ∧
  ∀ S' R' B' ss, Ext S0 S' → Mu A S' R' B' ss [] → St g.many R' B' → (∀ i j, bit R' i j = true ↔ Rel g i j) → Q .non S'
theorem f_closed {f : Addr} {fd : FuncData} {C : Addr} (F : Fun K "closed" "Closing.closed" s_Closing_closed f fd) (T : Txt K w mg fl ft) (C_Closing_met : C8.Met P w K mg base 2 C "met" (spD K (G_met w C)) []) (C_Closing_joined : C8.Met P w K mg base 3 C "joined" (spD K (G_joined w C)) []) (hC : Cls K C) (n1 : NoAttr K C "lowers_at") (n2 : NoAttr K C "waiting") :
    FnOk P w K mg base CX0 (3+1) f fd ["self"] (spD K (G_closed w C)) := by
  refine fnD F sc_Closing_closed (fun xs S Q h => by obtain ⟨_, _, _, _, _, _, rfl, _⟩ := h; rfl) fun cdv A outer s H E hr => ?_
  refine ⟨_, (pss_cons (ps_lock (ps_for PassesOwn.never rfl (pi_keys (pe_fld (pv 0) rfl)) (pg_name (i := 1) sc_Closing_closed.nd rfl (Or.inl rfl)) (pss_one (ps_expr (C8.pe_mt C_Closing_met hr (by decide) (pv 0) (pa_cons (pv 1) (pa_cons (pv 1) pa_nil)))))))
    (pss_one (ps_while PassesOwn.never (pt_cmpR (op_neD (room64 hr)) (pe_fld (pv 0) rfl) (pe_lst pa_nil) (nomark _)) (pss_one (ps_expr (C8.pe_mt C_Closing_joined hr (by decide) (pv 0) (pa_cons (pe_bm0 PySem.F.plainAttrs_list PySem.F.slot_list_pop PySem.F.type_list_pop mt_pop (pe_fld (pv 0) rfl)) pa_nil))))))), ?_⟩
  try dsimp only [cxOf, Cx.nox, Cx.wish]
  refine ⟨_, inferInstance, ?_⟩
  rintro _ S Q ⟨g, A, S0, R, B, ws, rfl, hg, fx, hdk, ex, mu, st, hid, hed, q⟩
  walk_at "D"
  have hmm : g.many * g.many ≤ 196 := Nat.le_trans (Nat.mul_le_mul hg.most hg.most) (by decide)
  have hzB := zeros_le g.many B
  have fxl := fx.lock hdk
  refine ⟨A.dl, A.kl, ex _ _ hdk, _, _, (ext_lock ex) _ _ fxl.ins, hC, n1, ?_⟩
  rw [fA3]
  simp only [optD_some, rdP, mset_same]
  have hws : ws.length ≤ 196 := by
    have := congrArg List.length hed
    rw [List.length_map] at this
    have := hg.ed.len
    omega
  have hkl : A.kl.length ≤ 30 := Nat.le_trans fx.lo.len hg.loS
  have hdlm : ¬ isMu A A.dl := fun z => by have := fx.off _ z; rw [hdk] at this; cases this
  refine forR_inv (fun r ρ S3 => ∃ done todo nw o, A.kl = done ++ todo ∧ r = keysOf todo ∧ ρ = [some (.loc A.c), o] ∧ Ext (mset S0 A.dl (some (.rdk A.kl))) S3 ∧ Mu A S3 R B [] (ws ++ nw) ∧
    (∀ p ∈ nw.map uvW, ∃ x, x < g.many ∧ p ∈ flowsAt g x x) ∧ (∀ kv ∈ done, ∀ x : Nat, kv.1 = .inl (x : Int) → ∀ p ∈ flowsAt g x x, p ∈ nw.map uvW) ∧ nw.length ≤ 2700 * done.length) (fun x' r ρ S3 hI N hN => ?_) (fun ρ S3 hI => ?_) _ _ _
    ⟨[], A.kl, [], none, rfl, rfl, rfl, ext_lock ex, by rw [List.append_nil]; exact mu.put hdlm, fun p hp => (by cases hp), fun p hp => (by cases hp), Nat.zero_le _⟩
  · obtain ⟨done, todo, nw, o, ek, e, rfl, x3, mu3, h1, h2, h3⟩ := hI
    cases todo with
    | nil => cases e
    | cons kv todo =>
      cases e
      obtain ⟨x, hkv, hrx⟩ := fx.lo.keys kv (by rw [ek]; simp)
      have hx : x < g.many := by
        obtain ⟨r, hr⟩ := List.exists_mem_of_ne_nil _ hrx
        exact (hg.lo.hd _ (rowsAt_mem hr)).1
      have hsc : sc (kV kv.1) = PV.int x := by rw [hkv]; rfl
      show dgName 1 (sc (kV kv.1)) _ _ _
      rw [hsc]
      walk_at "D"
      have hdl : done.length ≤ 30 := by rw [ek] at hkl; simp at hkl; omega
      have hfl := flowsAt_len hg x x
      refine ⟨_, x3 _ _ fxl.ins, rfl, g, A, _, R, B, [], ws ++ nw, x, x, rfl, hg, fxl, x3, mu3, by rw [List.length_append]; omega, fun S4 nw2 x4 mu4 e4 => ?_⟩
      have hl2 : nw2.length ≤ 2700 := by
        have := congrArg List.length e4
        rw [List.length_map] at this
        omega
      refine hN _ _ ⟨done ++ [kv], todo, nw ++ nw2, _, by rw [ek]; simp, rfl, rfl, x4, by rw [← List.append_assoc]; exact mu4, fun p hp => ?_, fun kv' hkv' x' e' p hp => ?_, by rw [List.length_append, List.length_append, List.length_singleton]; omega⟩
      · rw [List.map_append] at hp
        rcases List.mem_append.mp hp with hp | hp
        · exact h1 p hp
        · exact ⟨x, hx, by rw [← e4]; exact hp⟩
      · rw [List.map_append]
        rcases List.mem_append.mp hkv' with hk | hk
        · exact List.mem_append_left _ (h2 kv' hk x' e' p hp)
        · rw [List.mem_singleton.mp hk, hkv] at e'
          have : x' = x := by injection e' with e'; omega
          rw [this] at hp
          exact List.mem_append_right _ (by rw [e4]; exact hp)
  · obtain ⟨done, todo, nw, o, ek, e, rfl, x3, mu3, h1, h2, h3⟩ := hI
    cases todo with
    | cons kv todo => cases e
    | nil =>
      rw [List.append_nil] at ek
      subst ek
      have x4 := ext_unlock hdk x3
      have mu4 := mu3.put (o := some (.dk A.kl)) hdlm
      have ci : CI g R B ((ws ++ nw).map uvW) := by
        refine ⟨st, fun i hi => (hid i i).mpr ⟨rfl, hi⟩, fun i j k h4 h5 => ?_, fun i j h => ?_, fun p hp => ?_, fun p hp => .inr ?_, fun i j h p hp => .inr ?_⟩
        · rw [hid] at h4 h5 ⊢
          exact ⟨h4.1.trans h5.1, h4.2⟩
        · obtain ⟨rfl, h9⟩ := (hid i j).mp h
          exact .refl h9
        · rw [List.map_append] at hp
          rcases List.mem_append.mp hp with hp | hp
          · rw [hed] at hp
            exact ⟨.edge hp, hg.ed.lt p hp⟩
          · obtain ⟨x, hx, h4⟩ := h1 p hp
            exact ⟨(Rel.refl hx).flow h4, flowsAt_lt hg h4⟩
        · rw [List.map_append, hed]
          exact List.mem_append_left _ hp
        · obtain ⟨rfl, hi⟩ := (hid i j).mp h
          rw [List.map_append]
          refine List.mem_append_right _ ?_
          by_cases hr : rowsAt g.lo i = []
          · exfalso
            unfold flowsAt at hp
            split at hp
            · cases hp
            · rw [hr] at hp; cases hp
          · obtain ⟨l, hl, _⟩ := fx.lo.yes i hr
            unfold lkP at hl
            obtain ⟨kv, hkv, _⟩ := Option.map_eq_some_iff.mp hl
            have hm := List.mem_of_find?_eq_some hkv
            have he := List.find?_some hkv
            exact h2 kv hm i (by simpa using he) p hp
      walk_at "D"
      refine ⟨fun n ρ S5 => ∃ R B ss ws o, n = ws.length + 2701 * zeros g.many B ∧ ρ = [some (.loc A.c), o] ∧ Ext S0 S5 ∧ Mu A S5 R B ss ws ∧ CI g R B (ws.map uvW) ∧ ws.length + 2700 * zeros g.many B ≤ 7000000 ∧ ss.length + zeros g.many B ≤ 196,
        ⟨_, R, B, [], ws ++ nw, o, rfl, rfl, x4, mu4, ci, by rw [List.length_append]; omega, by simp; omega⟩, ?_⟩
      rintro n ρ S5 ⟨R, B, ss, ws, o, rfl, rfl, x5, mu5, c5, hp5, hs5⟩
      walk_at "D"
      refine ⟨_, _, x5 _ _ fx.ins, hC, n2, ?_⟩
      rw [fA7]
      simp only [optD_some]
      refine ⟨Nat.zero_le _, fun p hp => ?_⟩
      have x6 := Ext.mset2 (o := some (.lst [])) (none_back x5 hp) x5
      have mu6 := mu5.put (o := some (.lst [])) (mu5.ne hp)
      refine ne_nil_lst mu6.wt (n := 5) (fun x hx => ?_) (by omega) mset_same not ?_
      · obtain ⟨t, ht, rfl⟩ := List.mem_map.mp hx
        exact dat_W (mu5.dat t ht)
      dsimp only
      rcases List.eq_nil_or_concat ws with rfl | ⟨ws', t, rfl⟩
      · rw [if_neg (by simp)]
        exact q _ R B ss x6 mu6 c5.st c5.done
      · rw [if_pos (by simp)]
        rw [List.concat_eq_append] at *
        refine ⟨_, x6 _ _ fx.ins, rfl, _, _, x6 _ _ fx.ins, hC, n2, ?_⟩
        rw [fA7]
        simp only [optD_some]
        refine ⟨.inl ⟨_, mu6.wt⟩, ?_⟩
        rw [lst_at mu6.wt]
        simp only [optD_some]
        have e1 : ((ws' ++ [t]).map pvW)[((ws' ++ [t]).map pvW).length - 1]? = some (pvW t) := by simp
        have e2 : ((ws' ++ [t]).map pvW).dropLast = ws'.map pvW := by simp
        rw [e1, e2]
        simp only [optD_some]
        have x7 := Ext.mset2 (o := some (.lst (ws'.map pvW))) (fx.off A.wt (.inr (.inr (.inr rfl)))) x6
        have mu7 : Mu A (mset (mset S5 p (some (.lst []))) A.wt (some (.lst (ws'.map pvW)))) R B ss ws' :=
          ⟨by rw [mset_ne fx.d3]; exact mu6.rr, by rw [mset_ne fx.d5]; exact mu6.bb, by rw [mset_ne fx.d6]; exact mu6.st, mset_same, fun z hz => mu6.dat z (List.mem_append_left _ hz)⟩
        rw [List.map_append] at c5
        obtain ⟨w1, w2, w3⟩ := c5.wsnd (uvW t) (by simp)
        rw [List.length_append, List.length_singleton] at hp5
        refine ⟨g, A, S0, R, B, ss, ws', t, rfl, hg, fx, x7, mu7, c5.st, w2, w3, by omega, by omega, fun hb S8 x8 mu8 => ?_, fun hb S8 R8 B8 nw x8 mu8 j8 => ?_⟩
        · refine ⟨ws'.length + 2701 * zeros g.many B, by rw [List.length_append, List.length_singleton]; omega, R, B, ss, ws', _, rfl, rfl, x8, mu8, c5.drop hb, by omega, hs5⟩
        · have hz := c5.less j8 hb
          have hpot := j8.pot
          rw [List.length_map] at hpot
          refine ⟨(ws' ++ nw).length + 2701 * zeros g.many B8, by simp only [List.length_append, List.length_singleton]; omega, R8, B8, _, ws' ++ nw, _, rfl, rfl, x8, mu8, by rw [List.map_append]; exact c5.join hg j8, by rw [List.length_append]; omega, by rw [List.length_append, List.length_singleton]; omega⟩
end
end K06

namespace K06
open PySem PySem.Spec PyProof.Rows L2 DL
open PySem.PyData (strOk)
local macro_rules | `(tactic| walk_at "D") => `(tactic| simp only [dRet, dRetN, dNext, dSeq, dIfS, dDrop, dAsg, dgName, dgFld, dAndV, dOrV, dNotV, dAnd, dOr, dNot, dTest, dIf, dCB, dCons, dNil, dVar, getv, dC, sc, dChain, dOp, dUn, dI0, dI, dU, dEqS, dNeS, dIsi, dLen, dIx, dPart, dNoPart, dSl, dSlX, dCall, dAllC, dTup, dLst, dYes, dInSg, dInF, seqP, dLc, bkS, dFor, bkD, dIStr, dITup, dIZip, dIList, wipeD, dWGet, dCallA, dDictK, dDIn, dListC, dTupC, dDGet, dgTup, dgCons, dgNil, dPar, dPar3, dBM, dBM0, dAppend, dExtend, dPop, dty, dBits, dgSub, dSetL, dFld, dsFld, dMeth, dMake, dDGet1, dDSetd, dsDPut, dRevL, dPlus, dDisp, dPairs, dIEnum, dIEnumT, dIRng1, dIRng2, dIKeys, dLock, dTupF1, dTupF, dDictN, dSortN, dInN, dDcN, dInT, dIsN, dNotN, dIsB, dI2, dInt1, dRepr, dWhile, dDNewK, dAug, dBreak, dCont, dNever,
  startD, List.map_cons, List.map_nil, List.length_cons, List.length_nil, List.getElem?_cons_zero, List.getElem?_cons_succ, List.cons_append, List.nil_append, List.replicate, Nat.reduceAdd, Nat.reduceSub, List.set_cons_zero, List.set_cons_succ, isB, tyP, okTy, optD_some, optD_none, Option.isSome_some, true_and, and_true, if_true, if_false, Bool.false_eq_true, List.all_cons, List.all_nil, beq_self_eq_true, eqP_int, eqP_str, scal_int, scal_str, Bool.not_true, Bool.not_false, decide_true, decide_false])
def ids (m : Nat) : List Nat := (List.range m).map fun i => 2 ^ i
theorem rngP_eq : ∀ (n lo : Nat), rngP lo n = (List.range' lo n).map fun (i : Nat) => PV.int i
  | 0, _ => rfl
  | n + 1, lo => by
    rw [rngP, List.range'_succ, List.map_cons]
    have := rngP_eq n (lo + 1)
    rw [← this]
    rfl
def powP : PV → List PV
  | .int i => [.int (1 * 2 ^ i.toNat)]
  | _ => []
theorem flatMap_one {α β : Type} {f : α → β} : ∀ l : List α, (l.flatMap fun x => [f x]) = l.map f
  | [] => rfl
  | x :: l => by rw [List.flatMap_cons, flatMap_one l]; rfl
theorem rngP_mem {m : Nat} {x : PV} (h : x ∈ rngP 0 m) : ∃ i : Nat, x = .int i ∧ i < m := by
  have e := rngP_eq m 0
  rw [show ((0 : Nat) : Int) = 0 from rfl] at e
  rw [e] at h
  obtain ⟨i, hi, rfl⟩ := List.mem_map.mp h
  rw [List.mem_range'_1] at hi
  exact ⟨i, rfl, by omega⟩
theorem rngP_pows (m : Nat) : (rngP 0 m).flatMap powP = pvNs (ids m) := by
  have h := rngP_eq m 0
  rw [show ((0 : Nat) : Int) = 0 from rfl] at h
  rw [h, ids, pvNs, List.range_eq_range', List.flatMap_map, List.map_map, ← flatMap_one]
  congr 1
  funext i
  show [PV.int (1 * 2 ^ ((i : Int)).toNat)] = [PV.int ((2 ^ i : Nat) : Int)]
  rw [Int.toNat_natCast, Int.one_mul]
  simp
theorem bit_ids (m i j : Nat) : bit (ids m) i j = true ↔ i = j ∧ i < m := by
  unfold bit ids
  rw [List.getD_eq_getElem?_getD, List.getElem?_map]
  by_cases h : i < m
  · rw [List.getElem?_range h]
    simp [Nat.testBit_two_pow, h]
  · rw [List.getElem?_eq_none (by simp; omega)]
    simp [h]
theorem st_ids (m : Nat) : St m (ids m) (ids m) where
  lenR := by simp [ids]
  lenB := by simp [ids]
  ltR i j h := by
    obtain ⟨rfl, h9⟩ := (bit_ids m i j).mp h
    exact ⟨h9, h9⟩
  tr i j := by
    rw [Bool.eq_iff_iff, bit_ids, bit_ids]
    exact ⟨fun ⟨a, b⟩ => ⟨a.symm, a ▸ b⟩, fun ⟨a, b⟩ => ⟨a.symm, a ▸ b⟩⟩
theorem ExtB.trans {L : List Addr} {S S1 S2 : Mp} (a : ExtB L S S1) (b : ExtB L S1 S2) : ExtB L S S2 := fun c o h n => b c o (a c o h n) n
theorem ExtB.self {c : Addr} {S S1 : Mp} {p : Addr} {o o' : Option MO} (a : Ext S S1) (h : S1 p = none) : ExtB [c] S (mset (mset S1 p o) c o') := fun d u e n => by
  rw [mset_ne (fun z => n (by rw [z]; simp)), mset_ne (fun z => by rw [← z, a d u e] at h; cases h)]; exact a d u e
theorem ne_of {S : Mp} {a b : Addr} {o : MO} (h : S a = some o) (k : S b = none) : a ≠ b := fun z => by rw [z, k] at h; cases h
theorem ltP {f : Str} {x : PV} {n : Nat} : ∀ {fs : List (Str × PV)}, fs.length < n → (putP f x fs).length < n + 1
  | [], h => by simp [putP]; omega
  | (g, y) :: r, h => by
    unfold putP
    split
    · simp only [List.length_cons] at h ⊢; omega
    · cases n with
      | zero => cases h
      | succ n =>
        rw [List.length_cons] at h ⊢
        have := ltP (f := f) (x := x) (n := n) (fs := r) (by omega)
        omega
def era (A : Ad) (S : Mp) : Mp := fun a => if a = A.pr ∨ a = A.pb ∨ a = A.st ∨ a = A.wt then none else S a
theorem era_at {A : Ad} {S : Mp} {a : Addr} (h : ¬ isMu A a) : era A S a = S a := if_neg h
theorem era_off {A : Ad} {S : Mp} {a : Addr} (h : isMu A a) : era A S a = none := if_pos h
theorem era_ext {A : Ad} {S : Mp} : Ext (era A S) S := fun a o e => by
  unfold era at e
  split at e
  · cases e
  · exact e
theorem nkPr_inj {p q : Nat × Nat} (h : nkPr p = nkPr q) : p = q := by
  unfold nkPr at h
  injection h with h
  injection h with h1 h
  injection h with h2 _
  injection h1 with h1
  injection h2 with h2
  exact Prod.ext (by omega) (by omega)
section
variable {P : Program} {w : World} {K : PySem.W.Frag} {mg : Str → Option Value} {base : Heap} {fl ft : Addr}
def G_init (w : World) (C : Addr) : DSp := fun xs S Q => ∃ (g : Gr) (c : Addr), xs = [.loc c, pvG g] ∧ GoodG g ∧ S c = some (.ins C []) ∧
  ∀ S' A S0 R B ws, A.c = c → Fx w C g A S0 → S0 A.dl = some (.dk A.kl) → Ext S0 S' → Mu A S' R B [] ws → St g.many R B → (∀ i j, bit R i j = true ↔ i = j ∧ i < g.many) → ws.map uvW = g.ed → ExtB [c] S S0 → (∀ a, isMu A a → S a = none) → Q .non S'
theorem f_init {f : Addr} {fd : FuncData} {C : Addr} (F : Fun K "__init__" "Closing.__init__" s_Closing___init__ f fd) (T : Txt K w mg fl ft) (C_heads_by_node : C8.Cal P w K mg base 1 "heads_by_node" (spD K G_heads_by_node) []) (hC : Cls K C) (n1 : NoAttr K C "reach") (n2 : NoAttr K C "back") (n3 : NoAttr K C "lowers_at") (n4 : NoAttr K C "uppers_at") (n5 : NoAttr K C "allowed_known") (n6 : NoAttr K C "steps") (n7 : NoAttr K C "waiting") :
    FnOk P w K mg base CX0 (1+1) f fd ["self", "graph"] (spD K (G_init w C)) := by
  refine fnD F sc_Closing___init__ (fun xs S Q h => by obtain ⟨_, _, rfl, _⟩ := h; rfl) fun cdv A outer s H E hr => ?_
  refine ⟨_, (pss_cons (ps_asg (pv 1) (pgK (K := K) (n := 5) (pgs_cons (pg_name (i := 2) sc_Closing___init__.nd rfl (Or.inl rfl)) (pgs_cons (pg_name (i := 3) sc_Closing___init__.nd rfl (Or.inl rfl)) (pgs_cons (pg_name (i := 4) sc_Closing___init__.nd rfl (Or.inl rfl)) (pgs_cons (pg_name (i := 5) sc_Closing___init__.nd rfl (Or.inl rfl)) (pgs_cons (pg_name (i := 6) sc_Closing___init__.nd rfl (Or.inl rfl)) pgs_nil)))))))
    (pss_cons (ps_fld (pv 0) (pe_lc (own := [("x", 7)]) (tt := tYes) rfl sc_Closing___init__.nd (pi_range1 (by rfl) T.b_range (pa_cons (pv 2) pa_nil)) (blkOk_by (N := sc_Closing___init___N) (sc := defScope s_Closing___init__) (by decide +kernel)) (fun _ _ _ _ _ => pg_name (i := 7) sc_Closing___init__.nd rfl (Or.inl rfl)) (fun _ _ _ _ _ => pts_nil) (fun _ _ _ _ _ => (pe_op op_shl pe_int (pv 7)))) rfl)
    (pss_cons (ps_fld (pv 0) (pe_lc (own := [("x", 7)]) (tt := tYes) rfl sc_Closing___init__.nd (pi_range1 (by rfl) T.b_range (pa_cons (pv 2) pa_nil)) (blkOk_by (N := sc_Closing___init___N) (sc := defScope s_Closing___init__) (by decide +kernel)) (fun _ _ _ _ _ => pg_name (i := 7) sc_Closing___init__.nd rfl (Or.inl rfl)) (fun _ _ _ _ _ => pts_nil) (fun _ _ _ _ _ => (pe_op op_shl pe_int (pv 7)))) rfl)
    (pss_cons (ps_asg (pe_tup (pa_cons (C8.pe_c C_heads_by_node hr (by decide) (by rfl) (pa_cons (pv 3) pa_nil)) (pa_cons (C8.pe_c C_heads_by_node hr (by decide) (by rfl) (pa_cons (pv 4) pa_nil)) pa_nil))) (pgK (K := K) (n := 2) (pgs_cons (pg_fld (pv 0)) (pgs_cons (pg_fld (pv 0)) pgs_nil))))
    (pss_cons (ps_fld (pv 0) (pe_dcN hr (own := [("pair", 8)]) (tt := tYes) rfl sc_Closing___init__.nd (pi_tup (pv 6)) (blkOk_by (N := sc_Closing___init___N) (sc := defScope s_Closing___init__) (by decide +kernel)) (fun _ _ _ _ _ => pg_name (i := 8) sc_Closing___init__.nd rfl (Or.inl rfl)) (fun _ _ _ _ _ => pts_nil) (fun _ _ _ _ _ => (pv 8)) (fun _ _ _ _ _ => pe_bl)) rfl)
    (pss_cons (ps_fld (pv 0) (pe_lst pa_nil) rfl)
    (pss_one (ps_fld (pv 0) (pe_lc (own := [("x", 7), ("y", 9)]) (tt := tYes) rfl sc_Closing___init__.nd (pi_tup (pv 5)) (blkOk_by (N := sc_Closing___init___N) (sc := defScope s_Closing___init__) (by decide +kernel)) (fun _ _ _ _ _ => pgK (K := K) (n := 2) (pgs_cons (pg_name (i := 7) sc_Closing___init__.nd rfl (Or.inl rfl)) (pgs_cons (pg_name (i := 9) sc_Closing___init__.nd rfl (Or.inl rfl)) pgs_nil))) (fun _ _ _ _ _ => pts_nil) (fun _ _ _ _ _ => (pe_tup (pa_cons (pv 7) (pa_cons (pv 9) (pa_cons (pe_tup (pa_cons pe_str pa_nil)) (pa_cons pe_int pa_nil))))))) rfl)))))))), ?_⟩
  try dsimp only [cxOf, Cx.nox, Cx.wish]
  refine ⟨_, inferInstance, ?_⟩
  rintro _ S Q ⟨g, c, rfl, hg, hc, q⟩
  unfold pvG
  walk_at "D"
  have h14 := hg.most
  refine ⟨rfl, by omega, by omega, by rw [rngP_length, Int.toNat_natCast, sizeLine_eq]; omega, ?_⟩
  rw [Int.toNat_natCast]
  refine lcR_map powP (fun x hx S1 e acc R hR => ?_) fun S1 pr e1 hpr _ => ?_
  · obtain ⟨i, rfl, hi⟩ := rngP_mem hx
    walk_at "D"
    exact ⟨⟨by omega, by omega, by decide⟩, hR S1 Ext.refl⟩
  simp only [bkS, rngP_pows]
  have c1 := e1 _ _ hc
  have npr : pr ≠ c := Ne.symm (ne_of c1 hpr)
  refine ⟨_, _, by rw [mset_ne (Ne.symm npr)]; exact c1, hC, n1, by simp, rfl, by omega, by omega, by rw [rngP_length, sizeLine_eq]; omega, ?_⟩
  have b2 : ExtB [c] S (mset (mset S1 pr (some (.lst (pvNs (ids g.many))))) c (some (.ins C (putP "reach" (.loc pr) [])))) := ExtB.self e1 hpr
  have p2 : (mset (mset S1 pr (some (.lst (pvNs (ids g.many))))) c (some (.ins C (putP "reach" (.loc pr) [])))) pr = some (.lst (pvNs (ids g.many))) := by rw [mset_ne npr, mset_same]
  have c2 : (mset (mset S1 pr (some (.lst (pvNs (ids g.many))))) c (some (.ins C (putP "reach" (.loc pr) [])))) c = some (.ins C (putP "reach" (.loc pr) [])) := mset_same
  have pr0 : S pr = none := none_back e1 hpr
  generalize (mset (mset S1 pr (some (.lst (pvNs (ids g.many))))) c (some (.ins C (putP "reach" (.loc pr) [])))) = S2 at b2 p2 c2
  refine lcR_map powP (fun x hx S1 e acc R hR => ?_) fun S3 pb e3 hpb _ => ?_
  · obtain ⟨i, rfl, hi⟩ := rngP_mem hx
    walk_at "D"
    exact ⟨⟨by omega, by omega, by decide⟩, hR S1 Ext.refl⟩
  simp only [bkS, rngP_pows]
  have c3 := e3 _ _ c2
  have npb : pb ≠ c := Ne.symm (ne_of c3 hpb)
  have nrb : pr ≠ pb := ne_of (e3 _ _ p2) hpb
  refine ⟨_, _, by rw [mset_ne (Ne.symm npb)]; exact c3, hC, n2, ltP (n := 999) (by decide), ?_⟩
  have pb0 : S pb = none := by
    cases q1 : S pb with
    | none => rfl
    | some o => rw [e3 _ _ (b2 _ _ q1 (by simpa using npb))] at hpb; cases hpb
  have b4 : ExtB [c] S2 (mset (mset S3 pb (some (.lst (pvNs (ids g.many))))) c (some (.ins C (putP "back" (.loc pb) (putP "reach" (.loc pr) []))))) := ExtB.self e3 hpb
  have q4 : (mset (mset S3 pb (some (.lst (pvNs (ids g.many))))) c (some (.ins C (putP "back" (.loc pb) (putP "reach" (.loc pr) []))))) pb = some (.lst (pvNs (ids g.many))) := by rw [mset_ne npb, mset_same]
  have c4 : (mset (mset S3 pb (some (.lst (pvNs (ids g.many))))) c (some (.ins C (putP "back" (.loc pb) (putP "reach" (.loc pr) []))))) c = some (.ins C (putP "back" (.loc pb) (putP "reach" (.loc pr) []))) := mset_same
  generalize (mset (mset S3 pb (some (.lst (pvNs (ids g.many))))) c (some (.ins C (putP "back" (.loc pb) (putP "reach" (.loc pr) []))))) = S4 at b4 q4 c4
  have p4 := b4 _ _ p2 (by simpa using npr)
  refine ⟨g.lo, rfl, by have := hg.loS; omega, fun S5 dl kl hb5 f5 e5 => ?_⟩
  refine ⟨g.up, rfl, by have := hg.upS; omega, fun S6 du ku hb6 f6 e6 => ?_⟩
  have c6 := e6 _ _ (e5 _ _ c4)
  refine ⟨by decide, _, _, c6, hC, n3, ltP (n := 999) (ltP (n := 998) (by decide)), _, _, mset_same, hC, n4, ltP (n := 999) (ltP (n := 998) (ltP (n := 997) (by decide))), rfl, ?_⟩
  simp only [tupP, optD_some]
  refine ⟨by have := hg.al.len; have := Nat.mul_le_mul h14 h14; rw [List.length_map, sizeLine_eq]; omega, ?_⟩
  have b7 : ExtB [c] S6 (mset (mset S6 c (some (.ins C (putP "lowers_at" (.loc dl) (putP "back" (.loc pb) (putP "reach" (.loc pr) [])))))) c (some (.ins C (putP "uppers_at" (.loc du) (putP "lowers_at" (.loc dl) (putP "back" (.loc pb) (putP "reach" (.loc pr) []))))))) := fun a o e n => by
    have n : a ≠ c := by simpa using n
    rw [mset_ne n, mset_ne n]; exact e
  have c7 : (mset (mset S6 c (some (.ins C (putP "lowers_at" (.loc dl) (putP "back" (.loc pb) (putP "reach" (.loc pr) [])))))) c (some (.ins C (putP "uppers_at" (.loc du) (putP "lowers_at" (.loc dl) (putP "back" (.loc pb) (putP "reach" (.loc pr) []))))))) c = _ := mset_same
  generalize (mset (mset S6 c (some (.ins C (putP "lowers_at" (.loc dl) (putP "back" (.loc pb) (putP "reach" (.loc pr) [])))))) c (some (.ins C (putP "uppers_at" (.loc du) (putP "lowers_at" (.loc dl) (putP "back" (.loc pb) (putP "reach" (.loc pr) []))))))) = S7 at b7 c7
  refine dcR_inv (fun r ks nks S8 => ∃ done todo, g.al = done ++ todo ∧ r = todo.map pvPr ∧ Ext S7 S8 ∧ toNKs ks = some nks ∧ ∀ p, nkPr p ∈ nks ↔ p ∈ done) (fun x r ks nks S8 hI R hR => ?_) (fun ks nks S8 da hI hda _ => ?_) _ _ _ _ ⟨[], g.al, rfl, rfl, Ext.refl, rfl, fun p => by simp⟩
  · obtain ⟨done, todo, ea, e, e8, hk, hm⟩ := hI
    cases todo with
    | nil => cases e
    | cons p todo =>
      cases e
      walk_at "D"
      refine ⟨rfl, ?_⟩
      rw [toNK_pr]
      simp only [optD_some]
      refine ⟨Nat.le_trans (depth_pr _) (by omega), hR _ _ _ ⟨done ++ [p], todo, by rw [ea]; simp, rfl, e8, toNKs_add hk (toNK_pr p), fun z => ?_⟩⟩
      rw [mem_addK, hm, List.mem_append, List.mem_singleton]
      exact ⟨fun h => h.imp id nkPr_inj, fun h => h.imp id fun z => by rw [z]⟩
  obtain ⟨done, todo, ea, e, e8, hk, hm⟩ := hI
  cases todo with
  | cons p todo => cases e
  | nil =>
  rw [List.append_nil] at ea
  subst ea
  simp only [bkS]
  have c8 := e8 _ _ c7
  have nda : da ≠ c := Ne.symm (ne_of c8 hda)
  refine ⟨_, _, by rw [mset_ne (Ne.symm nda)]; exact c8, hC, n5, ltP (n := 999) (ltP (n := 998) (ltP (n := 997) (ltP (n := 996) (by decide)))), Nat.zero_le _, ?_⟩
  have b9 := ExtB.self (c := c) (o := some (ndM w da nks ks)) (o' := some (.ins C (putP "allowed_known" (.loc da) (putP "uppers_at" (.loc du) (putP "lowers_at" (.loc dl) (putP "back" (.loc pb) (putP "reach" (.loc pr) []))))))) e8 hda
  have d9 : (mset (mset S8 da (some (ndM w da nks ks))) c (some (.ins C (putP "allowed_known" (.loc da) (putP "uppers_at" (.loc du) (putP "lowers_at" (.loc dl) (putP "back" (.loc pb) (putP "reach" (.loc pr) [])))))))) da = some (ndM w da nks ks) := by rw [mset_ne nda, mset_same]
  have c9 : (mset (mset S8 da (some (ndM w da nks ks))) c (some (.ins C (putP "allowed_known" (.loc da) (putP "uppers_at" (.loc du) (putP "lowers_at" (.loc dl) (putP "back" (.loc pb) (putP "reach" (.loc pr) [])))))))) c = _ := mset_same
  generalize (mset (mset S8 da (some (ndM w da nks ks))) c (some (.ins C (putP "allowed_known" (.loc da) (putP "uppers_at" (.loc du) (putP "lowers_at" (.loc dl) (putP "back" (.loc pb) (putP "reach" (.loc pr) [])))))))) = S9 at b9 d9 c9
  intro st hst
  have nst : st ≠ c := Ne.symm (ne_of c9 hst)
  refine ⟨_, _, by rw [mset_ne (Ne.symm nst)]; exact c9, hC, n6, ltP (n := 999) (ltP (n := 998) (ltP (n := 997) (ltP (n := 996) (ltP (n := 995) (by decide))))), rfl, by have := hg.ed.len; have := Nat.mul_le_mul h14 h14; rw [List.length_map, sizeLine_eq]; omega, ?_⟩
  have b10 := ExtB.self (c := c) (o := some (.lst [])) (o' := some (.ins C (putP "steps" (.loc st) (putP "allowed_known" (.loc da) (putP "uppers_at" (.loc du) (putP "lowers_at" (.loc dl) (putP "back" (.loc pb) (putP "reach" (.loc pr) [])))))))) (Ext.refl (S := S9)) hst
  have s10 : (mset (mset S9 st (some (.lst []))) c (some (.ins C (putP "steps" (.loc st) (putP "allowed_known" (.loc da) (putP "uppers_at" (.loc du) (putP "lowers_at" (.loc dl) (putP "back" (.loc pb) (putP "reach" (.loc pr) []))))))))) st = some (.lst []) := by rw [mset_ne nst, mset_same]
  have c10 : (mset (mset S9 st (some (.lst []))) c (some (.ins C (putP "steps" (.loc st) (putP "allowed_known" (.loc da) (putP "uppers_at" (.loc du) (putP "lowers_at" (.loc dl) (putP "back" (.loc pb) (putP "reach" (.loc pr) []))))))))) c = _ := mset_same
  generalize (mset (mset S9 st (some (.lst []))) c (some (.ins C (putP "steps" (.loc st) (putP "allowed_known" (.loc da) (putP "uppers_at" (.loc du) (putP "lowers_at" (.loc dl) (putP "back" (.loc pb) (putP "reach" (.loc pr) []))))))))) = S10 at b10 s10 c10
  refine lcR_inv (fun r acc S11 => ∃ done todo, g.ed = done ++ todo ∧ r = todo.map pvPr ∧ Ext S10 S11 ∧ acc = (done.map fun p => ((p.1, p.2, PV.tup [.str "edge"], 0) : Wt)).map pvW) (fun x r acc S11 hI R hR => ?_) (fun acc S11 wt hI hwt _ => ?_) _ _ _ ⟨[], g.ed, rfl, rfl, Ext.refl, rfl⟩
  · obtain ⟨done, todo, ea, e, e11, hacc⟩ := hI
    cases todo with
    | nil => cases e
    | cons p todo =>
      cases e
      unfold pvPr
      walk_at "D"
      refine ⟨by decide, by decide, hR _ _ ⟨done ++ [p], todo, by rw [ea]; simp, rfl, e11, by rw [hacc, List.map_append, List.map_append]; rfl⟩⟩
  obtain ⟨done, todo, ea, e, e11, rfl⟩ := hI
  cases todo with
  | cons p todo => cases e
  | nil =>
  rw [List.append_nil] at ea
  subst ea
  simp only [bkS]
  have c11 := e11 _ _ c10
  have nwt : wt ≠ c := Ne.symm (ne_of c11 hwt)
  refine ⟨_, _, by rw [mset_ne (Ne.symm nwt)]; exact c11, hC, n7, ltP (n := 999) (ltP (n := 998) (ltP (n := 997) (ltP (n := 996) (ltP (n := 995) (ltP (n := 994) (by decide)))))), ?_⟩
  have b12 := ExtB.self (c := c) (o := some (.lst ((g.ed.map fun p => ((p.1, p.2, PV.tup [.str "edge"], 0) : Wt)).map pvW))) (o' := some (.ins C (fieldsA ⟨c, pr, pb, dl, du, da, st, wt, kl, ku⟩))) e11 hwt
  have w12 : (mset (mset S11 wt (some (.lst ((g.ed.map fun p => ((p.1, p.2, PV.tup [.str "edge"], 0) : Wt)).map pvW)))) c (some (.ins C (fieldsA ⟨c, pr, pb, dl, du, da, st, wt, kl, ku⟩)))) wt = some (.lst ((g.ed.map fun p => ((p.1, p.2, PV.tup [.str "edge"], 0) : Wt)).map pvW)) := by rw [mset_ne nwt, mset_same]
  have c12 : (mset (mset S11 wt (some (.lst ((g.ed.map fun p => ((p.1, p.2, PV.tup [.str "edge"], 0) : Wt)).map pvW)))) c (some (.ins C (fieldsA ⟨c, pr, pb, dl, du, da, st, wt, kl, ku⟩)))) c = _ := mset_same
  show Q PV.non (mset (mset S11 wt (some (.lst ((g.ed.map fun p => ((p.1, p.2, PV.tup [.str "edge"], 0) : Wt)).map pvW)))) c (some (.ins C (fieldsA ⟨c, pr, pb, dl, du, da, st, wt, kl, ku⟩))))
  generalize (mset (mset S11 wt (some (.lst ((g.ed.map fun p => ((p.1, p.2, PV.tup [.str "edge"], 0) : Wt)).map pvW)))) c (some (.ins C (fieldsA ⟨c, pr, pb, dl, du, da, st, wt, kl, ku⟩)))) = S12 at b12 w12 c12
  generalize hA : (⟨c, pr, pb, dl, du, da, st, wt, kl, ku⟩ : Ad) = A at c12
  have a1 : A.c = c := by rw [← hA]
  have a2 : A.pr = pr := by rw [← hA]
  have a3 : A.pb = pb := by rw [← hA]
  have a4 : A.dl = dl := by rw [← hA]
  have a5 : A.du = du := by rw [← hA]
  have a6 : A.da = da := by rw [← hA]
  have a7 : A.st = st := by rw [← hA]
  have a8 : A.wt = wt := by rw [← hA]
  have a9 : A.kl = kl := by rw [← hA]
  have a10 : A.ku = ku := by rw [← hA]
  have g69 := b7.trans b9
  have g59 := (toB (L := [c]) e6).trans g69
  have g49 := (toB (L := [c]) e5).trans g59
  have g0 := (b2.trans b4).trans g49
  have g911 := b10.trans (toB (L := [c]) e11)
  have g912 := b10.trans b12
  have mu9 : ∀ a o, S9 a = some o → a ≠ c → a ≠ pr → a ≠ pb → ¬ isMu A a := fun a o h n1 n2 n3 z => by
    rcases z with z | z | z | z
    · exact n2 (z.trans a2)
    · exact n3 (z.trans a3)
    · rw [z, a7, hst] at h; cases h
    · have := g911 a o h (by simpa using n1)
      rw [z, a8, hwt] at this; cases this
  have live : ∀ a o, S9 a = some o → S4 a = none → a ≠ c ∧ ¬ isMu A a ∧ era A S12 a = some o := fun a o h k => by
    have n1 : a ≠ c := Ne.symm (ne_of c4 k)
    have n2 := mu9 a o h n1 (Ne.symm (ne_of p4 k)) (Ne.symm (ne_of q4 k))
    exact ⟨n1, n2, by rw [era_at n2]; exact g912 a o h (by simpa using n1)⟩
  have live5 : ∀ a o, S5 a = some o → S4 a = none → era A S12 a = some o := fun a o h k => (live a o (g59 a o h (by simpa using Ne.symm (ne_of c4 k))) k).2.2
  have live6 : ∀ a o, S6 a = some o → S5 a = none → era A S12 a = some o := fun a o h k => (live a o (g69 a o h (by simpa using Ne.symm (ne_of (e5 _ _ c4) k))) (none_back e5 k)).2.2
  have da4 : S4 da = none := by
    cases q1 : S4 da with
    | none => rfl
    | some o => rw [e8 _ _ (b7 _ _ (e6 _ _ (e5 _ _ q1)) (by simpa using nda))] at hda; cases hda
  have hc' : ¬ isMu A c := by
    rintro (z | z | z | z)
    · exact npr (z.trans a2).symm
    · exact npb (z.trans a3).symm
    · exact nst (z.trans a7).symm
    · exact nwt (z.trans a8).symm
  have npst : pr ≠ st := ne_of (g49 _ _ p4 (by simpa using npr)) hst
  have nbst : pb ≠ st := ne_of (g49 _ _ q4 (by simpa using npb)) hst
  have npwt : pr ≠ wt := ne_of (g911 _ _ (g49 _ _ p4 (by simpa using npr)) (by simpa using npr)) hwt
  have nbwt : pb ≠ wt := ne_of (g911 _ _ (g49 _ _ q4 (by simpa using npb)) (by simpa using npb)) hwt
  have nswt : st ≠ wt := ne_of (e11 _ _ s10) hwt
  have dl9 := live5 dl _ hb5.at_ f5.1
  have du9 := live6 du _ hb6.at_ f6.1
  have off0 : ∀ a, isMu A a → S a = none := fun a z => by
    cases q1 : S a with
    | none => rfl
    | some o =>
      have n1 : a ≠ c := fun z' => hc' (z' ▸ z)
      have := mu9 a o (g0 a o q1 (by simpa using n1)) n1 (ne_of q1 pr0) (ne_of q1 pb0)
      exact absurd z this
  refine q S12 A (era A S12) (ids g.many) (ids g.many) (g.ed.map fun p => (p.1, p.2, PV.tup [.str "edge"], 0)) a1 ?_ (by rw [a4, a9]; exact dl9) era_ext ⟨?_, ?_, ?_, ?_, ?_⟩ (st_ids _) (bit_ids _) (by rw [List.map_map]; exact List.map_id' _) (fun a o h n => ?_) off0
  · refine ⟨by rw [a1, era_at hc', c12], ⟨.inl (by rw [a4, a9]; exact dl9), fun n h => by rw [a9]; exact hb5.no n h, fun n h => ?_, by rw [a9]; exact hb5.keys, by rw [a9]; exact hb5.len⟩,
      ⟨.inl (by rw [a5, a10]; exact du9), fun n h => by rw [a10]; exact hb6.no n h, fun n h => ?_, by rw [a10]; exact hb6.keys, by rw [a10]; exact hb6.len⟩, ⟨nks, ks, by rw [a6]; exact (live da _ d9 da4).2.2, hk, hm⟩, fun n m l h1 h2 => ?_, fun a z => era_off z,
      by rw [a2, a3]; exact nrb, by rw [a2, a7]; exact npst, by rw [a2, a8]; exact npwt, by rw [a3, a7]; exact nbst, by rw [a3, a8]; exact nbwt, by rw [a7, a8]; exact nswt, by rw [a4, a5]; exact ne_of hb5.at_ f6.1⟩
    · rw [a9]
      obtain ⟨l, h1, h2⟩ := hb5.yes n h
      exact ⟨l, h1, live5 l _ h2 (f5.2 n l h1)⟩
    · rw [a10]
      obtain ⟨l, h1, h2⟩ := hb6.yes n h
      exact ⟨l, h1, live6 l _ h2 (f6.2 n l h1)⟩
    · rw [a9] at h1
      rw [a10] at h2
      by_cases hr : rowsAt g.lo n = []
      · rw [hb5.no n hr] at h1; cases h1
      · obtain ⟨l', h3, h4⟩ := hb5.yes n hr
        rw [h1] at h3
        cases h3
        rw [f6.2 m l h2] at h4
        cases h4
  · rw [a2]; exact g912 _ _ (g49 _ _ p4 (by simpa using npr)) (by simpa using npr)
  · rw [a3]; exact g912 _ _ (g49 _ _ q4 (by simpa using npb)) (by simpa using npb)
  · rw [a7]; exact b12 _ _ s10 (by simpa using nst)
  · rw [a8]; exact w12
  · intro t ht
    obtain ⟨p, _, rfl⟩ := List.mem_map.mp ht
    exact (dat_tup (n := 0) fun z hz => by rw [List.mem_singleton.mp hz]; exact dat_str (by decide +kernel)).mono (by omega)
  · have n : a ≠ c := by simpa using n
    have h9 := g0 a o h (by simpa using n)
    rw [era_at (mu9 a o h9 n (ne_of h pr0) (ne_of h pb0))]
    exact g912 a o h9 (by simpa using n)
end
end K06

namespace K06
open PySem PySem.Spec PyProof.Rows L2 DL
local macro_rules | `(tactic| walk_at "D") => `(tactic| simp only [dRet, dRetN, dNext, dSeq, dIfS, dDrop, dAsg, dgName, dgFld, dAndV, dOrV, dNotV, dAnd, dOr, dNot, dTest, dIf, dCB, dCons, dNil, dVar, getv, dC, sc, dChain, dOp, dUn, dI0, dI, dU, dEqS, dNeS, dIsi, dLen, dIx, dPart, dNoPart, dSl, dSlX, dCall, dAllC, dTup, dLst, dYes, dInSg, dInF, seqP, dLc, bkS, dFor, bkD, dIStr, dITup, dIZip, dIList, wipeD, dWGet, dCallA, dDictK, dDIn, dListC, dTupC, dDGet, dgTup, dgCons, dgNil, dPar, dPar3, dBM, dBM0, dAppend, dExtend, dPop, dty, dBits, dgSub, dSetL, dFld, dsFld, dMeth, dMake, dDGet1, dDSetd, dsDPut, dRevL, dPlus, dDisp, dPairs, dIEnum, dIEnumT, dIRng1, dIRng2, dIKeys, dLock, dTupF1, dTupF, dDictN, dSortN, dInN, dDcN, dInT, dIsN, dNotN, dIsB, dI2, dInt1, dRepr, dWhile, dDNewK, dAug, dBreak, dCont, dNever,
  startD, List.map_cons, List.map_nil, List.length_cons, List.length_nil, List.getElem?_cons_zero, List.getElem?_cons_succ, List.cons_append, List.nil_append, List.replicate, Nat.reduceAdd, Nat.reduceSub, List.set_cons_zero, List.set_cons_succ, isB, tyP, okTy, optD_some, optD_none, Option.isSome_some, true_and, and_true, if_true, if_false, Bool.false_eq_true, List.all_cons, List.all_nil, beq_self_eq_true, eqP_int, eqP_str, scal_int, scal_str, Bool.not_true, Bool.not_false, decide_true, decide_false])
section
variable {P : Program} {w : World} {K : PySem.W.Frag} {mg : Str → Option Value} {base : Heap} {fl ft : Addr}
/-- rows of the least relation -/
def IsRel (g : Gr) (R : List Nat) : Prop := R.length = g.many ∧ ∀ i j, bit R i j = true ↔ Rel g i j
def G_closing_of (C : Addr) : DSp := fun xs S Q => ∃ g, xs = [pvG g] ∧ GoodG g ∧ ∀ S' c A R, S' c = some (.ins C (fieldsA A)) → S' A.pr = some (.lst (pvNs R)) → IsRel g R → Ext S S' → S A.pr = none → Q (.loc c) S'
theorem f_closing_of {f : Addr} {fd : FuncData} {C : Addr} (F : Fun K "closing_of" "closing_of" s_closing_of f fd) (T : Txt K w mg fl ft) (C_Closing___init__ : C8.Mak P w K mg base 2 "Closing" C (spD K (G_init w C)) []) (C_Closing_closed : C8.Met P w K mg base 4 C "closed" (spD K (G_closed w C)) []) :
    FnOk P w K mg base CX0 (4+1) f fd ["graph"] (spD K (G_closing_of C)) := by
  refine fnD F sc_closing_of (fun xs S Q h => by obtain ⟨_, rfl, _⟩ := h; rfl) fun cdv A outer s H E hr => ?_
  refine ⟨_, (pss_cons (ps_set (i := 1) sc_closing_of.nd rfl (Or.inl rfl) (C8.pe_mk C_Closing___init__ hr (by decide) (by rfl) (pa_cons (pv 0) pa_nil)))
    (pss_cons (ps_expr (C8.pe_mt0 C_Closing_closed hr (by decide) (pv 1)))
    (pss_one (ps_ret (pv 1))))), ?_⟩
  try dsimp only [cxOf, Cx.nox, Cx.wish]
  refine ⟨_, inferInstance, ?_⟩
  rintro _ S Q ⟨g, rfl, hg, q⟩
  walk_at "D"
  intro p hp
  refine ⟨g, p, rfl, hg, mset_same, fun S2 A S0 R B ws ha fx hdk ex mu st hid hed eb off => ?_⟩
  subst ha
  refine ⟨rfl, _, ex _ _ fx.ins, rfl, g, A, S0, R, B, ws, rfl, hg, fx, hdk, ex, mu, st, hid, hed, fun S3 R3 B3 ss ex3 mu3 st3 h3 => ?_⟩
  refine q S3 A.c A R3 (ex3 _ _ fx.ins) mu3.rr ⟨st3.lenR, h3⟩ (fun a o h => ?_) ?_
  · have n : a ≠ A.c := ne_of h hp
    exact ex3 _ _ (eb a o (by rw [mset_ne n]; exact h) (by simpa using n))
  · have := off A.pr (.inl rfl)
    rw [mset_ne (fun z => by rw [z, mset_same] at this; cases this)] at this
    exact this
def G_closed_rows : DSp := fun xs S Q => ∃ g, xs = [pvG g] ∧ GoodG g ∧ ∀ S' p R, S' p = some (.lst (pvNs R)) → IsRel g R → Ext S S' → S p = none → Q (.loc p) S'
theorem f_closed_rows {f : Addr} {fd : FuncData} {C : Addr} (F : Fun K "closed_rows" "closed_rows" s_closed_rows f fd) (T : Txt K w mg fl ft) (C_closing_of : C8.Cal P w K mg base 5 "closing_of" (spD K (G_closing_of C)) []) (hC : Cls K C) (n1 : NoAttr K C "reach") :
    FnOk P w K mg base CX0 (5+1) f fd ["graph"] (spD K G_closed_rows) := by
  refine fnD F sc_closed_rows (fun xs S Q h => by obtain ⟨_, rfl, _⟩ := h; rfl) fun cdv A outer s H E hr => ?_
  refine ⟨_, (pss_one (ps_ret (pe_fld (C8.pe_c C_closing_of hr (by decide) (by rfl) (pa_cons (pv 0) pa_nil)) rfl))), ?_⟩
  try dsimp only [cxOf, Cx.nox, Cx.wish]
  refine ⟨_, inferInstance, ?_⟩
  rintro _ S Q ⟨g, rfl, hg, q⟩
  walk_at "D"
  refine ⟨g, rfl, hg, fun S1 c A R h1 h2 h3 h4 h5 => ?_⟩
  dsimp only
  refine ⟨_, _, h1, hC, n1, ?_⟩
  rw [fA1]
  simp only [optD_some]
  exact q S1 A.pr R h2 h3 h4 h5
end
end K06

namespace K06
open PySem PySem.Spec PyProof.Rows L2 DL
local macro_rules | `(tactic| walk_at "D") => `(tactic| simp only [dRet, dRetN, dNext, dSeq, dIfS, dDrop, dAsg, dgName, dgFld, dAndV, dOrV, dNotV, dAnd, dOr, dNot, dTest, dIf, dCB, dCons, dNil, dVar, getv, dC, sc, dChain, dOp, dUn, dI0, dI, dU, dEqS, dNeS, dIsi, dLen, dIx, dPart, dNoPart, dSl, dSlX, dCall, dAllC, dTup, dLst, dYes, dInSg, dInF, seqP, dLc, bkS, dFor, bkD, dIStr, dITup, dIZip, dIList, wipeD, dWGet, dCallA, dDictK, dDIn, dListC, dTupC, dDGet, dgTup, dgCons, dgNil, dPar, dPar3, dBM, dBM0, dAppend, dExtend, dPop, dty, dBits, dgSub, dSetL, dFld, dsFld, dMeth, dMake, dDGet1, dDSetd, dsDPut, dRevL, dPlus, dDisp, dPairs, dIEnum, dIEnumT, dIRng1, dIRng2, dIKeys, dLock, dTupF1, dTupF, dDictN, dSortN, dInN, dDcN, dInT, dIsN, dNotN, dIsB, dI2, dInt1, dRepr, dWhile, dDNewK, dAug, dBreak, dCont, dNever,
  startD, List.map_cons, List.map_nil, List.length_cons, List.length_nil, List.getElem?_cons_zero, List.getElem?_cons_succ, List.cons_append, List.nil_append, List.replicate, Nat.reduceAdd, Nat.reduceSub, List.set_cons_zero, List.set_cons_succ, isB, tyP, okTy, optD_some, optD_none, Option.isSome_some, true_and, and_true, if_true, if_false, Bool.false_eq_true, List.all_cons, List.all_nil, beq_self_eq_true, eqP_int, eqP_str, scal_int, scal_str, Bool.not_true, Bool.not_false, decide_true, decide_false])
theorem sorted_eq : ∀ {xs ys : List Nat}, xs.Pairwise (· < ·) → ys.Pairwise (· < ·) → (∀ i, i ∈ xs ↔ i ∈ ys) → xs = ys
  | [], [], _, _, _ => rfl
  | [], y :: ys, _, _, h => by have := (h y).mpr (by simp); cases this
  | x :: xs, [], _, _, h => by have := (h x).mp (by simp); cases this
  | x :: xs, y :: ys, h1, h2, h => by
    rw [List.pairwise_cons] at h1 h2
    have e : x = y := by
      rcases Nat.lt_trichotomy x y with l | e | l
      · rcases List.mem_cons.mp ((h x).mp (by simp)) with e | m
        · exact e
        · have := h2.1 x m; omega
      · exact e
      · rcases List.mem_cons.mp ((h y).mpr (by simp)) with e | m
        · exact e.symm
        · have := h1.1 y m; omega
    subst e
    rw [sorted_eq h1.2 h2.2 fun i => ?_]
    refine ⟨fun m => ?_, fun m => ?_⟩
    · rcases List.mem_cons.mp ((h i).mp (List.mem_cons_of_mem _ m)) with e | m'
      · have := h1.1 i m; omega
      · exact m'
    · rcases List.mem_cons.mp ((h i).mpr (List.mem_cons_of_mem _ m)) with e | m'
      · have := h2.1 i m; omega
      · exact m'
theorem bits_range {n m : Nat} {bs : List Nat} (h : Bits n bs) (hn : n < 2 ^ m) : bs = (List.range m).filter fun y => n.testBit y := by
  refine sorted_eq h.up (List.Pairwise.filter _ List.pairwise_lt_range) fun i => ?_
  rw [h.mem, List.mem_filter, List.mem_range]
  refine ⟨fun e => ⟨?_, e⟩, fun e => e.2⟩
  rcases Nat.lt_or_ge i m with l | l
  · exact l
  · rw [Nat.testBit_lt_two_pow (Nat.lt_of_lt_of_le hn (Nat.pow_le_pow_right (by decide) l))] at e
    cases e
def rowPairs (R : List Nat) (m x : Nat) : List (Nat × Nat) := ((List.range m).filter fun y => bit R x y && decide (y ≠ x)).map fun y => (x, y)
def pairsOf (m : Nat) (R : List Nat) : List (Nat × Nat) := (List.range m).flatMap (rowPairs R m)
def selP (k : Nat) : PV → List PV
  | .int y => if y = (k : Int) then [] else [.tup [.int k, .int y]]
  | _ => []
theorem selP_row (R : List Nat) (k : Nat) : ∀ l : List Nat, (pvNs (l.filter fun y => (R.getD k 0).testBit y)).flatMap (selP k) = ((l.filter fun y => bit R k y && decide (y ≠ k)).map fun y => (k, y)).map pvPr
  | [] => rfl
  | y :: l => by
    have ih := selP_row R k l
    rw [List.filter_cons, List.filter_cons]
    show (pvNs (if bit R k y = true then _ else _)).flatMap _ = _
    by_cases h : bit R k y = true
    · rw [if_pos h, pvNs, List.map_cons, List.flatMap_cons]
      by_cases e : y = k
      · rw [if_neg (by simp [e])]
        rw [show selP k (.int y) = [] from if_pos (by rw [e]), List.nil_append]
        exact ih
      · rw [if_pos (by simp [h, e]), show selP k (.int y) = [.tup [.int k, .int y]] from if_neg (by omega), List.map_cons, List.map_cons]
        rw [← ih]
        rfl
    · rw [if_neg h, if_neg (by simp [h])]
      exact ih
theorem rowPairs_len (R : List Nat) (m x : Nat) : (rowPairs R m x).length ≤ m := by
  unfold rowPairs
  rw [List.length_map]
  exact Nat.le_trans (List.length_filter_le _ _) (by simp)
theorem none_backB {L : List Addr} {S S1 : Mp} {p : Addr} (e : ExtB L S S1) (h : S1 p = none) (n : p ∉ L) : S p = none := by
  cases q : S p with
  | none => rfl
  | some o => rw [e p o q n] at h; cases h
section
variable {P : Program} {w : World} {K : PySem.W.Frag} {mg : Str → Option Value} {base : Heap} {fl ft : Addr}
def G_flow_pairs : DSp := fun xs S Q => ∃ (p : Addr) (m : Nat) (R : List Nat), xs = [.loc p] ∧ S p = some (.lst (pvNs R)) ∧ R.length = m ∧ m ≤ 14 ∧ (∀ i, R.getD i 0 < 2 ^ m) ∧ ∀ S', Ext S S' → Q (.tup ((pairsOf m R).map pvPr)) S'
theorem f_flow_pairs {f : Addr} {fd : FuncData} (F : Fun K "flow_pairs" "flow_pairs" s_flow_pairs f fd) (T : Txt K w mg fl ft) (C_ones : C8.Cal P w K mg base 1 "ones" (spD K G_ones) []) : FnOk P w K mg base CX0 (1+1) f fd ["rows"] (spD K G_flow_pairs) := by
  refine fnD F sc_flow_pairs (fun xs S Q h => by obtain ⟨_, _, _, rfl, _⟩ := h; rfl) fun cdv A outer s H E hr => ?_
  refine ⟨_, (pss_cons (ps_set (i := 1) sc_flow_pairs.nd rfl (Or.inl rfl) (pe_lst pa_nil))
    (pss_cons (ps_for PassesOwn.never rfl (pi_enum (by rfl) T.b_enumerate (pa_cons (pv 0) pa_nil)) (pgK (K := K) (n := 2) (pgs_cons (pg_name (i := 2) sc_flow_pairs.nd rfl (Or.inr rfl)) (pgs_cons (pg_name (i := 3) sc_flow_pairs.nd rfl (Or.inl rfl)) pgs_nil))) (pss_one (ps_expr (pe_bm PySem.F.plainAttrs_list PySem.F.slot_list_extend PySem.F.type_list_extend mt_extend (pv 1) (pa_cons (pe_lc (own := [("y", 4)]) rfl sc_flow_pairs.nd (pi_list (C8.pe_c C_ones hr (by decide) (by rfl) (pa_cons (pv 3) pa_nil))) (blkOk_by (N := sc_flow_pairs_N) (sc := defScope s_flow_pairs) (by decide +kernel)) (fun _ _ _ _ _ => pg_name (i := 4) sc_flow_pairs.nd rfl (Or.inl rfl)) (fun _ _ _ _ _ => (pts_one (pt_cmpR op_ne (pv 4) (pv 2) (nomark _)))) (fun _ _ _ _ _ => (pe_tup (pa_cons (pv 2) (pa_cons (pv 4) pa_nil))))) pa_nil)))))
    (pss_one (ps_ret (pe_callTy c_tuple (by rfl) T.b_tuple bt_tuple (pa_cons (pv 1) pa_nil)))))), ?_⟩
  try dsimp only [cxOf, Cx.nox, Cx.wish]
  refine ⟨_, inferInstance, ?_⟩
  rintro _ S Q ⟨p, m, R, rfl, hp, hl, hm, hv, q⟩
  walk_at "D"
  refine ⟨Nat.zero_le _, fun fd hfd => ?_⟩
  have nf : fd ≠ p := Ne.symm (ne_of hp hfd)
  rw [lr_at (by rw [mset_ne (Ne.symm nf)]; exact hp)]
  simp only [optD_some]
  refine forR_inv (fun r ρ S1 => ∃ k o2 o3 o4, k ≤ m ∧ r = enumP k (pvNs (R.drop k)) ∧ ρ = [some (.loc p), some (.loc fd), o2, o3, o4] ∧ ExtB [p] S S1 ∧ S1 fd = some (.lst (((List.range k).flatMap (rowPairs R m)).map pvPr))) (fun x r ρ S1 hI N hN => ?_) (fun ρ S1 hI => ?_) _ _ _
    ⟨0, none, none, none, Nat.zero_le _, rfl, rfl, ((toB (Ext.new hfd)).put (by simp)), by rw [ldP, mset_ne nf, mset_same]; rfl⟩
  · obtain ⟨k, o2, o3, o4, hk, e, rfl, b1, f1⟩ := hI
    by_cases hk2 : k < m
    · have hd : R.drop k = R.getD k 0 :: R.drop (k + 1) := by
        rw [List.drop_eq_getElem_cons (by omega), List.getD_eq_getElem?_getD, List.getElem?_eq_getElem (by omega)]; rfl
      rw [hd, pvNs, List.map_cons, enumP_cons] at e
      cases e
      walk_at "D"
      refine ⟨.inl ⟨_, f1⟩, rfl, R.getD k 0, m, rfl, hv k, by omega, fun S2 p1 bs hbs e2 h0 h1 => ?_⟩
      dsimp only
      rw [lr_at h1]
      simp only [optD_some]
      have hbs' := bits_range hbs (hv k)
      have hbl : bs.length ≤ m := by rw [hbs']; exact Nat.le_trans (List.length_filter_le _ _) (by simp)
      have n1 : fd ≠ p1 := ne_of f1 h0
      refine ⟨by rw [pvNs, List.length_map, sizeLine_eq]; omega, lcR_map (selP k) (fun z hz S3 e3 acc R' hR => ?_) fun S3 p2 e3 hp2 hp2' => ?_⟩
      · obtain ⟨y, _, rfl⟩ := List.mem_map.mp hz
        walk_at "D"
        show if (!decide ((y : Int) = k)) = true then _ else _
        have := hR S3 Ext.refl
        by_cases e : (y : Int) = k
        · rw [show selP k (.int (y : Int)) = [] from if_pos e, List.append_nil] at this
          rw [if_neg (by simp [e])]
          exact this
        · rw [show selP k (.int (y : Int)) = [.tup [.int k, .int y]] from if_neg e] at this
          rw [if_pos (by simp [e])]
          exact ⟨by decide, this⟩
      · simp only [bkS]
        rw [hbs', selP_row, ← hbs']
        have hf3 : (mset S3 p1 (some (.lst (pvNs bs)))) fd = some (.lst (((List.range k).flatMap (rowPairs R m)).map pvPr)) := by
          rw [mset_ne n1]
          exact e3 _ _ (by rw [ldP, mset_ne n1]; exact e2 _ _ f1)
        simp only [bkS] at hp2'
        have n2 : fd ≠ p2 := ne_of hf3 hp2'
        rw [lst_at (by rw [mset_ne n2]; exact hf3), lst_same]
        simp only [optD_some]
        have l1 : ((List.range k).flatMap (rowPairs R m)).length ≤ m * k := by
          have := flatMap_len (l := List.range k) (f := rowPairs R m) (k := m) fun x _ => rowPairs_len R m x
          rw [List.length_range] at this
          exact this
        have l2 : m * k ≤ 14 * 14 := Nat.mul_le_mul hm (by omega)
        have l3 := rowPairs_len R m k
        unfold rowPairs at l3
        refine ⟨by rw [List.length_map, List.length_map, sizeLine_eq]; omega, hN _ _ ⟨k + 1, _, _, _, hk2, rfl, rfl, ?_, ?_⟩⟩
        · intro a o h n
          have q0 := b1 a o h n
          have m1 : a ≠ p1 := ne_of q0 h0
          have m2 : a ≠ fd := ne_of h hfd
          have q1 : (mset S3 p1 (some (.lst (pvNs bs)))) a = some o := by
            rw [mset_ne m1]
            exact e3 _ _ (by rw [ldP, mset_ne m1]; exact e2 _ _ q0)
          have m3 : a ≠ p2 := ne_of q1 hp2'
          rw [mset_ne m2, mset_ne m3]
          exact q1
        · rw [mset_same, List.range_succ, List.flatMap_append, List.map_append]
          simp [rowPairs]
    · rw [List.drop_eq_nil_of_le (by omega)] at e
      cases e
  · obtain ⟨k, o2, o3, o4, hk, e, rfl, b1, f1⟩ := hI
    have hkm : k = m := by
      rcases Nat.lt_or_ge k m with l | l
      · have hd : R.drop k = R.getD k 0 :: R.drop (k + 1) := by
          rw [List.drop_eq_getElem_cons (by omega), List.getD_eq_getElem?_getD, List.getElem?_eq_getElem (by omega)]; rfl
        rw [hd] at e
        cases e
      · omega
    subst hkm
    dsimp only [bkS, List.getElem?_cons_zero, List.getElem?_cons_succ]
    rw [mset_ne nf, f1]
    simp only [optD_some]
    exact ⟨trivial, q _ (b1.back hp).nil⟩
end
end K06

namespace K06
open PySem PySem.Spec PyProof.Rows L2 DL
local macro_rules | `(tactic| walk_at "D") => `(tactic| simp only [dRet, dRetN, dNext, dSeq, dIfS, dDrop, dAsg, dgName, dgFld, dAndV, dOrV, dNotV, dAnd, dOr, dNot, dTest, dIf, dCB, dCons, dNil, dVar, getv, dC, sc, dChain, dOp, dUn, dI0, dI, dU, dEqS, dNeS, dIsi, dLen, dIx, dPart, dNoPart, dSl, dSlX, dCall, dAllC, dTup, dLst, dYes, dInSg, dInF, seqP, dLc, bkS, dFor, bkD, dIStr, dITup, dIZip, dIList, wipeD, dWGet, dCallA, dDictK, dDIn, dListC, dTupC, dDGet, dgTup, dgCons, dgNil, dPar, dPar3, dBM, dBM0, dAppend, dExtend, dPop, dty, dBits, dgSub, dSetL, dFld, dsFld, dMeth, dMake, dDGet1, dDSetd, dsDPut, dRevL, dPlus, dDisp, dPairs, dIEnum, dIEnumT, dIRng1, dIRng2, dIKeys, dLock, dTupF1, dTupF, dDictN, dSortN, dInN, dDcN, dInT, dIsN, dNotN, dIsB, dI2, dInt1, dRepr, dWhile, dDNewK, dAug, dBreak, dCont, dNever,
  startD, List.map_cons, List.map_nil, List.length_cons, List.length_nil, List.getElem?_cons_zero, List.getElem?_cons_succ, List.cons_append, List.nil_append, List.replicate, Nat.reduceAdd, Nat.reduceSub, List.set_cons_zero, List.set_cons_succ, isB, tyP, okTy, optD_some, optD_none, Option.isSome_some, true_and, and_true, if_true, if_false, Bool.false_eq_true, List.all_cons, List.all_nil, beq_self_eq_true, eqP_int, eqP_str, scal_int, scal_str, Bool.not_true, Bool.not_false, decide_true, decide_false])
theorem Rel.lt {g : Gr} (hg : GoodG g) {x y : Nat} (h : Rel g x y) : x < g.many ∧ y < g.many := by
  induction h with
  | refl h => exact ⟨h, h⟩
  | edge h => exact hg.ed.lt _ h
  | trans _ _ h1 h2 => exact ⟨h1.1, h2.2⟩
  | flow _ hp _ => exact flowsAt_lt hg hp
theorem zip_take {α : Type} {l : List α} {k : Nat} (h : k < l.length) : l.zipIdx.take (k + 1) = l.zipIdx.take k ++ [(l[k], k)] := by
  rw [List.take_add_one]
  congr 1
  rw [List.getElem?_zipIdx, List.getElem?_eq_getElem h]
  simp
theorem IsRel.val {g : Gr} (hg : GoodG g) {R : List Nat} (h : IsRel g R) (i : Nat) : R.getD i 0 < 2 ^ g.many := by
  refine Nat.lt_pow_two_of_testBit _ fun j hj => ?_
  cases q : (R.getD i 0).testBit j with
  | false => rfl
  | true => have := (Rel.lt hg ((h.2 i j).mp q)).2; omega
section
variable {P : Program} {w : World} {K : PySem.W.Frag} {mg : Str → Option Value} {base : Heap} {fl ft : Addr}
def G_flows : DSp := fun xs S Q => ∃ g, xs = [pvG g] ∧ GoodG g ∧ ∀ S' R, IsRel g R → Ext S S' → Q (.tup ((pairsOf g.many R).map pvPr)) S'
theorem f_flows {f : Addr} {fd : FuncData} (F : Fun K "flows" "flows" s_flows f fd) (T : Txt K w mg fl ft) (C_need_graph : C8.Cal P w K mg base 6 "need_graph" (spD K (G_graph false)) []) (C_closed_rows : C8.Cal P w K mg base 6 "closed_rows" (spD K G_closed_rows) []) (C_flow_pairs : C8.Cal P w K mg base 2 "flow_pairs" (spD K G_flow_pairs) []) :
    FnOk P w K mg base CX0 (6+1) f fd ["graph"] (spD K G_flows) := by
  refine fnD F sc_flows (fun xs S Q h => by obtain ⟨_, rfl, _⟩ := h; rfl) fun cdv A outer s H E hr => ?_
  refine ⟨_, (pss_cons (ps_expr (C8.pe_c C_need_graph hr (by decide) (by rfl) (pa_cons (pv 0) pa_nil)))
    (pss_one (ps_ret (C8.pe_c C_flow_pairs hr (by decide) (by rfl) (pa_cons (C8.pe_c C_closed_rows hr (by decide) (by rfl) (pa_cons (pv 0) pa_nil)) pa_nil))))), ?_⟩
  try dsimp only [cxOf, Cx.nox, Cx.wish]
  refine ⟨_, inferInstance, ?_⟩
  rintro _ S Q ⟨g, rfl, hg, q⟩
  walk_at "D"
  refine ⟨g, rfl, hg, fun S1 e1 => ⟨g, rfl, hg, fun S2 p R hp hR e2 hn => ?_⟩⟩
  exact ⟨p, g.many, R, rfl, hp, hR.1, hg.most, hR.val hg, fun S3 e3 => q S3 R hR ((e1.trans e2).trans e3)⟩
/-- the clashes: places of a lower and an upper head -/
def clashRow (g : Gr) (R : List Nat) (a : Nat) (r : Nat × Hd) : List (Nat × Nat) := g.up.zipIdx.filterMap fun u => if bit R r.1 u.1.1 = true ∧ (r.1, u.1.1) ∉ g.al ∧ clashH r.2 u.1.2 = true then some (a, u.2) else none
def clashesOf (g : Gr) (R : List Nat) : List (Nat × Nat) := g.lo.zipIdx.flatMap fun r => clashRow g R r.2 r.1
def G_clashes_in : DSp := fun xs S Q => ∃ (g : Gr) (p : Addr) (R : List Nat), xs = [pvG g, .loc p] ∧ GoodG g ∧ S p = some (.lst (pvNs R)) ∧ R.length = g.many ∧ ∀ S' q, Ext S S' → S q = none → S' q = some (.lst ((clashesOf g R).map pvPr)) → Q (.loc q) S'
theorem f_clashes_in {f : Addr} {fd : FuncData} (F : Fun K "clashes_in" "clashes_in" s_clashes_in f fd) (T : Txt K w mg fl ft) (C_do_clash : C8.Cal P w K mg base 1 "do_clash" (spD K G_do_clash) []) : FnOk P w K mg base CX0 (1+1) f fd ["graph", "rows"] (spD K G_clashes_in) := by
  refine fnD F sc_clashes_in (fun xs S Q h => by obtain ⟨_, _, _, rfl, _⟩ := h; rfl) fun cdv A outer s H E hr => ?_
  refine ⟨_, (pss_cons (ps_asg (pv 0) (pgK (K := K) (n := 5) (pgs_cons (pg_name (i := 2) sc_clashes_in.nd rfl (Or.inl rfl)) (pgs_cons (pg_name (i := 3) sc_clashes_in.nd rfl (Or.inl rfl)) (pgs_cons (pg_name (i := 4) sc_clashes_in.nd rfl (Or.inl rfl)) (pgs_cons (pg_name (i := 5) sc_clashes_in.nd rfl (Or.inl rfl)) (pgs_cons (pg_name (i := 6) sc_clashes_in.nd rfl (Or.inl rfl)) pgs_nil)))))))
    (pss_cons (ps_par (i := 7) (j := 8) rfl sc_clashes_in.nd rfl rfl (by decide) rfl rfl (pa_cons (pe_dcN hr (own := [("pair", 9)]) (tt := tYes) rfl sc_clashes_in.nd (pi_tup (pv 6)) (blkOk_by (N := sc_clashes_in_N) (sc := defScope s_clashes_in) (by decide +kernel)) (fun _ _ _ _ _ => pg_name (i := 9) sc_clashes_in.nd rfl (Or.inl rfl)) (fun _ _ _ _ _ => pts_nil) (fun _ _ _ _ _ => (pv 9)) (fun _ _ _ _ _ => pe_bl)) (pa_cons (pe_lst pa_nil) pa_nil)) (by rfl))
    (pss_cons (ps_for PassesOwn.never rfl (pi_enumT (by rfl) T.b_enumerate (pa_cons (pv 3) pa_nil)) (pgK (K := K) (n := 2) (pgs_cons (pg_name (i := 10) sc_clashes_in.nd rfl (Or.inl rfl)) (pgs_cons (pgK (K := K) (n := 2) (pgs_cons (pg_name (i := 11) sc_clashes_in.nd rfl (Or.inl rfl)) (pgs_cons (pg_name (i := 12) sc_clashes_in.nd rfl (Or.inl rfl)) pgs_nil))) pgs_nil))) (pss_one (ps_for PassesOwn.never rfl (pi_enumT (by rfl) T.b_enumerate (pa_cons (pv 4) pa_nil)) (pgK (K := K) (n := 2) (pgs_cons (pg_name (i := 13) sc_clashes_in.nd rfl (Or.inl rfl)) (pgs_cons (pgK (K := K) (n := 2) (pgs_cons (pg_name (i := 14) sc_clashes_in.nd rfl (Or.inl rfl)) (pgs_cons (pg_name (i := 15) sc_clashes_in.nd rfl (Or.inl rfl)) pgs_nil))) pgs_nil))) (pss_one (ps_if (PW.pt (pw_and (pt_cmpR op_eq (pe_op op_and (pe_op op_shr (pe_ix (ixK (K := K)) (pv 1) (pv 11) (fun _ _ => rfl)) (pv 14)) pe_int) pe_int (nomark _)) (pw_and (pt_cmpR (o_notInN hr) (pe_tup (pa_cons (pv 11) (pa_cons (pv 14) pa_nil))) (pv 7) (by rfl)) (pw_and1 (pt_val (C8.pe_c C_do_clash hr (by decide) (by rfl) (pa_cons (pv 12) (pa_cons (pv 15) pa_nil)))))))) (pss_one (ps_expr (pe_bm PySem.F.plainAttrs_list PySem.F.slot_list_append PySem.F.type_list_append mt_append (pv 8) (pa_cons (pe_tup (pa_cons (pv 10) (pa_cons (pv 13) pa_nil))) pa_nil)))) pss_nil)))))
    (pss_one (ps_ret (pv 8)))))), ?_⟩
  try dsimp only [cxOf, Cx.nox, Cx.wish]
  refine ⟨_, inferInstance, ?_⟩
  rintro _ S Q ⟨g, p, R, rfl, hg, hp, hl, q⟩
  unfold pvG
  walk_at "D"
  have hmm : g.many * g.many ≤ 196 := Nat.le_trans (Nat.mul_le_mul hg.most hg.most) (by decide)
  simp only [tupP, optD_some]
  refine ⟨rfl, by have := hg.al.len; rw [List.length_map, sizeLine_eq]; omega, ?_⟩
  refine dcR_inv (fun r ks nks S8 => ∃ done todo, g.al = done ++ todo ∧ r = todo.map pvPr ∧ Ext S S8 ∧ toNKs ks = some nks ∧ ∀ p, nkPr p ∈ nks ↔ p ∈ done) (fun x r ks nks S8 hI R' hR => ?_) (fun ks nks S8 da hI hda _ => ?_) _ _ _ _ ⟨[], g.al, rfl, rfl, Ext.refl, rfl, fun p => by simp⟩
  · obtain ⟨done, todo, ea, e, e8, hk, hm⟩ := hI
    cases todo with
    | nil => cases e
    | cons p todo =>
      cases e
      walk_at "D"
      refine ⟨rfl, ?_⟩
      rw [toNK_pr]
      simp only [optD_some]
      refine ⟨Nat.le_trans (depth_pr _) (by omega), hR _ _ _ ⟨done ++ [p], todo, by rw [ea]; simp, rfl, e8, toNKs_add hk (toNK_pr p), fun z => ?_⟩⟩
      rw [mem_addK, hm, List.mem_append, List.mem_singleton]
      exact ⟨fun h => h.imp id nkPr_inj, fun h => h.imp id fun z => by rw [z]⟩
  obtain ⟨done, todo, ea, e, e8, hk, hm⟩ := hI
  cases todo with
  | cons p todo => cases e
  | nil =>
  rw [List.append_nil] at ea
  subst ea
  simp only [bkS]
  refine ⟨Nat.zero_le _, fun fd hfd => ?_⟩
  have x9 : Ext S (mset S8 da (some (ndM w da nks ks))) := e8.new2 hda
  have d9 : (mset S8 da (some (ndM w da nks ks))) da = some (ndM w da nks ks) := mset_same
  generalize (mset S8 da (some (ndM w da nks ks))) = S9 at x9 d9 hfd
  have ndf : da ≠ fd := ne_of d9 hfd
  have npf : p ≠ fd := ne_of (x9 _ _ hp) hfd
  have fd0 := none_back x9 hfd
  have hlo := hg.loS
  have hup := hg.upS
  refine forR_inv (fun r ρ S1 => ∃ k o1 o2 o3 o4 o5 o6, k ≤ g.lo.length ∧ r = enumP k ((g.lo.drop k).map pvRow) ∧ ρ = [some (pvG g), some (.loc p), some (.int g.many), some (.tup (g.lo.map pvRow)), some (.tup (g.up.map pvRow)), some (.tup (g.ed.map pvPr)), some (.tup (g.al.map pvPr)), some (.loc da), some (.loc fd), none, o1, o2, o3, o4, o5, o6] ∧
    (∀ a o, S9 a = some o → S1 a = some o) ∧ S1 fd = some (.lst (((g.lo.zipIdx.take k).flatMap fun r => clashRow g R r.2 r.1).map pvPr))) (fun x r ρ S1 hI N hN => ?_) (fun ρ S1 hI => ?_) _ _ _
    ⟨0, none, none, none, none, none, none, Nat.zero_le _, rfl, rfl, Ext.new hfd, by rw [mset_same]; rfl⟩
  · obtain ⟨k, o1, o2, o3, o4, o5, o6, hk', e, rfl, x1, f1⟩ := hI
    rcases Nat.lt_or_ge k g.lo.length with l | l
    · rw [List.drop_eq_getElem_cons l, List.map_cons, enumP_cons] at e
      have hz := zip_take l
      have ht := hg.lo.hd _ (List.getElem_mem l)
      generalize g.lo[k] = t at e hz ht
      cases e
      unfold pvRow
      walk_at "D"
      simp only [tupP, optD_some]
      refine forR_inv (fun r ρ S2 => ∃ j o4 o5 o6, j ≤ g.up.length ∧ r = enumP j ((g.up.drop j).map pvRow) ∧ ρ = [some (pvG g), some (.loc p), some (.int g.many), some (.tup (g.lo.map pvRow)), some (.tup (g.up.map pvRow)), some (.tup (g.ed.map pvPr)), some (.tup (g.al.map pvPr)), some (.loc da), some (.loc fd), none, some (.int k), some (.int t.1), some (pvH t.2), o4, o5, o6] ∧
        (∀ a o, S9 a = some o → S2 a = some o) ∧ S2 fd = some (.lst ((((g.lo.zipIdx.take k).flatMap fun r => clashRow g R r.2 r.1) ++ (g.up.zipIdx.take j).filterMap fun u => if bit R t.1 u.1.1 = true ∧ (t.1, u.1.1) ∉ g.al ∧ clashH t.2 u.1.2 = true then some (k, u.2) else none).map pvPr))) (fun x2 r2 ρ S2 hI N2 hN2 => ?_) (fun ρ S2 hI => ?_) _ _ _
        ⟨0, o4, o5, o6, Nat.zero_le _, rfl, rfl, x1, by rw [f1]; simp⟩
      · obtain ⟨j, p4, p5, p6, hj', e2, rfl, x2, f2⟩ := hI
        rcases Nat.lt_or_ge j g.up.length with l2 | l2
        · rw [List.drop_eq_getElem_cons l2, List.map_cons, enumP_cons] at e2
          have hz2 := zip_take l2
          have hu := hg.up.hd _ (List.getElem_mem l2)
          generalize g.up[j] = u at e2 hz2 hu
          cases e2
          unfold pvRow
          walk_at "D"
          have xp := x2 _ _ (x9 _ _ hp)
          rw [xp]
          simp only [optD_some]
          rw [pvNs_at (by rw [hl]; exact ht.1)]
          simp only [optD_some]
          refine ⟨by omega, ?_⟩
          rw [Int.toNat_natCast, bit_and1, show (R.getD t.1 0).testBit u.1 = bit R t.1 u.1 from rfl]
          have skip : ∀ S3 : Mp, (∀ a o, S2 a = some o → S3 a = some o) → ¬ (bit R t.1 u.1 = true ∧ (t.1, u.1) ∉ g.al ∧ clashH t.2 u.2 = true) → N2 [some (pvG g), some (.loc p), some (.int g.many), some (.tup (g.lo.map pvRow)), some (.tup (g.up.map pvRow)), some (.tup (g.ed.map pvPr)), some (.tup (g.al.map pvPr)), some (.loc da), some (.loc fd), none, some (.int k), some (.int t.1), some (pvH t.2), some (.int j), some (.int u.1), some (pvH u.2)] S3 := fun S3 x3 hn => by
            refine hN2 _ _ ⟨j + 1, _, _, _, l2, rfl, rfl, fun a o h => x3 _ _ (x2 _ _ h), ?_⟩
            rw [x3 _ _ f2, hz2, List.filterMap_append]
            simp only [List.filterMap_cons, List.filterMap_nil, if_neg hn, List.append_nil]
          by_cases hb : bit R t.1 u.1 = true
          · rw [hb]
            simp only [if_true, decide_true]
            refine ⟨by decide, nks, ks, x2 _ _ d9, hk, rfl, ?_⟩
            rw [show PV.tup [PV.int (t.1 : Int), PV.int (u.1 : Int)] = pvPr (t.1, u.1) from rfl, toNK_pr]
            simp only [optD_some]
            refine ⟨Nat.le_trans (depth_pr _) (by omega), ?_⟩
            by_cases hal : (t.1, u.1) ∈ g.al
            · rw [if_neg (by simp [(hm (t.1, u.1)).mpr hal])]
              exact skip S2 (fun _ _ h => h) (fun z => z.2.1 hal)
            · rw [if_pos (by simp only [Bool.not_eq_true', decide_eq_false_iff_not]; exact fun z => hal ((hm _).mp z))]
              refine ⟨t.2, u.2, g.many, rfl, ht.2.1, hu.2.1, fun S3 e3 => ?_⟩
              dsimp only
              by_cases hc : clashH t.2 u.2 = true
              · rw [if_pos hc]
                have f3 := e3 _ _ f2
                refine ⟨.inl ⟨_, f3⟩, by decide, ?_⟩
                rw [lst_at f3]
                simp only [optD_some]
                refine ⟨?_, hN2 _ _ ⟨j + 1, _, _, _, l2, rfl, rfl, fun a o h => ?_, ?_⟩⟩
                · rw [List.length_map, List.length_append, sizeLine_eq]
                  have q1 := flatMap_len (l := g.lo.zipIdx.take k) (f := fun r => clashRow g R r.2 r.1) (k := 30) fun x _ => by
                    unfold clashRow
                    exact Nat.le_trans (List.length_filterMap_le _ _) (by simp; omega)
                  have q2 : (g.lo.zipIdx.take k).length ≤ 30 := by rw [List.length_take]; simp; omega
                  have q3 : ((g.up.zipIdx.take j).filterMap fun u => if bit R t.1 u.1.1 = true ∧ (t.1, u.1.1) ∉ g.al ∧ clashH t.2 u.1.2 = true then some (k, u.2) else none).length ≤ 30 := by
                    refine Nat.le_trans (List.length_filterMap_le _ _) ?_
                    rw [List.length_take]; simp; omega
                  omega
                · rw [mset_ne (ne_of h hfd)]
                  exact e3 _ _ (x2 _ _ h)
                · rw [mset_same, hz2, List.filterMap_append]
                  simp only [List.filterMap_cons, List.filterMap_nil]
                  rw [if_pos ⟨hb, hal, hc⟩, ← List.append_assoc, List.map_append (l₂ := [(k, j)])]
                  rfl
              · rw [if_neg hc]
                exact skip S3 (fun a o h => e3 a o h) (fun z => hc z.2.2)
          · rw [if_neg (by simp [hb])]
            exact skip S2 (fun _ _ h => h) (fun z => hb z.1)
        · rw [List.drop_eq_nil_of_le l2] at e2
          cases e2
      · obtain ⟨j, p4, p5, p6, hj', e2, rfl, x2, f2⟩ := hI
        have hjm : j = g.up.length := by
          rcases Nat.lt_or_ge j g.up.length with l | l
          · rw [List.drop_eq_getElem_cons l, List.map_cons, enumP_cons] at e2
            cases e2
          · omega
        subst hjm
        refine hN _ _ ⟨k + 1, _, _, _, _, _, _, l, rfl, rfl, x2, ?_⟩
        rw [f2, hz, List.flatMap_append, List.take_of_length_le (l := g.up.zipIdx) (by simp)]
        simp [clashRow]
    · rw [List.drop_eq_nil_of_le l] at e
      cases e
  · obtain ⟨k, o1, o2, o3, o4, o5, o6, hk', e, rfl, x1, f1⟩ := hI
    have hkm : k = g.lo.length := by
      rcases Nat.lt_or_ge k g.lo.length with l | l
      · rw [List.drop_eq_getElem_cons l, List.map_cons, enumP_cons] at e
        cases e
      · omega
    subst hkm
    dsimp only [List.getElem?_cons_zero, List.getElem?_cons_succ]
    refine q _ fd (x9.trans x1) fd0 ?_
    rw [f1, List.take_of_length_le (by simp)]
    rfl
def G_clashes : DSp := fun xs S Q => ∃ g, xs = [pvG g] ∧ GoodG g ∧ ∀ S' R, IsRel g R → Ext S S' → Q (.tup ((clashesOf g R).map pvPr)) S'
theorem f_clashes {f : Addr} {fd : FuncData} (F : Fun K "clashes" "clashes" s_clashes f fd) (T : Txt K w mg fl ft) (C_need_graph : C8.Cal P w K mg base 6 "need_graph" (spD K (G_graph false)) []) (C_closed_rows : C8.Cal P w K mg base 6 "closed_rows" (spD K G_closed_rows) []) (C_clashes_in : C8.Cal P w K mg base 2 "clashes_in" (spD K G_clashes_in) []) :
    FnOk P w K mg base CX0 (6+1) f fd ["graph"] (spD K G_clashes) := by
  refine fnD F sc_clashes (fun xs S Q h => by obtain ⟨_, rfl, _⟩ := h; rfl) fun cdv A outer s H E hr => ?_
  refine ⟨_, (pss_cons (ps_expr (C8.pe_c C_need_graph hr (by decide) (by rfl) (pa_cons (pv 0) pa_nil)))
    (pss_one (ps_ret (pe_callTy c_tuple (by rfl) T.b_tuple bt_tuple (pa_cons (C8.pe_c C_clashes_in hr (by decide) (by rfl) (pa_cons (pv 0) (pa_cons (C8.pe_c C_closed_rows hr (by decide) (by rfl) (pa_cons (pv 0) pa_nil)) pa_nil))) pa_nil))))), ?_⟩
  try dsimp only [cxOf, Cx.nox, Cx.wish]
  refine ⟨_, inferInstance, ?_⟩
  rintro _ S Q ⟨g, rfl, hg, q⟩
  walk_at "D"
  refine ⟨g, rfl, hg, fun S1 e1 => ⟨g, rfl, hg, fun S2 p R hp hR e2 hn => ?_⟩⟩
  dsimp only
  refine ⟨g, p, R, rfl, hg, hp, hR.1, fun S3 q' e3 h0 h1 => ?_⟩
  dsimp only
  rw [h1]
  simp only [optD_some]
  exact ⟨trivial, q S3 R hR ((e1.trans e2).trans e3)⟩
end
end K06

namespace K06
open PySem PySem.Spec PyProof.Rows L2 DL
local macro_rules | `(tactic| walk_at "D") => `(tactic| simp only [dRet, dRetN, dNext, dSeq, dIfS, dDrop, dAsg, dgName, dgFld, dAndV, dOrV, dNotV, dAnd, dOr, dNot, dTest, dIf, dCB, dCons, dNil, dVar, getv, dC, sc, dChain, dOp, dUn, dI0, dI, dU, dEqS, dNeS, dIsi, dLen, dIx, dPart, dNoPart, dSl, dSlX, dCall, dAllC, dTup, dLst, dYes, dInSg, dInF, seqP, dLc, bkS, dFor, bkD, dIStr, dITup, dIZip, dIList, wipeD, dWGet, dCallA, dDictK, dDIn, dListC, dTupC, dDGet, dgTup, dgCons, dgNil, dPar, dPar3, dBM, dBM0, dAppend, dExtend, dPop, dty, dBits, dgSub, dSetL, dFld, dsFld, dMeth, dMake, dDGet1, dDSetd, dsDPut, dRevL, dPlus, dDisp, dPairs, dIEnum, dIEnumT, dIRng1, dIRng2, dIKeys, dLock, dTupF1, dTupF, dDictN, dSortN, dInN, dDcN, dInT, dIsN, dNotN, dIsB, dI2, dInt1, dRepr, dWhile, dDNewK, dAug, dBreak, dCont, dNever,
  startD, List.map_cons, List.map_nil, List.length_cons, List.length_nil, List.getElem?_cons_zero, List.getElem?_cons_succ, List.cons_append, List.nil_append, List.replicate, Nat.reduceAdd, Nat.reduceSub, List.set_cons_zero, List.set_cons_succ, isB, tyP, okTy, optD_some, optD_none, Option.isSome_some, true_and, and_true, if_true, if_false, Bool.false_eq_true, List.all_cons, List.all_nil, beq_self_eq_true, eqP_int, eqP_str, scal_int, scal_str, Bool.not_true, Bool.not_false, decide_true, decide_false])
/-! ### the law's deck -/
def dk3 (lc : Addr) (mx dr : Int) : List (Key × PV) := [(.inr "cells", .loc lc), (.inr "mixed", .int mx), (.inr "draws", .int dr)]
structure Deck (d lc : Addr) (S : Mp) : Prop where
  ex : ∃ (cs : List Int) (mx dr : Int), S d = some (.dk (dk3 lc mx dr)) ∧ S lc = some (.lst (cs.map PV.int)) ∧ cs.length ≤ 63 ∧ 0 ≤ mx ∧ mx < 2147483647
theorem dk_cells {S : Mp} {d lc : Addr} {mx dr : Int} (h : S d = some (.dk (dk3 lc mx dr))) : atD S (.loc d) (.str "cells") = some (some (.loc lc)) := by rw [atD_at h]; rfl
theorem dk_mixed {S : Mp} {d lc : Addr} {mx dr : Int} (h : S d = some (.dk (dk3 lc mx dr))) : atD S (.loc d) (.str "mixed") = some (some (.int mx)) := by rw [atD_at h]; rfl
theorem dk_draws {S : Mp} {d lc : Addr} {mx dr : Int} (h : S d = some (.dk (dk3 lc mx dr))) : atD S (.loc d) (.str "draws") = some (some (.int dr)) := by rw [atD_at h]; rfl
theorem put_draws {S : Mp} {d lc : Addr} {mx dr v : Int} (h : S d = some (.dk (dk3 lc mx dr))) : putD S (.loc d) (.str "draws") (.int v) = some (mset S d (some (.dk (dk3 lc mx v)))) := by
  simp only [putD, h, keyP, Option.map_some]
  rw [if_pos (by rw [sizeLine_eq]; simp [dk3])]
  rfl
theorem put_mixed {S : Mp} {d lc : Addr} {mx dr v : Int} (h : S d = some (.dk (dk3 lc mx dr))) : putD S (.loc d) (.str "mixed") (.int v) = some (mset S d (some (.dk (dk3 lc v dr)))) := by
  simp only [putD, h, keyP, Option.map_some]
  rw [if_pos (by rw [sizeLine_eq]; simp [dk3])]
  rfl
theorem emod_nat (a : Int) {m : Nat} (h : 1 ≤ m) : ∃ v : Nat, v < m ∧ a % (m : Int) = (v : Int) := by
  have h1 := Int.emod_nonneg a (b := (m : Int)) (by omega)
  have h2 := Int.emod_lt_of_pos a (b := (m : Int)) (by omega)
  exact ⟨(a % (m : Int)).toNat, by omega, by omega⟩
theorem cmul_mod (a b : Int) {m : Int} (h : 0 < m) (h2 : m < 2 ^ 64) : CMul (a % m) b := .inl ⟨by have := Int.emod_nonneg a (b := m) (by omega); omega, by have := Int.emod_lt_of_pos a h; omega⟩
section
variable {P : Program} {w : World} {K : PySem.W.Frag} {mg : Str → Option Value} {base : Heap} {fl ft : Addr}
def G_law_deck : DSp := fun xs S Q => ∃ ns : List Int, xs = [.kl (ns.map PV.int)] ∧ ∀ S' d lc, Deck d lc S' → S d = none → S lc = none → Ext S S' → Q (.loc d) S'
theorem f_law_deck {f : Addr} {fd : FuncData} (F : Fun K "_law_deck" "_law_deck" s__law_deck f fd) (T : Txt K w mg fl ft) : FnOk P w K mg base CX0 (0+1) f fd ["script"] (spD K G_law_deck) := by
  refine fnD F sc__law_deck (fun xs S Q h => by obtain ⟨_, rfl, _⟩ := h; rfl) fun cdv A outer s H E hr => ?_
  refine ⟨_, (pss_cons (ps_par (i := 1) (j := 2) rfl sc__law_deck.nd rfl rfl (by decide) rfl rfl (pa_cons (pe_lc (own := [("cell", 3)]) (tt := tYes) rfl sc__law_deck.nd (pi_list (pe_slice sl_any (pv 0) po_none (po_some pe_int))) (blkOk_by (N := sc__law_deck_N) (sc := defScope s__law_deck) (by decide +kernel)) (fun _ _ _ _ _ => pg_name (i := 3) sc__law_deck.nd rfl (Or.inl rfl)) (fun _ _ _ _ _ => pts_nil) (fun _ _ _ _ _ => (pe_callTy c_int (by rfl) T.b_int bt_int (pa_cons (pv 3) pa_nil)))) (pa_cons pe_int pa_nil)) (by rfl))
    (pss_cons (ps_for PassesOwn.never rfl (pi_list (pv 1)) (pg_name (i := 3) sc__law_deck.nd rfl (Or.inl rfl)) (pss_one (ps_set (i := 2) sc__law_deck.nd rfl (Or.inl rfl) (pe_op op_mod (pe_callTy c_int (by rfl) T.b_int bt_int (pa_cons (pe_op op_plus (pe_op op_plus (pe_op op_mul (pv 2) pe_int) (pe_op op_mod (pe_callTy c_int (by rfl) T.b_int bt_int (pa_cons (pv 3) pa_nil)) pe_int)) pe_int) pa_nil)) pe_int))))
    (pss_one (ps_ret (pe_disp (pps_cons pe_str (pe_revL (pv 1)) (pps_cons pe_str (pv 2) (pps_cons pe_str pe_int pps_nil))) (by rfl) (by rfl) (fun z => by cases z) (by decide)))))), ?_⟩
  try dsimp only [cxOf, Cx.nox, Cx.wish]
  refine ⟨_, inferInstance, ?_⟩
  rintro _ S Q ⟨ns, rfl, q⟩
  walk_at "D"
  refine ⟨rfl, fun q0 hq0 => ?_⟩
  rw [lr_same]
  simp only [optD_some]
  have hcut : ∃ ms : List Int, cutP (ns.map PV.int) none (some 63) = ms.map PV.int ∧ ms.length ≤ 63 := by
    unfold cutP
    rw [HT.sIx_none, show (some (63 : Int)) = some ((63 : Nat) : Int) from rfl, HT.sIx_nat]
    refine ⟨(ns.take (min 63 ns.length)), ?_, ?_⟩
    · simp
    · rw [List.length_take]; omega
  obtain ⟨ms, hms, hml⟩ := hcut
  rw [hms]
  refine ⟨by rw [List.length_map, sizeLine_eq]; omega, ?_⟩
  refine lcR_map (fun z => [z]) (fun z hz S3 e3 acc R' hR => ?_) fun S3 p e3 hp hp' => ?_
  · obtain ⟨i, _, rfl⟩ := List.mem_map.mp hz
    walk_at "D"
    exact hR S3 Ext.refl
  have hfm : (ms.map PV.int).flatMap (fun z => [z]) = ms.map PV.int := by rw [flatMap_one]; simp
  rw [hfm]
  simp only [bkS] at hp' ⊢
  rw [lr_same]
  simp only [optD_some]
  have e4 : Ext S (mset S3 q0 (some (.lst (ms.map PV.int)))) := by
    refine Ext.mset2 hq0 (fun a o h => e3 _ _ ?_)
    have n := ne_of h hq0
    rw [ldP, mset_ne n, mset_ne n]
    exact h
  generalize (mset S3 q0 (some (.lst (ms.map PV.int)))) = S4 at e4 hp'
  have p0 := none_back e4 hp'
  refine forR_inv (fun r ρ S1 => ∃ ms' mx o, r = ms'.map PV.int ∧ ρ = [some (.kl (ns.map PV.int)), some (.loc p), some (.int mx), o] ∧ Ext S S1 ∧ 0 ≤ mx ∧ mx < 2147483647) (fun x r ρ S1 hI N hN => ?_) (fun ρ S1 hI => ?_) _ _ _
    ⟨ms, 21497006, none, rfl, rfl, Ext.mset2 p0 (Ext.mset2 p0 e4), by decide, by decide⟩
  · obtain ⟨ms', mx, o, e, rfl, x1, h1, h2⟩ := hI
    cases ms' with
    | nil => cases e
    | cons m ms' =>
      cases e
      walk_at "D"
      exact ⟨.inl ⟨by omega, by omega⟩, by decide, by decide, hN _ _ ⟨ms', _, _, rfl, rfl, x1, Int.emod_nonneg _ (by decide), Int.emod_lt_of_pos _ (by decide)⟩⟩
  · obtain ⟨ms', mx, o, e, rfl, x1, h1, h2⟩ := hI
    walk_at "D"
    rw [mset_same]
    simp only [optD_some]
    intro lc hlc
    simp only [keyed, keyP, Option.map_some, optD_some]
    refine ⟨by simp, fun d hd => ?_⟩
    have x2 : Ext S (mset S1 p (some (.lst (ms.map PV.int)))) := Ext.mset2 p0 x1
    have x3 := x2.new2 (o := some (.lst (ms.map PV.int).reverse)) hlc
    have ncd : lc ≠ d := ne_of mset_same hd
    refine q _ d lc ⟨ms.reverse, mx, 0, mset_same, by rw [mset_ne ncd, mset_same, List.map_reverse], by rw [List.length_reverse]; omega, h1, h2⟩ (none_back x3 hd) (none_back x2 hlc) (x3.new2 hd)
def G_law_draw : DSp := fun xs S Q => ∃ (S0 : Mp) (d lc : Addr) (many : Nat), xs = [.loc d, .int many] ∧ 1 ≤ many ∧ many ≤ 1000 ∧ Deck d lc S ∧ Ext S0 S ∧ S0 d = none ∧ S0 lc = none ∧ ∀ S' (v : Nat), v < many → Deck d lc S' → Ext S0 S' → Q (.int v) S'
theorem f_law_draw {f : Addr} {fd : FuncData} (F : Fun K "_law_draw" "_law_draw" s__law_draw f fd) (T : Txt K w mg fl ft) : FnOk P w K mg base CX0 (0+1) f fd ["deck", "many"] (spD K G_law_draw) := by
  refine fnD F sc__law_draw (fun xs S Q h => by obtain ⟨_, _, _, _, rfl, _⟩ := h; rfl) fun cdv A outer s H E hr => ?_
  refine ⟨_, (pss_cons (ps_dput (hu_of hr) (pv 0) pe_str (pe_op op_plus (pe_dget (hu_of hr) (pv 0) pe_str (fun _ _ => rfl)) pe_int) rfl)
    (pss_cons (ps_if (pt_cmpR (op_neD (room64 hr)) (pe_dget (hu_of hr) (pv 0) pe_str (fun _ _ => rfl)) (pe_lst pa_nil) (nomark _)) (pss_cons (ps_set (i := 2) sc__law_draw.nd rfl (Or.inl rfl) (pe_bm0 PySem.F.plainAttrs_list PySem.F.slot_list_pop PySem.F.type_list_pop mt_pop (pe_dget (hu_of hr) (pv 0) pe_str (fun _ _ => rfl))))
    (pss_cons (ps_if (pt_cmpR op_ge (pv 2) (pe_op op_pow pe_int pe_int) (nomark _)) (pss_cons (ps_expr (pe_bm PySem.F.plainAttrs_list PySem.F.slot_list_append PySem.F.type_list_append mt_append (pe_dget (hu_of hr) (pv 0) pe_str (fun _ _ => rfl)) (pa_cons (pe_op op_fdiv (pv 2) (pe_callB (c_max2 rfl) (by rfl) T.b_max bt_max (pa_cons pe_int (pa_cons (pv 1) pa_nil)))) pa_nil)))
    (pss_one (ps_ret (pe_op op_mod (pe_callTy c_int (by rfl) T.b_int bt_int (pa_cons (pv 2) pa_nil)) (pv 1))))) pss_nil)
    (pss_one (ps_dput (hu_of hr) (pv 0) pe_str (pe_op op_mod (pe_callTy c_int (by rfl) T.b_int bt_int (pa_cons (pe_op op_plus (pe_op op_plus (pe_op op_mul (pe_dget (hu_of hr) (pv 0) pe_str (fun _ _ => rfl)) pe_int) (pe_op op_mod (pe_callTy c_int (by rfl) T.b_int bt_int (pa_cons (pv 2) pa_nil)) pe_int)) pe_int) pa_nil)) pe_int) rfl)))) pss_nil)
    (pss_cons (ps_set (i := 3) sc__law_draw.nd rfl (Or.inl rfl) (pe_op op_mod (pe_callTy c_int (by rfl) T.b_int bt_int (pa_cons (pe_op op_plus (pe_dget (hu_of hr) (pv 0) pe_str (fun _ _ => rfl)) (pe_op op_mul pe_int (pe_dget (hu_of hr) (pv 0) pe_str (fun _ _ => rfl)))) pa_nil)) pe_int))
    (pss_cons (ps_set (i := 3) sc__law_draw.nd rfl (Or.inl rfl) (pe_op op_mod (pe_callTy c_int (by rfl) T.b_int bt_int (pa_cons (pe_op op_plus (pe_op op_plus (pe_op op_mul (pv 3) (pv 3)) (pe_op op_mul pe_int (pe_dget (hu_of hr) (pv 0) pe_str (fun _ _ => rfl)))) pe_int) pa_nil)) pe_int))
    (pss_cons (ps_set (i := 3) sc__law_draw.nd rfl (Or.inl rfl) (pe_op op_mod (pe_callTy c_int (by rfl) T.b_int bt_int (pa_cons (pe_op op_plus (pe_op op_mul (pv 3) pe_int) pe_int) pa_nil)) pe_int))
    (pss_one (ps_ret (pe_op op_mod (pe_callTy c_int (by rfl) T.b_int bt_int (pa_cons (pe_op op_fdiv (pv 3) pe_int) pa_nil)) (pv 1))))))))), ?_⟩
  try dsimp only [cxOf, Cx.nox, Cx.wish]
  refine ⟨_, inferInstance, ?_⟩
  rintro _ S Q ⟨S0, d, lc, many, rfl, hm, hm2, ⟨cs, mx, dr, hd, hc, hl, h1, h2⟩, ex, d0, lc0, q⟩
  walk_at "D"
  rw [dk_draws hd]
  simp only [optD_some]
  rw [put_draws hd]
  simp only [optD_some]
  have hdl : d ≠ lc := fun z => by rw [z, hc] at hd; cases hd
  have hd' : (mset S d (some (.dk (dk3 lc mx (dr + 1))))) d = some (.dk (dk3 lc mx (dr + 1))) := mset_same
  have hc' : (mset S d (some (.dk (dk3 lc mx (dr + 1))))) lc = some (.lst (cs.map PV.int)) := by rw [mset_ne (Ne.symm hdl)]; exact hc
  have ex' : Ext S0 (mset S d (some (.dk (dk3 lc mx (dr + 1))))) := Ext.mset2 d0 ex
  generalize (mset S d (some (.dk (dk3 lc mx (dr + 1))))) = S4 at hd' hc' ex'
  generalize dr + 1 = dr1 at hd'
  rw [dk_cells hd']
  simp only [optD_some]
  refine ⟨Nat.zero_le _, fun p hp => ?_⟩
  have npd : d ≠ p := ne_of hd' hp
  have npl : lc ≠ p := ne_of hc' hp
  have hd5 : (mset S4 p (some (.lst []))) d = some (.dk (dk3 lc mx dr1)) := by rw [mset_ne npd]; exact hd'
  have hc5 : (mset S4 p (some (.lst []))) lc = some (.lst (cs.map PV.int)) := by rw [mset_ne npl]; exact hc'
  have ex5 : Ext S0 (mset S4 p (some (.lst []))) := ex'.new2 hp
  refine ne_nil_lst hc5 (n := 0) (fun x hx => by obtain ⟨i, _, rfl⟩ := List.mem_map.mp hx; exact dat_int _) (by omega) mset_same not ?_
  generalize (mset S4 p (some (.lst []))) = S5 at hd5 hc5 ex5
  dsimp only
  rcases List.eq_nil_or_concat cs with rfl | ⟨cs', c, rfl⟩
  · rw [if_neg (by simp)]
    simp only [dk_mixed hd5, dk_draws hd5, optD_some]
    refine ⟨.inl ⟨by decide, by decide⟩, by decide, cmul_mod _ _ (by decide) (by decide), .inl ⟨by decide, by decide⟩, by decide, cmul_mod _ _ (by decide) (by decide), by decide, ⟨by decide, by decide⟩, by omega, ?_⟩
    obtain ⟨v, hv, ev⟩ := emod_nat ((((mx + 31337 * dr1) % 2147483647 * ((mx + 31337 * dr1) % 2147483647) + 48271 * dr1 + 3) % 2147483629 * 69621 + 77) % 2147483563 / 64) hm
    rw [ev]
    exact q _ v hv ⟨[], mx, dr1, hd5, hc5, by simp, h1, h2⟩ ex5
  · rw [if_pos (by simp)]
    rw [List.concat_eq_append] at *
    simp only [dk_cells hd5, optD_some]
    refine ⟨.inl ⟨_, hc5⟩, ?_⟩
    rw [lst_at hc5]
    simp only [optD_some]
    have e1 : ((cs' ++ [c]).map PV.int)[((cs' ++ [c]).map PV.int).length - 1]? = some (.int c) := by simp
    have e2 : ((cs' ++ [c]).map PV.int).dropLast = cs'.map PV.int := by simp
    rw [e1, e2]
    simp only [optD_some]
    have hd6 : (mset S5 lc (some (.lst (cs'.map PV.int)))) d = some (.dk (dk3 lc mx dr1)) := by rw [mset_ne hdl]; exact hd5
    have hc6 : (mset S5 lc (some (.lst (cs'.map PV.int)))) lc = some (.lst (cs'.map PV.int)) := mset_same
    have ex6 : Ext S0 (mset S5 lc (some (.lst (cs'.map PV.int)))) := Ext.mset2 lc0 ex5
    generalize (mset S5 lc (some (.lst (cs'.map PV.int)))) = S6 at hd6 hc6 ex6
    rw [List.length_append, List.length_singleton] at hl
    refine ⟨⟨by decide, by decide, by decide⟩, ?_⟩
    have hmp : (0 : Int) < many := by omega
    split
    · simp only [dk_cells hd6, optD_some]
      refine ⟨.inl ⟨_, hc6⟩, ?_⟩
      rw [lst_at hc6]
      simp only [optD_some]
      refine ⟨⟨by split <;> omega, by split <;> omega⟩, by rw [List.length_map, sizeLine_eq]; omega, hmp, ?_⟩
      obtain ⟨v, hv, ev⟩ := emod_nat c hm
      rw [ev]
      refine q _ v hv ⟨cs' ++ [c / (if (many : Int) > 2 then (many : Int) else 2)], mx, dr1, by rw [mset_ne hdl]; exact hd6, by rw [mset_same, List.map_append]; rfl, by rw [List.length_append, List.length_singleton]; omega, h1, h2⟩ (Ext.mset2 lc0 ex6)
    · simp only [dk_mixed hd6, optD_some]
      refine ⟨.inr ⟨by decide, by decide⟩, by decide, by decide, ?_⟩
      rw [put_mixed hd6]
      simp only [optD_some]
      have hm1 := Int.emod_nonneg (mx * 39373 + c % 2147483629 + 1) (b := 2147483587) (by decide)
      have hm2 := Int.emod_lt_of_pos (mx * 39373 + c % 2147483629 + 1) (b := 2147483587) (by decide)
      generalize (mx * 39373 + c % 2147483629 + 1) % 2147483587 = mx7 at hm1 hm2
      have hd7 : (mset S6 d (some (.dk (dk3 lc mx7 dr1)))) d = some (.dk (dk3 lc mx7 dr1)) := mset_same
      have hc7 : (mset S6 d (some (.dk (dk3 lc mx7 dr1)))) lc = some (.lst (cs'.map PV.int)) := by rw [mset_ne (Ne.symm hdl)]; exact hc6
      have ex7 : Ext S0 (mset S6 d (some (.dk (dk3 lc mx7 dr1)))) := Ext.mset2 d0 ex6
      generalize (mset S6 d (some (.dk (dk3 lc mx7 dr1)))) = S7 at hd7 hc7 ex7
      simp only [dk_mixed hd7, dk_draws hd7, optD_some]
      refine ⟨.inl ⟨by decide, by decide⟩, by decide, cmul_mod _ _ (by decide) (by decide), .inl ⟨by decide, by decide⟩, by decide, cmul_mod _ _ (by decide) (by decide), by decide, ⟨by decide, by decide⟩, by omega, ?_⟩
      obtain ⟨v, hv, ev⟩ := emod_nat ((((mx7 + 31337 * dr1) % 2147483647 * ((mx7 + 31337 * dr1) % 2147483647) + 48271 * dr1 + 3) % 2147483629 * 69621 + 77) % 2147483563 / 64) hm
      rw [ev]
      exact q _ v hv ⟨cs', mx7, dr1, hd7, hc7, by omega, hm1, by omega⟩ ex7
end
end K06

namespace K06
open PySem PySem.Spec PyProof.Rows L2 DL
local macro_rules | `(tactic| walk_at "D") => `(tactic| simp only [dRet, dRetN, dNext, dSeq, dIfS, dDrop, dAsg, dgName, dgFld, dAndV, dOrV, dNotV, dAnd, dOr, dNot, dTest, dIf, dCB, dCons, dNil, dVar, getv, dC, sc, dChain, dOp, dUn, dI0, dI, dU, dEqS, dNeS, dIsi, dLen, dIx, dPart, dNoPart, dSl, dSlX, dCall, dAllC, dTup, dLst, dYes, dInSg, dInF, seqP, dLc, bkS, dFor, bkD, dIStr, dITup, dIZip, dIList, wipeD, dWGet, dCallA, dDictK, dDIn, dListC, dTupC, dDGet, dgTup, dgCons, dgNil, dPar, dPar3, dBM, dBM0, dAppend, dExtend, dPop, dty, dBits, dgSub, dSetL, dFld, dsFld, dMeth, dMake, dDGet1, dDSetd, dsDPut, dRevL, dPlus, dDisp, dPairs, dIEnum, dIEnumT, dIRng1, dIRng2, dIKeys, dLock, dTupF1, dTupF, dDictN, dSortN, dInN, dDcN, dInT, dIsN, dNotN, dIsB, dI2, dInt1, dRepr, dWhile, dDNewK, dAug, dBreak, dCont, dNever,
  startD, List.map_cons, List.map_nil, List.length_cons, List.length_nil, List.getElem?_cons_zero, List.getElem?_cons_succ, List.cons_append, List.nil_append, List.replicate, Nat.reduceAdd, Nat.reduceSub, List.set_cons_zero, List.set_cons_succ, isB, tyP, okTy, optD_some, optD_none, Option.isSome_some, true_and, and_true, if_true, if_false, Bool.false_eq_true, List.all_cons, List.all_nil, beq_self_eq_true, eqP_int, eqP_str, scal_int, scal_str, Bool.not_true, Bool.not_false, decide_true, decide_false])
/-! ### the law's drawn heads and rows -/
theorem _root_.DL.Ext.both {S0 S : Mp} {p : Addr} {o : Option MO} (e : Ext S0 S) : Ext (mset S0 p o) (mset S p o) := fun a u h => by
  by_cases z : a = p
  · subst z; rw [mset_same] at h ⊢; exact h
  · rw [mset_ne z] at h ⊢; exact e a u h
theorem _root_.DL.Ext.withP {S0 S : Mp} {p : Addr} {o : MO} (e : Ext S0 S) (h : S p = some o) : Ext (mset S0 p (some o)) S := fun a u q => by
  by_cases z : a = p
  · subst z; rw [mset_same] at q; rw [h]; exact q
  · rw [mset_ne z] at q; exact e a u q
theorem _root_.DL.Ext.dropP {S0 S S1 : Mp} {p : Addr} {o : MO} (e : Ext S0 S) (h : S p = some o) (e1 : Ext (mset S0 p (some o)) S1) : Ext S0 S1 := fun a u q => by
  by_cases z : a = p
  · subst z
    have := e _ _ q
    rw [h] at this
    cases this
    exact e1 _ _ mset_same
  · exact e1 a u (by rw [mset_ne z]; exact q)
theorem Deck.ne {d lc p : Addr} {S : Mp} (h : Deck d lc S) (hp : S p = none) : d ≠ p ∧ lc ≠ p := by
  obtain ⟨cs, mx, dr, h1, h2, _⟩ := h
  exact ⟨ne_of h1 hp, ne_of h2 hp⟩
theorem Deck.new {d lc p : Addr} {S : Mp} {o : Option MO} (h : Deck d lc S) (hp : S p = none) : Deck d lc (mset S p o) := by
  have n := h.ne hp
  obtain ⟨cs, mx, dr, h1, h2, h3⟩ := h
  exact ⟨cs, mx, dr, by rw [mset_ne n.1]; exact h1, by rw [mset_ne n.2]; exact h2, h3⟩
theorem Deck.put {d lc p : Addr} {S : Mp} {o : Option MO} (h : Deck d lc S) (n1 : d ≠ p) (n2 : lc ≠ p) : Deck d lc (mset S p o) := by
  obtain ⟨cs, mx, dr, h1, h2, h3⟩ := h
  exact ⟨cs, mx, dr, by rw [mset_ne n1]; exact h1, by rw [mset_ne n2]; exact h2, h3⟩
section
variable {P : Program} {w : World} {K : PySem.W.Frag} {mg : Str → Option Value} {base : Heap} {fl ft : Addr}
def G_law_pick : DSp := fun xs S Q => ∃ (S0 : Mp) (d lc p : Addr) (ys : List PV), xs = [.loc d, .loc p] ∧ S p = some (.lst ys) ∧ 1 ≤ ys.length ∧ ys.length ≤ 1000 ∧ d ≠ p ∧ lc ≠ p ∧ Deck d lc S ∧ Ext S0 S ∧ S0 d = none ∧ S0 lc = none ∧ ∀ S' y, y ∈ ys → Deck d lc S' → Ext S0 S' → S' p = some (.lst ys) → Q y S'
theorem f_law_pick {f : Addr} {fd : FuncData} (F : Fun K "_law_pick" "_law_pick" s__law_pick f fd) (T : Txt K w mg fl ft) (C__law_draw : C8.Cal P w K mg base 1 "_law_draw" (spD K G_law_draw) []) : FnOk P w K mg base CX0 (1+1) f fd ["deck", "some"] (spD K G_law_pick) := by
  refine fnD F sc__law_pick (fun xs S Q h => by obtain ⟨_, _, _, _, _, rfl, _⟩ := h; rfl) fun cdv A outer s H E hr => ?_
  refine ⟨_, (pss_one (ps_ret (pe_ix (ixK (K := K)) (pv 1) (C8.pe_c C__law_draw hr (by decide) (by rfl) (pa_cons (pv 0) (pa_cons (pe_callB c_len (by rfl) T.b_len bt_len (pa_cons (pv 1) pa_nil)) pa_nil))) (fun _ _ => rfl)))), ?_⟩
  try dsimp only [cxOf, Cx.nox, Cx.wish]
  refine ⟨_, inferInstance, ?_⟩
  rintro _ S Q ⟨S0, d, lc, p, ys, rfl, hp, h1, h2, n1, n2, dk, ex, d0, lc0, q⟩
  walk_at "D"
  rw [hp]
  simp only [optD_some]
  refine ⟨mset S0 p (some (.lst ys)), d, lc, ys.length, rfl, h1, h2, dk, ex.withP hp, by rw [mset_ne n1]; exact d0, by rw [mset_ne n2]; exact lc0, fun S1 v hv dk1 ex1 => ?_⟩
  have hp1 := ex1 _ _ mset_same
  dsimp only
  rw [hp1]
  simp only [optD_some]
  rw [atI_nat (List.getElem?_eq_getElem hv)]
  exact q S1 _ (List.getElem_mem hv) dk1 (Ext.dropP ex hp ex1) hp1
theorem prsP_map : ∀ {ys : List PV}, (∀ y ∈ ys, isTupP y = true) → prsP (ys.map fun z => .tup [z, .bl true]) = some ys
  | [], _ => by simp [prsP]
  | y :: ys, h => by
    rw [List.map_cons, prsP, if_pos (h y List.mem_cons_self), prsP_map fun z hz => h z (List.mem_cons_of_mem _ hz)]
    rfl
theorem addAllP_nk : ∀ {zs : List NestedKey} {ys ks : List PV} {nks : List NestedKey}, toNKs ys = some zs → toNKs ks = some nks → toNKs (addAllP nks ks (zs.zip ys)) = some (zs.foldl addK nks) ∧ (∀ x ∈ addAllP nks ks (zs.zip ys), x ∈ ks ∨ x ∈ ys) ∧ (addAllP nks ks (zs.zip ys)).length ≤ ks.length + ys.length
  | _, [], ks, nks, e, h => by
    rw [toNKs] at e
    cases e
    exact ⟨h, fun x hx => .inl hx, by simp [addAllP]⟩
  | zs, y :: ys, ks, nks, e, h => by
    obtain ⟨d, ds, e1, e2, rfl⟩ := toNKs_cons e
    rw [List.zip_cons_cons, addAllP, List.foldl_cons]
    obtain ⟨h1, h2, h3⟩ := addAllP_nk e2 (toNKs_add h e1)
    refine ⟨h1, fun x hx => ?_, by
      have : (addP nks ks d y).length ≤ ks.length + 1 := by unfold addP; split <;> simp
      exact Nat.le_trans h3 (by rw [List.length_cons]; show (addP nks ks d y).length + _ ≤ _; omega)⟩
    rcases h2 x hx with hx | hx
    · unfold addP at hx
      split at hx
      · exact .inl hx
      · rcases List.mem_append.mp hx with hx | hx
        · exact .inl hx
        · obtain rfl := List.mem_singleton.mp hx
          exact .inr List.mem_cons_self
    · exact .inr (List.mem_cons_of_mem _ hx)
theorem mem_foldK : ∀ {zs nks : List NestedKey} {k : NestedKey}, k ∈ zs.foldl addK nks ↔ k ∈ nks ∨ k ∈ zs
  | [], nks, k => by simp
  | z :: zs, nks, k => by
    rw [List.foldl_cons, mem_foldK, mem_addK, List.mem_cons, or_assoc]
def G_law_rising : DSp := fun xs S Q => ∃ (p : Addr) (ys : List PV) (zs : List NestedKey), xs = [.loc p] ∧ S p = some (.lst ys) ∧ toNKs ys = some zs ∧ (∀ y ∈ ys, isTupP y = true) ∧ (∀ k ∈ zs, Led k) ∧ (∀ k ∈ zs, ∀ l ∈ zs, (ltNK k l).isSome = true) ∧ ys.length ≤ 1000 ∧
  ∀ S' outx outk, toNKs outx = some outk → (∀ k, k ∈ outk ↔ k ∈ zs) → outk.Pairwise (fun a b => ltT a b = true) → (∀ x ∈ outx, x ∈ ys) → outx.length ≤ ys.length → Ext S S' → Q (.tup outx) S'
theorem f_law_rising {f : Addr} {fd : FuncData} (F : Fun K "_law_rising" "_law_rising" s__law_rising f fd) (T : Txt K w mg fl ft) : FnOk P w K mg base CX0 (0+1) f fd ["items"] (spD K G_law_rising) := by
  refine fnD F sc__law_rising (fun xs S Q h => by obtain ⟨_, _, _, rfl, _⟩ := h; rfl) fun cdv A outer s H E hr => ?_
  refine ⟨_, (pss_one (ps_ret (pe_callTy c_tuple (by rfl) T.b_tuple bt_tuple (pa_cons (pe_callB (c_sortedN hr) (by rfl) T.b_sorted bt_sorted (pa_cons (pe_callTy (c_dictN hr) (by rfl) T.b_dict bt_dict (pa_cons (pe_lc (own := [("it", 1)]) (tt := tYes) rfl sc__law_rising.nd (pi_list (pv 0)) (blkOk_by (N := sc__law_rising_N) (sc := defScope s__law_rising) (by decide +kernel)) (fun _ _ _ _ _ => pg_name (i := 1) sc__law_rising.nd rfl (Or.inl rfl)) (fun _ _ _ _ _ => pts_nil) (fun _ _ _ _ _ => (pe_tup (pa_cons (pv 1) (pa_cons pe_bl pa_nil))))) pa_nil)) pa_nil)) pa_nil)))), ?_⟩
  try dsimp only [cxOf, Cx.nox, Cx.wish]
  refine ⟨_, inferInstance, ?_⟩
  rintro _ S Q ⟨p, ys, zs, rfl, hp, hz, ht, hl, hc, hn, q⟩
  walk_at "D"
  refine ⟨rfl, ?_⟩
  rw [lr_at hp]
  simp only [optD_some]
  refine ⟨by rw [sizeLine_eq]; omega, ?_⟩
  refine lcR_map (fun z => [.tup [z, .bl true]]) (fun z hz S3 e3 acc R hR => ?_) fun S3 a e3 ha ha' => ?_
  · walk_at "D"
    exact ⟨by decide, hR S3 Ext.refl⟩
  rw [flatMap_one]
  simp only [bkS, ldP] at ha' ⊢
  have e4 : Ext S (mset S3 p (some (.lst ys))) := fun b o h => by
    by_cases z : b = p
    · subst z; rw [mset_same]; rw [hp] at h; exact h
    · rw [mset_ne z]; exact e3 _ _ (by unfold ldP; rw [mset_ne z]; exact h)
  generalize (mset S3 p (some (.lst ys))) = S4 at e4 ha'
  rw [mset_same]
  simp only [optD_some]
  rw [prsP_map ht]
  simp only [optD_some]
  rw [hz]
  simp only [optD_some]
  refine ⟨fun k hk => (hl k hk).2, fun b hb => ?_⟩
  obtain ⟨h1, h2, h3⟩ := addAllP_nk (ks := []) (nks := []) hz rfl
  have hm : ∀ k, k ∈ zs.foldl addK [] ↔ k ∈ zs := fun k => by rw [mem_foldK]; simp
  refine ⟨_, _, mset_same, h1, fun k hk => hl k ((hm k).mp hk), fun k hk l hl' => hc k ((hm k).mp hk) l ((hm l).mp hl'), fun c outx outk sk hc' => ?_⟩
  rw [mset_same]
  simp only [optD_some]
  exact ⟨trivial, q _ outx outk sk.nk (fun k => (sk.mem k).trans (hm k)) sk.srt (fun x hx => (h2 x (sk.sub x hx)).resolve_left (by simp)) (by rw [sk.len]; simpa using h3) (((e4.new2 ha').new2 hb).new2 hc')⟩
theorem wq : eqP (.str "num") (.str "fun") = false ∧ eqP (.str "fun") (.str "fun") = true ∧ eqP (.str "rec") (.str "fun") = false ∧ eqP (.str "var") (.str "fun") = false ∧ eqP (.str "any") (.str "fun") = false ∧ eqP (.str "none") (.str "fun") = false ∧
    eqP (.str "rec") (.str "rec") = true ∧ eqP (.str "var") (.str "rec") = false ∧ eqP (.str "rec") (.str "var") = false ∧ eqP (.str "var") (.str "var") = true := by decide +kernel
theorem up_labels : labels.Pairwise fun a b => a.cps.toList < b.cps.toList := by decide +kernel
theorem up_tags : tags.Pairwise fun a b => a.cps.toList < b.cps.toList := by decide +kernel
theorem nmUp_of {ps : List (Str × Nat)} {as : List Str} (he : ps.map (·.1) = as) (h : as.Pairwise fun a b => a.cps.toList < b.cps.toList) : NmUp ps := by unfold NmUp; rw [he]; exact h
theorem ite_both {c : Prop} [Decidable c] {A X : Prop} (a : A) (x : X) : if c then (A ∧ X) else X := by
  split
  · exact ⟨a, x⟩
  · exact x
theorem names_lc {S0 S : Mp} {d lc p1 : Addr} {r1 r2 r3 r4 r5 r6 : Option PV} {ns : List Str} {Q : DK} (dk : Deck d lc S) (ex : Ext S0 S) (d0 : S0 d = none) (lc0 : S0 lc = none) (p0 : S0 p1 = none) (n1 : d ≠ p1) (n2 : lc ≠ p1) (hn : ns.length ≤ 400)
    (q : ∀ (S' : Mp) (p2 : Addr) (as : List Str), as.Sublist ns → S' p2 = some (.lst (as.map PV.str)) → S' p1 = some (.lst (ns.map PV.str)) → p2 ≠ p1 → S0 p2 = none → Deck d lc S' → d ≠ p2 ∧ lc ≠ p2 → Ext S0 S' → Q (.loc p2) S') :
    lcR (dgName 6) (dTest (dOp dEqS (dCall G_law_draw (dCons (dVar 0) (dCons (dC (PV.int 2)) dNil))) (dC (PV.int 0)))) (dVar 6) [some (.loc d), r1, r2, r3, r4, r5, r6] [(p1, .lst (ns.map PV.str))] Q (ns.map PV.str) [] (ldP S p1 (ns.map PV.str)) := by
  refine lcR_inv (fun todo acc S1 => ∃ as ns', todo = ns'.map PV.str ∧ acc = as.map PV.str ∧ (as ++ ns').Sublist ns ∧ Deck d lc S1 ∧ Ext (mset S0 p1 (some (.rol (ns.map PV.str)))) S1) (fun x r acc S1 hI R hR => ?_) (fun acc S1 p2 hI h1 h2 => ?_) _ _ _
    ⟨[], ns, rfl, rfl, List.Sublist.refl _, dk.put n1 n2, ex.both⟩
  · obtain ⟨as, ns', e1, rfl, hs, dk1, ex1⟩ := hI
    cases ns' with
    | nil => cases e1
    | cons n ns' =>
      cases e1
      walk_at "D"
      refine ⟨_, d, lc, 2, rfl, by omega, by omega, dk1, ex1, by rw [mset_ne n1]; exact d0, by rw [mset_ne n2]; exact lc0, fun S2 v hv dk2 ex2 => ⟨rfl, ?_⟩⟩
      split
      · exact hR _ _ ⟨as ++ [n], ns', rfl, by simp, by simpa using hs, dk2, ex2⟩
      · exact hR _ _ ⟨as, ns', rfl, rfl, List.Sublist.trans (List.Sublist.append_left (List.sublist_cons_self _ _) _) hs, dk2, ex2⟩
  · obtain ⟨as, ns', e1, rfl, hs, dk1, ex1⟩ := hI
    cases ns' with
    | cons n ns' => cases e1
    | nil =>
    rw [List.append_nil] at hs
    simp only [bkS] at h2 ⊢
    have hp1 : (mset S1 p1 (some (.lst (ns.map PV.str)))) p1 = some (.lst (ns.map PV.str)) := mset_same
    have n12 : p1 ≠ p2 := ne_of hp1 h2
    have dk2 : Deck d lc (mset S1 p1 (some (.lst (ns.map PV.str)))) := dk1.put n1 n2
    have ex2 : Ext S0 (mset S1 p1 (some (.lst (ns.map PV.str)))) := fun a o h => by
      have na : a ≠ p1 := fun z => by rw [z, p0] at h; cases h
      rw [mset_ne na]
      exact ex1 _ _ (by rw [mset_ne na]; exact h)
    exact q _ p2 as hs mset_same (by rw [mset_ne n12]; exact hp1) (Ne.symm n12) (none_back ex2 h2) (dk2.new h2) (dk2.ne h2) (ex2.new2 h2)
theorem parts_lc {S0 S : Mp} {d lc p1 : Addr} {r2 r3 r4 r5 r6 : Option PV} {many : Nat} {ns : List Str} {Q : DK} (hm1 : 1 ≤ many) (hm2 : many ≤ 14) (dk : Deck d lc S) (ex : Ext S0 S) (d0 : S0 d = none) (lc0 : S0 lc = none) (p0 : S0 p1 = none) (nn : d ≠ p1 ∧ lc ≠ p1)
    (q : ∀ (S' : Mp) (p2 : Addr) (ps : List (Str × Nat)), ps.map (·.1) = ns → (∀ x ∈ ps, x.2 < many) → S' p2 = some (.lst (ps.map pvPart)) → Deck d lc S' → Ext S0 S' → Q (.loc p2) S') :
    lcR (dgName 6) dYes (dTup (dCons (dVar 6) (dCons (dCall G_law_draw (dCons (dVar 0) (dCons (dVar 1) dNil))) dNil))) [some (.loc d), some (.int many), r2, r3, r4, r5, r6] [(p1, .lst (ns.map PV.str))] Q (ns.map PV.str) [] (ldP S p1 (ns.map PV.str)) := by
  refine lcR_inv (fun todo acc S1 => ∃ ps ns', todo = ns'.map PV.str ∧ acc = ps.map pvPart ∧ ps.map (·.1) ++ ns' = ns ∧ (∀ x ∈ ps, x.2 < many) ∧ Deck d lc S1 ∧ Ext (mset S0 p1 (some (.rol (ns.map PV.str)))) S1) (fun x r acc S1 hI R hR => ?_) (fun acc S1 p2 hI h1 h2 => ?_) _ _ _
    ⟨[], ns, rfl, rfl, rfl, by simp, dk.put nn.1 nn.2, ex.both⟩
  · obtain ⟨ps, ns', e1, rfl, hs, hlt, dk1, ex1⟩ := hI
    cases ns' with
    | nil => cases e1
    | cons n ns' =>
      cases e1
      walk_at "D"
      refine ⟨_, d, lc, many, rfl, hm1, by omega, dk1, ex1, by rw [mset_ne nn.1]; exact d0, by rw [mset_ne nn.2]; exact lc0, fun S2 v hv dk2 ex2 => ⟨by decide, ?_⟩⟩
      refine hR _ _ ⟨ps ++ [(n, v)], ns', rfl, by simp [pvPart], by rw [← hs]; simp, fun x hx => ?_, dk2, ex2⟩
      rcases List.mem_append.mp hx with hx | hx
      · exact hlt x hx
      · obtain rfl := List.mem_singleton.mp hx; exact hv
  · obtain ⟨ps, ns', e1, rfl, hs, hlt, dk1, ex1⟩ := hI
    cases ns' with
    | cons n ns' => cases e1
    | nil =>
    rw [List.append_nil] at hs
    simp only [bkS] at h2 ⊢
    have dk2 : Deck d lc (mset S1 p1 (some (.lst (ns.map PV.str)))) := dk1.put nn.1 nn.2
    have ex2 : Ext S0 (mset S1 p1 (some (.lst (ns.map PV.str)))) := fun a o h => by
      have na : a ≠ p1 := fun z => by rw [z, p0] at h; cases h
      rw [mset_ne na]
      exact ex1 _ _ (by rw [mset_ne na]; exact h)
    exact q _ p2 ps hs hlt mset_same (dk2.new h2) (ex2.new2 h2)
def G_law_head : DSp := fun xs S Q => ∃ (S0 : Mp) (d lc : Addr) (many : Nat) (b : Bool), xs = [.loc d, .int many, .bl b] ∧ 1 ≤ many ∧ many ≤ 14 ∧ Deck d lc S ∧ Ext S0 S ∧ S0 d = none ∧ S0 lc = none ∧ ∀ S' h, GoodH many h → h ≠ (if b = true then .none else .any) → fewH h ≤ 3 → Deck d lc S' → Ext S0 S' → Q (pvH h) S'
theorem f_law_head {f : Addr} {fd : FuncData} (F : Fun K "_law_head" "_law_head" s__law_head f fd) (T : Txt K w mg fl ft) (C__law_draw : C8.Cal P w K mg base 1 "_law_draw" (spD K G_law_draw) []) (C__law_pick : C8.Cal P w K mg base 2 "_law_pick" (spD K G_law_pick) []) : FnOk P w K mg base CX0 (2+1) f fd ["deck", "many", "is_lower"] (spD K G_law_head) := by
  refine fnD F sc__law_head (fun xs S Q h => by obtain ⟨_, _, _, _, _, rfl, _⟩ := h; rfl) fun cdv A outer s H E hr => ?_
  refine ⟨_, (pss_cons (ps_set (i := 3) sc__law_head.nd rfl (Or.inl rfl) (C8.pe_c C__law_pick hr (by decide) (by rfl) (pa_cons (pv 0) (pa_cons (pe_lst (pa_cons pe_str (pa_cons pe_str (pa_cons pe_str (pa_cons pe_str (pa_cons pe_str (pa_cons pe_str (pa_cons (pe_ifExp (pt_val (pv 2)) pe_str pe_str) (pa_cons pe_str pa_nil))))))))) pa_nil))))
    (pss_cons (ps_if (pt_cmpR op_eq (pv 3) pe_str (nomark _)) (pss_one (ps_ret (pe_tup (pa_cons (pv 3) (pa_cons (C8.pe_c C__law_draw hr (by decide) (by rfl) (pa_cons (pv 0) (pa_cons (pv 1) pa_nil))) (pa_cons (C8.pe_c C__law_draw hr (by decide) (by rfl) (pa_cons (pv 0) (pa_cons (pv 1) pa_nil))) pa_nil)))))) pss_nil)
    (pss_cons (ps_if (pt_cmpR op_in_seq (pv 3) (pe_tup (pa_cons pe_str (pa_cons pe_str pa_nil))) (by rfl)) (pss_cons (ps_set (i := 4) sc__law_head.nd rfl (Or.inl rfl) (pe_ifExp (pt_cmpR op_eq (pv 3) pe_str (nomark _)) (pe_lst (pa_cons pe_str (pa_cons pe_str (pa_cons pe_str pa_nil)))) (pe_lst (pa_cons pe_str (pa_cons pe_str (pa_cons pe_str pa_nil))))))
    (pss_cons (ps_setLc (i := 5) (own := [("name", 6)]) rfl sc__law_head.nd rfl rfl (sw_true rfl rfl rfl (by decide +kernel)) (pi_list (pv 4)) (blkOk_by (N := sc__law_head_N) (sc := defScope s__law_head) (by decide +kernel)) (fun _ _ _ _ _ => pg_name (i := 6) sc__law_head.nd rfl (Or.inl rfl)) (fun _ _ _ _ _ => (pts_one (pt_cmpR op_eq (C8.pe_c C__law_draw hr (by decide) (by rfl) (pa_cons (pv 0) (pa_cons pe_int pa_nil))) pe_int (nomark _)))) (fun _ _ _ _ _ => (pv 6)))
    (pss_cons (ps_set (i := 5) sc__law_head.nd rfl (Or.inl rfl) (pe_ifExp (PW.pt (pw_and (pt_cmpR (op_eqD (room64 hr)) (pv 5) (pe_lst pa_nil) (nomark _)) (pw_and1 (pt_cmpR op_eq (pv 3) pe_str (nomark _))))) (pe_lst (pa_cons (C8.pe_c C__law_pick hr (by decide) (by rfl) (pa_cons (pv 0) (pa_cons (pv 4) pa_nil))) pa_nil)) (pv 5)))
    (pss_one (ps_ret (pe_tup (pa_cons (pv 3) (pa_cons (pe_callTy c_tupleF (by rfl) T.b_tuple bt_tuple (pa_cons (pe_lc (own := [("name", 6)]) (tt := tYes) rfl sc__law_head.nd (pi_list (pv 5)) (blkOk_by (N := sc__law_head_N) (sc := defScope s__law_head) (by decide +kernel)) (fun _ _ _ _ _ => pg_name (i := 6) sc__law_head.nd rfl (Or.inl rfl)) (fun _ _ _ _ _ => pts_nil) (fun _ _ _ _ _ => (pe_tup (pa_cons (pv 6) (pa_cons (C8.pe_c C__law_draw hr (by decide) (by rfl) (pa_cons (pv 0) (pa_cons (pv 1) pa_nil))) pa_nil))))) pa_nil)) pa_nil)))))))) pss_nil)
    (pss_one (ps_ret (pe_tup (pa_cons (pv 3) pa_nil))))))), ?_⟩
  try dsimp only [cxOf, Cx.nox, Cx.wish]
  refine ⟨_, inferInstance, ?_⟩
  rintro _ S Q ⟨S0, d, lc, many, b, rfl, hm1, hm2, dk, ex, d0, lc0, q⟩
  cases b <;> walk_at "D"
  all_goals
    refine ⟨by decide, fun p hp => ?_⟩
    have np := dk.ne hp
    refine ⟨S0, d, lc, p, _, rfl, mset_same, by simp, by simp, np.1, np.2, dk.new hp, ex.new2 hp, d0, lc0, fun S1 y hy dk1 ex1 _ => ?_⟩
    simp only [List.mem_cons, List.not_mem_nil, or_false] at hy
    have hy' : y = .str "num" ∨ y = .str "fun" ∨ y = .str "rec" ∨ y = .str "var" ∨ y = .str "any" ∨ y = .str "none" := by
      rcases hy with h | h | h | h | h | h | h | h <;> subst h <;> simp
    obtain ⟨q1, q2, q3, q4, q5, q6, q7, q8, q9, q10⟩ := wq
    obtain ⟨i1, i2, i3, i4, i5, i6⟩ := in_words2
    rcases hy' with rfl | rfl | rfl | rfl | rfl | rfl
    · refine ⟨rfl, ?_⟩
      simp only [q1, i1, id, Bool.false_eq_true, if_false]
      exact ⟨by decide, rfl, rfl, by decide, q S1 .num trivial (by simp) (by simp [fewH]) dk1 ex1⟩
    · refine ⟨rfl, ?_⟩
      simp only [q2, if_true]
      refine ⟨S0, d, lc, many, rfl, hm1, by omega, dk1, ex1, d0, lc0, fun S2 u hu dk2 ex2 => ?_⟩
      refine ⟨S0, d, lc, many, rfl, hm1, by omega, dk2, ex2, d0, lc0, fun S3 v hv dk3 ex3 => ?_⟩
      exact ⟨by decide, q S3 (.fn u v) ⟨hu, hv⟩ (by simp) (by simp [fewH]) dk3 ex3⟩
    · refine ⟨rfl, ?_⟩
      simp only [q3, i3, id, Bool.false_eq_true, if_false, if_true]
      refine ⟨by decide, rfl, rfl, rfl, ?_⟩
      simp only [q7, if_true]
      refine ⟨by decide, fun p hp => ⟨rfl, ?_⟩⟩
      rw [lr_same]
      simp only [optD_some]
      refine ⟨by decide, names_lc (ns := labels) (dk1.new hp) (ex1.new2 hp) d0 lc0 (none_back ex1 hp) (dk1.ne hp).1 (dk1.ne hp).2 (by decide) fun S2 p2 as hs h2 hp1 n12 p20 dk2 nn2 ex2 => ⟨Nat.zero_le _, fun p3 hp3 => ?_⟩⟩
      have n23 : p2 ≠ p3 := ne_of h2 hp3
      have h2' : (mset S2 p3 (some (.lst []))) p2 = some (.lst (as.map PV.str)) := by rw [mset_ne n23]; exact h2
      refine ne_nil_lst h2' (n := 0) (fun x hx => by obtain ⟨i, hi, rfl⟩ := List.mem_map.mp hx; exact dat_str (dat_names (List.mem_append_left _ (hs.subset hi)))) (by omega) mset_same id ?_
      simp only [q9, Bool.false_eq_true, if_false]
      have dk3 := dk2.new hp3 (o := some (.lst []))
      have ex3 := ex2.new2 hp3 (o := some (.lst []))
      generalize (mset S2 p3 (some (.lst []))) = S3 at h2' dk3 ex3
      refine ite_both rfl ⟨rfl, ?_⟩
      rw [lr_at h2']
      simp only [optD_some]
      have hl3 : as.length ≤ 3 := hs.length_le
      refine ⟨by rw [List.length_map, sizeLine_eq]; omega, parts_lc hm1 hm2 dk3 ex3 d0 lc0 p20 nn2 fun S4 p4 ps he hv h4 dk4 ex4 => ?_⟩
      dsimp only
      rw [h4]
      simp only [optD_some]
      have hsub : ∀ x ∈ ps, x.1 ∈ labels := fun x hx => hs.subset (he ▸ List.mem_map.mpr ⟨x, hx, rfl⟩)
      have hln : ps.length ≤ 3 := by rw [← List.length_map (f := (·.1)), he]; exact hl3
      exact ⟨by decide, q S4 (.rc ps) ⟨hsub, hv, nmUp_of he (up_labels.sublist hs), by omega⟩ (by simp) hln dk4 ex4⟩
    · refine ⟨rfl, ?_⟩
      simp only [q4, i4, id, Bool.false_eq_true, if_false, if_true]
      refine ⟨by decide, rfl, rfl, rfl, ?_⟩
      simp only [q8, Bool.false_eq_true, if_false]
      refine ⟨by decide, fun p hp => ⟨rfl, ?_⟩⟩
      rw [lr_same]
      simp only [optD_some]
      refine ⟨by decide, names_lc (ns := tags) (dk1.new hp) (ex1.new2 hp) d0 lc0 (none_back ex1 hp) (dk1.ne hp).1 (dk1.ne hp).2 (by decide) fun S2 p2 as hs h2 hp1 n12 p20 dk2 nn2 ex2 => ⟨Nat.zero_le _, fun p3 hp3 => ?_⟩⟩
      have n23 : p2 ≠ p3 := ne_of h2 hp3
      have h2' : (mset S2 p3 (some (.lst []))) p2 = some (.lst (as.map PV.str)) := by rw [mset_ne n23]; exact h2
      refine ne_nil_lst h2' (n := 0) (fun x hx => by obtain ⟨i, hi, rfl⟩ := List.mem_map.mp hx; exact dat_str (dat_names (List.mem_append_right _ (hs.subset hi)))) (by omega) mset_same id ?_
      have dk3 := dk2.new hp3 (o := some (.lst []))
      have ex3 := ex2.new2 hp3 (o := some (.lst []))
      have hp13 : (mset S2 p3 (some (.lst []))) p = some (.lst (tags.map PV.str)) := by rw [mset_ne (ne_of hp1 hp3)]; exact hp1
      generalize (mset S2 p3 (some (.lst []))) = S3 at h2' dk3 ex3 hp13
      dsimp only
      have hl3 : as.length ≤ 3 := hs.length_le
      by_cases has : as = []
      · subst has
        simp only [List.map_nil, decide_true, id, if_true]
        refine ⟨rfl, ?_⟩
        simp only [q10, if_true]
        refine ⟨S0, d, lc, p, _, rfl, hp13, by decide, by decide, (dk1.ne hp).1, (dk1.ne hp).2, dk3, ex3, d0, lc0, fun S4 y hy dk4 ex4 hp4 => ⟨by decide, fun p5 hp5 => ⟨rfl, ?_⟩⟩⟩
        obtain ⟨n, hn, rfl⟩ := List.mem_map.mp hy
        rw [lr_same]
        simp only [optD_some]
        refine ⟨by rw [sizeLine_eq]; simp, parts_lc (ns := [n]) hm1 hm2 (dk4.new hp5) (ex4.new2 hp5) d0 lc0 (none_back ex4 hp5) (dk4.ne hp5) fun S6 p6 ps he hv h6 dk6 ex6 => ?_⟩
        dsimp only
        rw [h6]
        simp only [optD_some]
        have hsub : ∀ x ∈ ps, x.1 ∈ tags := fun x hx => by
          have : x.1 ∈ [n] := he ▸ List.mem_map.mpr ⟨x, hx, rfl⟩
          rw [List.mem_singleton] at this
          rw [this]; exact hn
        have hln : ps.length = 1 := by rw [← List.length_map (f := (·.1)), he]; rfl
        exact ⟨by decide, q S6 (.vr ps) ⟨(fun z => by rw [z] at hln; cases hln), hsub, hv, nmUp_of he (List.pairwise_singleton _ _), by omega⟩ (by simp) (by simp only [fewH]; omega) dk6 ex6⟩
      · have hne : decide (as.map PV.str = []) = false := decide_eq_false (by simpa using has)
        simp only [hne, id, Bool.false_eq_true, if_false]
        refine ⟨rfl, ?_⟩
        rw [lr_at h2']
        simp only [optD_some]
        refine ⟨by rw [List.length_map, sizeLine_eq]; omega, parts_lc hm1 hm2 dk3 ex3 d0 lc0 p20 nn2 fun S4 p4 ps he hv h4 dk4 ex4 => ?_⟩
        dsimp only
        rw [h4]
        simp only [optD_some]
        have hsub : ∀ x ∈ ps, x.1 ∈ tags := fun x hx => hs.subset (he ▸ List.mem_map.mpr ⟨x, hx, rfl⟩)
        have hln : ps.length ≤ 3 := by rw [← List.length_map (f := (·.1)), he]; exact hl3
        exact ⟨by decide, q S4 (.vr ps) ⟨(fun z => by rw [z] at he; exact has he.symm), hsub, hv, nmUp_of he (up_tags.sublist hs), by omega⟩ (by simp) hln dk4 ex4⟩
    · refine ⟨rfl, ?_⟩
      simp only [q5, i5, id, Bool.false_eq_true, if_false]
      refine ⟨by decide, rfl, rfl, by decide, q S1 .any trivial (fun z => ?_) (by simp [fewH]) dk1 ex1⟩
      first
        | (simp at z; done)
        | (exact absurd hy (by simp only [PV.str.injEq]; decide +kernel))
    · refine ⟨rfl, ?_⟩
      simp only [q6, i6, id, Bool.false_eq_true, if_false]
      refine ⟨by decide, rfl, rfl, by decide, q S1 .none trivial (fun z => ?_) (by simp [fewH]) dk1 ex1⟩
      first
        | (simp at z; done)
        | (exact absurd hy (by simp only [PV.str.injEq]; decide +kernel))
end
end K06

namespace K06
open PySem PySem.Spec PyProof.Rows L2 DL
local macro_rules | `(tactic| walk_at "D") => `(tactic| simp only [dRet, dRetN, dNext, dSeq, dIfS, dDrop, dAsg, dgName, dgFld, dAndV, dOrV, dNotV, dAnd, dOr, dNot, dTest, dIf, dCB, dCons, dNil, dVar, getv, dC, sc, dChain, dOp, dUn, dI0, dI, dU, dEqS, dNeS, dIsi, dLen, dIx, dPart, dNoPart, dSl, dSlX, dCall, dAllC, dTup, dLst, dYes, dInSg, dInF, seqP, dLc, bkS, dFor, bkD, dIStr, dITup, dIZip, dIList, wipeD, dWGet, dCallA, dDictK, dDIn, dListC, dTupC, dDGet, dgTup, dgCons, dgNil, dPar, dPar3, dBM, dBM0, dAppend, dExtend, dPop, dty, dBits, dgSub, dSetL, dFld, dsFld, dMeth, dMake, dDGet1, dDSetd, dsDPut, dRevL, dPlus, dDisp, dPairs, dIEnum, dIEnumT, dIRng1, dIRng2, dIKeys, dLock, dTupF1, dTupF, dDictN, dSortN, dInN, dDcN, dInT, dIsN, dNotN, dIsB, dI2, dInt1, dRepr, dWhile, dDNewK, dAug, dBreak, dCont, dNever,
  startD, List.map_cons, List.map_nil, List.length_cons, List.length_nil, List.getElem?_cons_zero, List.getElem?_cons_succ, List.cons_append, List.nil_append, List.replicate, Nat.reduceAdd, Nat.reduceSub, List.set_cons_zero, List.set_cons_succ, isB, tyP, okTy, optD_some, optD_none, Option.isSome_some, true_and, and_true, if_true, if_false, Bool.false_eq_true, List.all_cons, List.all_nil, beq_self_eq_true, eqP_int, eqP_str, scal_int, scal_str, Bool.not_true, Bool.not_false, decide_true, decide_false])
/-! ### statements one after the other, by what holds between -/
theorem seq_inv {t u : DS} {D : DEnds} {ρ : DSt} {S : Mp} (I : DSt → Mp → Prop) (key : ∀ ρ S, I ρ S → u D ρ S) (h : ∀ N : DSt → Mp → Prop, (∀ ρ S, I ρ S → N ρ S) → t { D with nx := N } ρ S) : dSeq t u D ρ S := h (u D) key
theorem seq_inv2 {a b u : DS} {D : DEnds} {ρ : DSt} {S : Mp} (I : DSt → Mp → Prop) (key : ∀ ρ S, I ρ S → u D ρ S) (h : ∀ N : DSt → Mp → Prop, (∀ ρ S, I ρ S → N ρ S) → dSeq a b { D with nx := N } ρ S) : dSeq a (dSeq b u) D ρ S := h (u D) key
theorem seq_inv3 {a b c u : DS} {D : DEnds} {ρ : DSt} {S : Mp} (I : DSt → Mp → Prop) (key : ∀ ρ S, I ρ S → u D ρ S) (h : ∀ N : DSt → Mp → Prop, (∀ ρ S, I ρ S → N ρ S) → dSeq a (dSeq b c) { D with nx := N } ρ S) : dSeq a (dSeq b (dSeq c u)) D ρ S := h (u D) key
/-! ### draws change the deck alone -/
def cutS (S : Mp) (d lc : Addr) : Mp := fun a => if a = d ∨ a = lc then none else S a
theorem cut_ext {S : Mp} {d lc : Addr} : Ext (cutS S d lc) S := fun a o e => by
  unfold cutS at e
  split at e
  · cases e
  · exact e
theorem cut_d {S : Mp} {d lc : Addr} : cutS S d lc d = none := if_pos (.inl rfl)
theorem cut_lc {S : Mp} {d lc : Addr} : cutS S d lc lc = none := if_pos (.inr rfl)
theorem cut_B {S S1 : Mp} {d lc : Addr} (e : Ext (cutS S d lc) S1) : ExtB [d, lc] S S1 := fun a o h n => e a o (by
  unfold cutS
  rw [if_neg (fun z => n (by rcases z with z | z <;> simp [z]))]
  exact h)
theorem call_draw {S : Mp} {d lc : Addr} {m : Nat} {i : Int} {Q : DK} (dk : Deck d lc S) (ei : i = (m : Int)) (h1 : 1 ≤ m) (h2 : m ≤ 1000) (q : ∀ S' (v : Nat), v < m → Deck d lc S' → ExtB [d, lc] S S' → Q (.int v) S') : G_law_draw [.loc d, .int i] S Q := by
  subst ei
  exact ⟨cutS S d lc, d, lc, m, rfl, h1, h2, dk, cut_ext, cut_d, cut_lc, fun S' v hv dk' e => q S' v hv dk' (cut_B e)⟩
theorem call_pick {S : Mp} {d lc p : Addr} {ys : List PV} {Q : DK} (dk : Deck d lc S) (hp : S p = some (.lst ys)) (h1 : 1 ≤ ys.length) (h2 : ys.length ≤ 1000) (nn : d ≠ p ∧ lc ≠ p) (q : ∀ S' y, y ∈ ys → Deck d lc S' → ExtB [d, lc] S S' → Q y S') : G_law_pick [.loc d, .loc p] S Q :=
  ⟨cutS S d lc, d, lc, p, ys, rfl, hp, h1, h2, nn.1, nn.2, dk, cut_ext, cut_d, cut_lc, fun S' y hy dk' e _ => q S' y hy dk' (cut_B e)⟩
theorem call_head {S : Mp} {d lc : Addr} {m : Nat} {b : Bool} {Q : DK} (dk : Deck d lc S) (h1 : 1 ≤ m) (h2 : m ≤ 14) (q : ∀ S' h, GoodH m h → h ≠ (if b = true then .none else .any) → fewH h ≤ 3 → Deck d lc S' → ExtB [d, lc] S S' → Q (pvH h) S') : G_law_head [.loc d, .int m, .bl b] S Q :=
  ⟨cutS S d lc, d, lc, m, b, rfl, h1, h2, dk, cut_ext, cut_d, cut_lc, fun S' h g1 g2 g3 dk' e => q S' h g1 g2 g3 dk' (cut_B e)⟩
def LR (m : Nat) (bad : Hd) (rs : List (Nat × Hd)) : Prop := ∀ r ∈ rs, r.1 < m ∧ GoodH m r.2 ∧ r.2 ≠ bad ∧ fewH r.2 ≤ 3
def LE (m : Nat) (es : List (Nat × Nat)) : Prop := ∀ p ∈ es, p.1 < m ∧ p.2 < m
theorem LR.snoc {m : Nat} {bad : Hd} {rs : List (Nat × Hd)} {r : Nat × Hd} (h : LR m bad rs) (h2 : r.1 < m ∧ GoodH m r.2 ∧ r.2 ≠ bad ∧ fewH r.2 ≤ 3) : LR m bad (rs ++ [r]) := fun x hx => by
  rcases List.mem_append.mp hx with hx | hx
  · exact h x hx
  · obtain rfl := List.mem_singleton.mp hx; exact h2
theorem LE.snoc {m : Nat} {rs : List (Nat × Nat)} {r : Nat × Nat} (h : LE m rs) (h2 : r.1 < m ∧ r.2 < m) : LE m (rs ++ [r]) := fun x hx => by
  rcases List.mem_append.mp hx with hx | hx
  · exact h x hx
  · obtain rfl := List.mem_singleton.mp hx; exact h2
structure Fo (S : Mp) (d lc pl pu pe : Addr) (los ups : List (Nat × Hd)) (es : List (Nat × Nat)) (S1 : Mp) : Prop where
  dk : Deck d lc S1
  ex : ExtB [d, lc] S S1
  l : S1 pl = some (.lst (los.map pvRow))
  u : S1 pu = some (.lst (ups.map pvRow))
  e : S1 pe = some (.lst (es.map pvPr))
  l0 : S pl = none
  u0 : S pu = none
  e0 : S pe = none
  dl : d ≠ pl ∧ lc ≠ pl
  du : d ≠ pu ∧ lc ≠ pu
  de : d ≠ pe ∧ lc ≠ pe
  lu : pl ≠ pu
  le : pl ≠ pe
  ue : pu ≠ pe
theorem nin2 {d lc p : Addr} (h : d ≠ p ∧ lc ≠ p) : p ∉ [d, lc] := by
  simp only [List.mem_cons, List.not_mem_nil, or_false, not_or]
  exact ⟨Ne.symm h.1, Ne.symm h.2⟩
section
variable {S S1 S2 : Mp} {d lc pl pu pe : Addr} {los ups : List (Nat × Hd)} {es : List (Nat × Nat)}
theorem Fo.step (h : Fo S d lc pl pu pe los ups es S1) (dk : Deck d lc S2) (e : ExtB [d, lc] S1 S2) : Fo S d lc pl pu pe los ups es S2 :=
  ⟨dk, h.ex.trans e, e _ _ h.l (nin2 h.dl), e _ _ h.u (nin2 h.du), e _ _ h.e (nin2 h.de), h.l0, h.u0, h.e0, h.dl, h.du, h.de, h.lu, h.le, h.ue⟩
theorem Fo.setL {los' : List (Nat × Hd)} (h : Fo S d lc pl pu pe los ups es S1) : Fo S d lc pl pu pe los' ups es (mset S1 pl (some (.lst (los'.map pvRow)))) :=
  ⟨h.dk.put h.dl.1 h.dl.2, h.ex.put0 h.l0, mset_same, by rw [mset_ne (Ne.symm h.lu)]; exact h.u, by rw [mset_ne (Ne.symm h.le)]; exact h.e, h.l0, h.u0, h.e0, h.dl, h.du, h.de, h.lu, h.le, h.ue⟩
theorem Fo.setU {ups' : List (Nat × Hd)} (h : Fo S d lc pl pu pe los ups es S1) : Fo S d lc pl pu pe los ups' es (mset S1 pu (some (.lst (ups'.map pvRow)))) :=
  ⟨h.dk.put h.du.1 h.du.2, h.ex.put0 h.u0, by rw [mset_ne h.lu]; exact h.l, mset_same, by rw [mset_ne (Ne.symm h.ue)]; exact h.e, h.l0, h.u0, h.e0, h.dl, h.du, h.de, h.lu, h.le, h.ue⟩
theorem Fo.setE {es' : List (Nat × Nat)} (h : Fo S d lc pl pu pe los ups es S1) : Fo S d lc pl pu pe los ups es' (mset S1 pe (some (.lst (es'.map pvPr)))) :=
  ⟨h.dk.put h.de.1 h.de.2, h.ex.put0 h.e0, by rw [mset_ne h.le]; exact h.l, by rw [mset_ne h.ue]; exact h.u, mset_same, h.l0, h.u0, h.e0, h.dl, h.du, h.de, h.lu, h.le, h.ue⟩
theorem ExtB.back0 {L : List Addr} {S S1 : Mp} {p : Addr} (e : ExtB L S S1) (h : S1 p = none) (n : p ∉ L) : S p = none := by
  cases q : S p with
  | none => rfl
  | some o => rw [e p o q n] at h; cases h
/-- another list of lowers, uppers -/
theorem Fo.newL {los' : List (Nat × Hd)} {p : Addr} (h : Fo S d lc pl pu pe los ups es S1) (hp : S1 p = none) : Fo S d lc p pu pe los' ups es (mset S1 p (some (.lst (los'.map pvRow)))) := by
  have np := h.dk.ne hp
  have n1 := ne_of h.u hp
  have n2 := ne_of h.e hp
  exact ⟨h.dk.new hp, h.ex.ext (Ext.new hp), mset_same, by rw [mset_ne n1]; exact h.u, by rw [mset_ne n2]; exact h.e, h.ex.back0 hp (nin2 np), h.u0, h.e0, np, h.du, h.de, Ne.symm n1, Ne.symm n2, h.ue⟩
theorem Fo.newU {ups' : List (Nat × Hd)} {p : Addr} (h : Fo S d lc pl pu pe los ups es S1) (hp : S1 p = none) : Fo S d lc pl p pe los ups' es (mset S1 p (some (.lst (ups'.map pvRow)))) := by
  have np := h.dk.ne hp
  have n1 := ne_of h.l hp
  have n2 := ne_of h.e hp
  exact ⟨h.dk.new hp, h.ex.ext (Ext.new hp), by rw [mset_ne n1]; exact h.l, mset_same, by rw [mset_ne n2]; exact h.e, h.l0, h.ex.back0 hp (nin2 np), h.e0, h.dl, np, h.de, n1, h.le, Ne.symm n2⟩
theorem Fo.ext (h : Fo S d lc pl pu pe los ups es S1) (e : Ext S1 S2) : Fo S d lc pl pu pe los ups es S2 := h.step (by
  obtain ⟨cs, mx, dr, h1, h2, h3⟩ := h.dk
  exact ⟨cs, mx, dr, e _ _ h1, e _ _ h2, h3⟩) (toB e)
end
def ρG (d : Addr) (most m shape : Nat) (pl pu pe : Addr) (r : List (Option PV)) : DSt := some (.loc d) :: some (.int most) :: some (.int m) :: some (.int shape) :: some (.loc pl) :: some (.loc pu) :: some (.loc pe) :: r
def IG (S : Mp) (d lc : Addr) (most m shape n : Nat) (ρ : DSt) (S1 : Mp) : Prop := ∃ pl pu pe los ups es o7 o8 o9 o10 o11 o12, ρ = ρG d most m shape pl pu pe [o7, o8, o9, o10, o11, o12] ∧ Fo S d lc pl pu pe los ups es S1 ∧ LR m .none los ∧ LR m .any ups ∧ LE m es ∧ los.length ≤ 30 ∧ ups.length ≤ 30 ∧ es.length ≤ n
theorem row_at1 {a b : PV} : atI [a, b] 1 = some b := rfl
theorem _root_.DL.Ext.back {S S3 : Mp} {p : Addr} {ys : List PV} (hp : S p = some (.lst ys)) (e : Ext (ldP S p ys) S3) : Ext S (mset S3 p (some (.lst ys))) := fun b o h => by
  by_cases z : b = p
  · subst z; rw [mset_same]; rw [hp] at h; exact h
  · rw [mset_ne z]; exact e _ _ (by unfold ldP; rw [mset_ne z]; exact h)
theorem getv_set {ρ : DSt} {i : Nat} {x : PV} (h : i < ρ.length) : getv (ρ.set i (some x)) i = some x := by
  unfold getv; rw [List.getElem?_set_self h]
theorem dVar_set {ρ : DSt} {i : Nat} {x : PV} {S : Mp} {Q : DK} (h : i < ρ.length) (q : Q x S) : dVar i (ρ.set i (some x)) S Q := by
  unfold dVar; rw [getv_set h]; exact q
theorem filt_lc {ρw : DSt} {S : Mp} {p : Addr} {rs : List (Nat × Hd)} {Q : DK} {tt : DT} (c : Nat × Hd → Bool) (h9 : 9 < ρw.length) (hp : S p = some (.lst (rs.map pvRow)))
    (ht : ∀ r ∈ rs, ∀ (S1 : Mp) (R : Bool → Mp → Prop), R (c r) S1 → tt (ρw.set 9 (some (pvRow r))) S1 R)
    (q : ∀ S' a, Ext S S' → S' a = none → Q (.loc a) (mset S' a (some (.lst ((rs.filter c).map pvRow))))) :
    lcR (dgName 9) tt (dVar 9) ρw [(p, .lst (rs.map pvRow))] Q (rs.map pvRow) [] (ldP S p (rs.map pvRow)) := by
  refine lcR_inv (fun todo acc S1 => ∃ done todo', rs = done ++ todo' ∧ todo = todo'.map pvRow ∧ acc = (done.filter c).map pvRow ∧ Ext (ldP S p (rs.map pvRow)) S1) (fun x r acc S1 hI R hR => ?_) (fun acc S1 a hI h1 h2 => ?_) _ _ _
    ⟨[], rs, rfl, rfl, rfl, Ext.refl⟩
  · obtain ⟨done, todo', e1, e2, rfl, e3⟩ := hI
    cases todo' with
    | nil => cases e2
    | cons t todo' =>
      cases e2
      refine ht t (by rw [e1]; simp) S1 _ ?_
      by_cases hc : c t = true
      · rw [if_pos hc]
        refine dVar_set h9 (hR _ _ ⟨done ++ [t], todo', by rw [e1]; simp, rfl, ?_, e3⟩)
        rw [List.filter_append, List.map_append]
        simp [hc]
      · rw [if_neg hc]
        refine hR _ _ ⟨done ++ [t], todo', by rw [e1]; simp, rfl, ?_, e3⟩
        rw [List.filter_append, List.map_append]
        simp [hc]
  · obtain ⟨done, todo', e1, e2, rfl, e3⟩ := hI
    cases todo' with
    | cons t todo' => cases e2
    | nil =>
    rw [List.append_nil] at e1
    subst e1
    simp only [bkS] at h2 ⊢
    exact q _ a (Ext.back hp e3) h2
theorem LR.filt {m : Nat} {bad : Hd} {rs : List (Nat × Hd)} (c : Nat × Hd → Bool) (h : LR m bad rs) : LR m bad (rs.filter c) := fun r hr => h r (List.mem_filter.mp hr).1
def isRec (r : Nat × Hd) : Bool := decide (wordH r.2 = "rec")
def bare (r : Nat × Hd) : Nat × Hd := (r.1, .rc [])
theorem filt_sum {α : Type} (c : α → Bool) : ∀ l : List α, (l.filter fun x => !c x).length + (l.filter c).length = l.length
  | [] => rfl
  | x :: l => by
    have ih := filt_sum c l
    cases e : c x
    · simp [e]; omega
    · simp [e]; omega
theorem maps_back {α : Type} {f : α → PV} : ∀ {out : List PV} {xs : List α}, (∀ x ∈ out, x ∈ xs.map f) → ∃ l : List α, out = l.map f ∧ ∀ a ∈ l, a ∈ xs
  | [], xs, _ => ⟨[], rfl, fun _ h => absurd h (by simp)⟩
  | x :: out, xs, h => by
    obtain ⟨l, rfl, hl⟩ := maps_back fun y hy => h y (List.mem_cons_of_mem _ hy)
    obtain ⟨a, ha, rfl⟩ := List.mem_map.mp (h x List.mem_cons_self)
    exact ⟨a :: l, rfl, fun b hb => (List.mem_cons.mp hb).elim (fun e => e ▸ ha) (hl b)⟩
theorem rise_of {α : Type} {f : α → PV} {g : α → NestedKey} (hfg : ∀ a, toNK (f a) = some (g a)) (hl : ∀ a, Led (g a)) (hc : ∀ a b, Cmp (g a) (g b)) : ∀ {l : List α}, (l.map g).Pairwise (fun a b => ltT a b = true) → Rising (l.map f)
  | [], _ => trivial
  | [a], _ => trivial
  | a :: b :: r, h => by
    have h1 := List.pairwise_cons.mp h
    have h2 := h1.1 (g b) (by simp)
    refine ⟨⟨g a, g b, hfg a, hfg b, (hl a).2, (hl b).2, ?_⟩, rise_of hfg hl hc h1.2⟩
    obtain ⟨c, hcc⟩ := Option.isSome_iff_exists.mp (hc a b)
    have := ltNK_T hcc
    rw [h2] at this
    rw [hcc, ← this]
theorem call_rising {α : Type} {f : α → PV} {g : α → NestedKey} {S : Mp} {p : Addr} {xs : List α} {Q : DK} (hfg : ∀ a, toNK (f a) = some (g a)) (hT : ∀ a, isTupP (f a) = true) (hl : ∀ a, Led (g a)) (hc : ∀ a b, Cmp (g a) (g b)) (hp : S p = some (.lst (xs.map f))) (hlen : xs.length ≤ 1000)
    (q : ∀ (S' : Mp) (l : List α), (∀ a ∈ l, a ∈ xs) → (∀ a ∈ xs, g a ∈ l.map g) → (l.map g).Pairwise (fun a b => ltT a b = true) → Rising (l.map f) → l.length ≤ xs.length → Ext S S' → Q (.tup (l.map f)) S') : G_law_rising [.loc p] S Q := by
  refine ⟨p, xs.map f, xs.map g, rfl, hp, toNKs_map hfg xs, fun y hy => ?_, fun k hk => ?_, fun k hk l hl' => ?_, by rw [List.length_map]; exact hlen, fun S' outx outk h1 h2 h3 h4 h5 h6 => ?_⟩
  · obtain ⟨a, _, rfl⟩ := List.mem_map.mp hy; exact hT a
  · obtain ⟨a, _, rfl⟩ := List.mem_map.mp hk; exact hl a
  · obtain ⟨a, _, rfl⟩ := List.mem_map.mp hk
    obtain ⟨b, _, rfl⟩ := List.mem_map.mp hl'
    exact hc a b
  · obtain ⟨l, rfl, hl2⟩ := maps_back h4
    rw [toNKs_map hfg l] at h1
    cases h1
    exact q S' l hl2 (fun a ha => (h2 _).mpr (List.mem_map.mpr ⟨a, ha, rfl⟩)) h3 (rise_of hfg hl hc h3) (by rw [List.length_map, List.length_map] at h5; exact h5) h6
theorem ltT_pr {p q : Nat × Nat} : ltT (nkPr p) (nkPr q) = true ↔ p.1 < q.1 ∨ (p.1 = q.1 ∧ p.2 < q.2) := by
  simp only [nkPr, ltT, ltTs, NestedKey.beq, Bool.or_eq_true, Bool.and_eq_true, decide_eq_true_eq, beq_iff_eq, Bool.and_false, Bool.or_false]
  omega
theorem inc_len {N : Nat} : ∀ {l : List Nat} {k : Nat}, l.Pairwise (· < ·) → (∀ x ∈ l, k ≤ x ∧ x < N) → l.length ≤ N - k
  | [], _, _, _ => by simp
  | x :: l, k, h, hb => by
    have h1 := List.pairwise_cons.mp h
    have hx := hb x List.mem_cons_self
    have := inc_len (k := x + 1) h1.2 fun y hy => ⟨h1.1 y hy, (hb y (List.mem_cons_of_mem _ hy)).2⟩
    rw [List.length_cons]; omega
theorem goodE_of {m : Nat} {es : List (Nat × Nat)} (h : LE m es) (hp : (es.map nkPr).Pairwise (fun a b => ltT a b = true)) (hr : Rising (es.map pvPr)) : GoodE m es := by
  refine ⟨h, ?_, hr⟩
  have hq : (es.map fun p => p.1 * m + p.2).Pairwise (· < ·) := by
    rw [List.pairwise_map] at hp ⊢
    refine hp.imp_of_mem fun {a b} ha hb hab => ?_
    have l1 := h a ha
    have l2 := h b hb
    rcases ltT_pr.mp hab with h1 | ⟨h1, h2⟩
    · have : (a.1 + 1) * m ≤ b.1 * m := Nat.mul_le_mul_right _ h1
      rw [Nat.succ_mul] at this
      omega
    · rw [h1]; omega
  have := inc_len (N := m * m) (k := 0) hq fun x hx => by
    obtain ⟨p, hp, rfl⟩ := List.mem_map.mp hx
    have l1 := h p hp
    have : (p.1 + 1) * m ≤ m * m := Nat.mul_le_mul_right _ l1.1
    rw [Nat.succ_mul] at this
    exact ⟨Nat.zero_le _, by omega⟩
  simpa using this
def IA (S : Mp) (d lc : Addr) (most m shape n : Nat) (ρ : DSt) (S1 : Mp) : Prop := ∃ pl pu pe pa los ups es as o7 o8 o9 o10 o11, ρ = ρG d most m shape pl pu pe [o7, o8, o9, o10, o11, some (.loc pa)] ∧ Fo S d lc pl pu pe los ups es S1 ∧ S1 pa = some (.lst (as.map pvPr)) ∧ (d ≠ pa ∧ lc ≠ pa) ∧ LR m .none los ∧ LR m .any ups ∧ LE m es ∧ LE m as ∧ los.length ≤ 30 ∧ ups.length ≤ 30 ∧ es.length ≤ 29 ∧ as.length ≤ n
theorem dat_pr (p : Nat × Nat) : Dat 1 (pvPr p) := dat_tup fun x hx => by
  rcases List.mem_cons.mp hx with rfl | hx
  · exact dat_int _
  · obtain rfl := List.mem_singleton.mp hx; exact dat_int _
section
variable {P : Program} {w : World} {K : PySem.W.Frag} {mg : Str → Option Value} {base : Heap} {fl ft : Addr}
def G_law_graph : DSp := fun xs S Q => ∃ (d lc : Addr) (most : Nat), xs = [.loc d, .int most] ∧ 1 ≤ most ∧ most ≤ 14 ∧ Deck d lc S ∧ ∀ S' g, GoodG g → Deck d lc S' → ExtB [d, lc] S S' → Q (pvG g) S'
theorem f_law_graph {f : Addr} {fd : FuncData} (F : Fun K "_law_graph" "_law_graph" s__law_graph f fd) (T : Txt K w mg fl ft) (C__law_draw : C8.Cal P w K mg base 1 "_law_draw" (spD K G_law_draw) []) (C__law_pick : C8.Cal P w K mg base 2 "_law_pick" (spD K G_law_pick) []) (C__law_head : C8.Cal P w K mg base 3 "_law_head" (spD K G_law_head) []) (C__law_rising : C8.Cal P w K mg base 1 "_law_rising" (spD K G_law_rising) []) : FnOk P w K mg base CX0 (3+1) f fd ["deck", "most"] (spD K G_law_graph) := by
  refine fnD F sc__law_graph (fun xs S Q h => by obtain ⟨_, _, _, rfl, _⟩ := h; rfl) fun cdv A outer s H E hr => ?_
  refine ⟨_, (pss_cons (ps_asg (pe_tup (pa_cons (pe_op op_plus pe_int (C8.pe_c C__law_draw hr (by decide) (by rfl) (pa_cons (pv 0) (pa_cons (pv 1) pa_nil)))) (pa_cons (C8.pe_c C__law_draw hr (by decide) (by rfl) (pa_cons (pv 0) (pa_cons pe_int pa_nil))) pa_nil))) (pgK (K := K) (n := 2) (pgs_cons (pg_name (i := 2) sc__law_graph.nd rfl (Or.inr rfl)) (pgs_cons (pg_name (i := 3) sc__law_graph.nd rfl (Or.inl rfl)) pgs_nil))))
    (pss_cons (ps_asg (pe_tup (pa_cons (pe_lst pa_nil) (pa_cons (pe_lst pa_nil) (pa_cons (pe_lst pa_nil) pa_nil)))) (pgK (K := K) (n := 3) (pgs_cons (pg_name (i := 4) sc__law_graph.nd rfl (Or.inl rfl)) (pgs_cons (pg_name (i := 5) sc__law_graph.nd rfl (Or.inl rfl)) (pgs_cons (pg_name (i := 6) sc__law_graph.nd rfl (Or.inr rfl)) pgs_nil)))))
    (pss_cons (ps_for PassesOwn.never rfl (pi_range1 (by rfl) T.b_range (pa_cons (pe_op op_plus pe_int (C8.pe_c C__law_draw hr (by decide) (by rfl) (pa_cons (pv 0) (pa_cons (pe_op op_plus pe_int (pe_op op_mul pe_int (pv 2))) pa_nil)))) pa_nil)) (pg_name (i := 7) sc__law_graph.nd rfl (Or.inl rfl)) (pss_cons (ps_expr (pe_bm PySem.F.plainAttrs_list PySem.F.slot_list_append PySem.F.type_list_append mt_append (pv 4) (pa_cons (pe_tup (pa_cons (C8.pe_c C__law_draw hr (by decide) (by rfl) (pa_cons (pv 0) (pa_cons (pv 2) pa_nil))) (pa_cons (C8.pe_c C__law_head hr (by decide) (by rfl) (pa_cons (pv 0) (pa_cons (pv 2) (pa_cons pe_bl pa_nil)))) pa_nil))) pa_nil)))
    (pss_one (ps_expr (pe_bm PySem.F.plainAttrs_list PySem.F.slot_list_append PySem.F.type_list_append mt_append (pv 5) (pa_cons (pe_tup (pa_cons (C8.pe_c C__law_draw hr (by decide) (by rfl) (pa_cons (pv 0) (pa_cons (pv 2) pa_nil))) (pa_cons (C8.pe_c C__law_head hr (by decide) (by rfl) (pa_cons (pv 0) (pa_cons (pv 2) (pa_cons pe_bl pa_nil)))) pa_nil))) pa_nil))))))
    (pss_cons (ps_if (pt_cmpR op_gt (pv 3) pe_int (nomark _)) (pss_cons (ps_set (i := 8) sc__law_graph.nd rfl (Or.inr rfl) (C8.pe_c C__law_pick hr (by decide) (by rfl) (pa_cons (pv 0) (pa_cons (pe_lst (pa_cons pe_str (pa_cons pe_str (pa_cons pe_str (pa_cons pe_str pa_nil))))) pa_nil))))
    (pss_cons (ps_setLc (i := 4) (own := [("it", 9)]) rfl sc__law_graph.nd rfl rfl (sw_true rfl rfl rfl (by decide +kernel)) (pi_list (pv 4)) (blkOk_by (N := sc__law_graph_N) (sc := defScope s__law_graph) (by decide +kernel)) (fun _ _ _ _ _ => pg_name (i := 9) sc__law_graph.nd rfl (Or.inl rfl)) (fun _ _ _ _ _ => (pts_one (pt_cmpR op_eq (pe_ix (ixK (K := K)) (pe_ix (ixK (K := K)) (pv 9) pe_int (fun _ _ => rfl)) pe_int (fun _ _ => rfl)) (pv 8) (nomark _)))) (fun _ _ _ _ _ => (pv 9)))
    (pss_one (ps_setLc (i := 5) (own := [("it", 9)]) rfl sc__law_graph.nd rfl rfl (sw_true rfl rfl rfl (by decide +kernel)) (pi_list (pv 5)) (blkOk_by (N := sc__law_graph_N) (sc := defScope s__law_graph) (by decide +kernel)) (fun _ _ _ _ _ => pg_name (i := 9) sc__law_graph.nd rfl (Or.inl rfl)) (fun _ _ _ _ _ => (pts_one (pt_cmpR op_eq (pe_ix (ixK (K := K)) (pe_ix (ixK (K := K)) (pv 9) pe_int (fun _ _ => rfl)) pe_int (fun _ _ => rfl)) (pv 8) (nomark _)))) (fun _ _ _ _ _ => (pv 9)))))) pss_nil)
    (pss_cons (ps_if (pt_cmpR op_eq (pv 3) pe_int (nomark _)) (pss_one (ps_set (i := 5) sc__law_graph.nd rfl (Or.inl rfl) (pe_op op_plus (pe_lc (own := [("it", 9)]) rfl sc__law_graph.nd (pi_list (pv 5)) (blkOk_by (N := sc__law_graph_N) (sc := defScope s__law_graph) (by decide +kernel)) (fun _ _ _ _ _ => pg_name (i := 9) sc__law_graph.nd rfl (Or.inl rfl)) (fun _ _ _ _ _ => (pts_one (pt_cmpR op_ne (pe_ix (ixK (K := K)) (pe_ix (ixK (K := K)) (pv 9) pe_int (fun _ _ => rfl)) pe_int (fun _ _ => rfl)) pe_str (nomark _)))) (fun _ _ _ _ _ => (pv 9))) (pe_lc (own := [("node", 10), ("head", 11)]) rfl sc__law_graph.nd (pi_list (pv 5)) (blkOk_by (N := sc__law_graph_N) (sc := defScope s__law_graph) (by decide +kernel)) (fun _ _ _ _ _ => pgK (K := K) (n := 2) (pgs_cons (pg_name (i := 10) sc__law_graph.nd rfl (Or.inl rfl)) (pgs_cons (pg_name (i := 11) sc__law_graph.nd rfl (Or.inl rfl)) pgs_nil))) (fun _ _ _ _ _ => (pts_one (pt_cmpR op_eq (pe_ix (ixK (K := K)) (pv 11) pe_int (fun _ _ => rfl)) pe_str (nomark _)))) (fun _ _ _ _ _ => (pe_tup (pa_cons (pv 10) (pa_cons (pe_tup (pa_cons pe_str (pa_cons (pe_tupF pa_nil) pa_nil))) pa_nil)))))))) pss_nil)
    (pss_cons (ps_for PassesOwn.never rfl (pi_range1 (by rfl) T.b_range (pa_cons (pe_op op_plus pe_int (C8.pe_c C__law_draw hr (by decide) (by rfl) (pa_cons (pv 0) (pa_cons (pe_op op_plus (pe_op op_mul pe_int (pv 2)) pe_int) pa_nil)))) pa_nil)) (pg_name (i := 7) sc__law_graph.nd rfl (Or.inl rfl)) (pss_one (ps_expr (pe_bm PySem.F.plainAttrs_list PySem.F.slot_list_append PySem.F.type_list_append mt_append (pv 6) (pa_cons (pe_tup (pa_cons (C8.pe_c C__law_draw hr (by decide) (by rfl) (pa_cons (pv 0) (pa_cons (pv 2) pa_nil))) (pa_cons (C8.pe_c C__law_draw hr (by decide) (by rfl) (pa_cons (pv 0) (pa_cons (pv 2) pa_nil))) pa_nil))) pa_nil)))))
    (pss_cons (ps_set (i := 12) sc__law_graph.nd rfl (Or.inl rfl) (pe_ifExp (PW.pt (pw_and (pt_cmpR (op_neD (room64 hr)) (pv 6) (pe_lst pa_nil) (nomark _)) (pw_and1 (pt_cmpR op_eq (C8.pe_c C__law_draw hr (by decide) (by rfl) (pa_cons (pv 0) (pa_cons pe_int pa_nil))) pe_int (nomark _))))) (pe_lc (own := [("turn", 7)]) (tt := tYes) rfl sc__law_graph.nd (pi_range1 (by rfl) T.b_range (pa_cons (C8.pe_c C__law_draw hr (by decide) (by rfl) (pa_cons (pv 0) (pa_cons pe_int pa_nil))) pa_nil)) (blkOk_by (N := sc__law_graph_N) (sc := defScope s__law_graph) (by decide +kernel)) (fun _ _ _ _ _ => pg_name (i := 7) sc__law_graph.nd rfl (Or.inl rfl)) (fun _ _ _ _ _ => pts_nil) (fun _ _ _ _ _ => (C8.pe_c C__law_pick hr (by decide) (by rfl) (pa_cons (pv 0) (pa_cons (pv 6) pa_nil))))) (pe_lst pa_nil)))
    (pss_cons (ps_set (i := 12) sc__law_graph.nd rfl (Or.inl rfl) (pe_op op_plus (pv 12) (pe_lc (own := [("turn", 7)]) (tt := tYes) rfl sc__law_graph.nd (pi_range1 (by rfl) T.b_range (pa_cons (pe_op op_fdiv (C8.pe_c C__law_draw hr (by decide) (by rfl) (pa_cons (pv 0) (pa_cons pe_int pa_nil))) pe_int) pa_nil)) (blkOk_by (N := sc__law_graph_N) (sc := defScope s__law_graph) (by decide +kernel)) (fun _ _ _ _ _ => pg_name (i := 7) sc__law_graph.nd rfl (Or.inl rfl)) (fun _ _ _ _ _ => pts_nil) (fun _ _ _ _ _ => (pe_tup (pa_cons (C8.pe_c C__law_draw hr (by decide) (by rfl) (pa_cons (pv 0) (pa_cons (pv 2) pa_nil))) (pa_cons (C8.pe_c C__law_draw hr (by decide) (by rfl) (pa_cons (pv 0) (pa_cons (pv 2) pa_nil))) pa_nil)))))))
    (pss_one (ps_ret (pe_tup (pa_cons (pv 2) (pa_cons (C8.pe_c C__law_rising hr (by decide) (by rfl) (pa_cons (pv 4) pa_nil)) (pa_cons (C8.pe_c C__law_rising hr (by decide) (by rfl) (pa_cons (pv 5) pa_nil)) (pa_cons (C8.pe_c C__law_rising hr (by decide) (by rfl) (pa_cons (pv 6) pa_nil)) (pa_cons (C8.pe_c C__law_rising hr (by decide) (by rfl) (pa_cons (pv 12) pa_nil)) pa_nil)))))))))))))))), ?_⟩
  try dsimp only [cxOf, Cx.nox, Cx.wish]
  refine ⟨_, inferInstance, ?_⟩
  rintro _ S Q ⟨d, lc, most, rfl, hm1, hm2, dk, q⟩
  refine seq_inv3 (fun ρ S1 => ∃ m shape, 1 ≤ m ∧ m ≤ 14 ∧ IG S d lc most m shape 0 ρ S1) (fun ρ S1 h => ?_) (fun N hN => ?_)
  · obtain ⟨m, shape, h1', h14, hI⟩ := h
    refine seq_inv (IG S d lc most m shape 0) (fun ρ S1 h => ?_) (fun N hN => ?_)
    · refine seq_inv (IG S d lc most m shape 0) (fun ρ S1 h => ?_) (fun N hN => ?_)
      · clear hI
        refine seq_inv (IG S d lc most m shape 29) (fun ρ S1 h => ?_) (fun N hN => ?_)
        · refine seq_inv (IA S d lc most m shape 2) (fun ρ S1 h => ?_) (fun N hN => ?_)
          · refine seq_inv (IA S d lc most m shape 9) (fun ρ S1 h => ?_) (fun N hN => ?_)
            · obtain ⟨pl, pu, pe, pa, los, ups, es, as, o7, o8, o9, o10, o11, rfl, f1, pa1, na, a1, a2, a3, a4, b1, b2, b3, b4⟩ := h
              unfold ρG
              walk_at "D"
              refine call_rising toNK_row (fun _ => rfl) led_row cmp_row f1.l (by omega) fun S2 los' l1 _ _ l4 l5 e2 => ?_
              have f2 := f1.ext e2
              refine call_rising toNK_row (fun _ => rfl) led_row cmp_row f2.u (by omega) fun S3 ups' u1 _ _ u4 u5 e3 => ?_
              have f3 := f2.ext e3
              refine call_rising toNK_pr (fun _ => rfl) led_pr cmp_pr f3.e (by omega) fun S4 es' v1 _ v3 v4 v5 e4 => ?_
              have f4 := f3.ext e4
              refine call_rising toNK_pr (fun _ => rfl) led_pr cmp_pr (e4 _ _ (e3 _ _ (e2 _ _ pa1))) (by omega) fun S5 as' w1 _ w3 w4 w5 e5 => ⟨by decide, ?_⟩
              have f5 := f4.ext e5
              refine q S5 ⟨m, los', ups', es', as'⟩ ⟨by show los'.length ≤ 30; omega, by show ups'.length ≤ 30; omega, fun r hr => (a1 r (l1 r hr)).2.2.2, h1', h14, ⟨fun r hr => ⟨(a1 r (l1 r hr)).1, (a1 r (l1 r hr)).2.1, (a1 r (l1 r hr)).2.2.1⟩, by show los'.length ≤ 1000; omega, l4⟩,
                ⟨fun r hr => ⟨(a2 r (u1 r hr)).1, (a2 r (u1 r hr)).2.1, (a2 r (u1 r hr)).2.2.1⟩, by show ups'.length ≤ 1000; omega, u4⟩, goodE_of (fun p hp => a3 p (v1 p hp)) v3 v4, goodE_of (fun p hp => a4 p (w1 p hp)) w3 w4⟩ f5.dk f5.ex
            · rename_i h
              obtain ⟨pl, pu, pe, pa, los, ups, es, as, o7, o8, o9, o10, o11, rfl, f1, pa1, na, a1, a2, a3, a4, b1, b2, b3, b4⟩ := h
              unfold ρG
              walk_at "D"
              refine ⟨rfl, ?_⟩
              refine call_draw (m := 3) f1.dk rfl (by omega) (by omega) fun S2 n hn dk2 ex2 => ?_
              dsimp only
              have hn9 : (rngP 0 ((n : Int) / 2).toNat).length ≤ 1 := by rw [rngP_length]; omega
              refine ⟨⟨by decide, by decide⟩, by omega, by omega, by rw [sizeLine_eq]; omega, ?_⟩
              refine lcR_inv (fun todo acc S1 => ∃ bs, acc = bs.map pvPr ∧ Fo S d lc pl pu pe los ups es S1 ∧ S1 pa = some (.lst (as.map pvPr)) ∧ LE m bs ∧ todo.length + bs.length ≤ 1) (fun x r acc S1 hI R hR => ?_) (fun acc S1 a hI h1 h2 => ?_) _ _ _
                ⟨[], rfl, f1.step dk2 ex2, ex2 _ _ pa1 (nin2 na), fun _ h => absurd h (by simp), by simpa using hn9⟩
              · obtain ⟨bs, rfl, f3, pa3, c1, c2⟩ := hI
                rw [List.length_cons] at c2
                walk_at "D"
                refine call_draw f3.dk rfl h1' (by omega) fun S7 v hv dk7 ex7 => ?_
                refine call_draw dk7 rfl h1' (by omega) fun S8 u hu dk8 ex8 => ⟨by decide, ?_⟩
                refine hR _ _ ⟨bs ++ [(v, u)], by simp [pvPr], (f3.step dk7 ex7).step dk8 ex8, ex8 _ _ (ex7 _ _ pa3 (nin2 na)) (nin2 na), c1.snoc ⟨hv, hu⟩, ?_⟩
                rw [List.length_append, List.length_singleton]; omega
              · obtain ⟨bs, rfl, f3, pa3, c1, c2⟩ := hI
                simp only [bkS]
                have npa := ne_of pa3 h1
                rw [lst_at (S := mset S1 a _) (by rw [mset_ne npa]; exact pa3), lst_same]
                simp only [optD_some]
                rw [← List.map_append]
                simp only [List.length_nil, Nat.zero_add] at c2
                refine ⟨by rw [List.length_map, List.length_map, sizeLine_eq]; omega, fun l hl => ?_⟩
                have f4 := f3.ext (Ext.new h1 (o := some (.lst (bs.map pvPr))))
                have nl := f4.dk.ne hl
                refine hN _ _ ⟨pl, pu, pe, l, los, ups, es, as ++ bs, _, _, _, _, _, rfl, f4.ext (Ext.new hl), mset_same, nl, a1, a2, a3, fun p hp => (List.mem_append.mp hp).elim (a4 p) (c1 p), b1, b2, b3, by rw [List.length_append]; omega⟩
          · rename_i h
            obtain ⟨pl, pu, pe, los, ups, es, o7, o8, o9, o10, o11, o12, rfl, f1, a1, a2, a3, b1, b2, b3⟩ := h
            unfold ρG
            walk_at "D"
            have empty : ∀ S2, Fo S d lc pl pu pe los ups es S2 → 0 ≤ sizeLine ∧ ∀ (p : Addr), S2 p = none → N [some (PV.loc d), some (PV.int ↑most), some (PV.int ↑m), some (PV.int ↑shape), some (PV.loc pl), some (PV.loc pu), some (PV.loc pe), o7, o8, o9, o10, o11, some (.loc p)] (mset S2 p (some (.lst []))) := fun S2 f2 => ⟨by decide, fun p hp => by
              have nl := f2.dk.ne hp
              exact hN _ _ ⟨pl, pu, pe, p, los, ups, es, [], _, _, _, _, _, rfl, f2.ext (Ext.new hp), mset_same, nl, a1, a2, a3, fun _ h => absurd h (by simp), b1, b2, b3, by simp⟩⟩
            refine ⟨by decide, fun p hp => ?_⟩
            have np := ne_of f1.e hp
            have f2 := f1.ext (Ext.new hp (o := some (.lst [])))
            refine ne_nil_lst f2.e (n := 1) (fun x hx => by obtain ⟨i, hi, rfl⟩ := List.mem_map.mp hx; exact dat_pr i) (by omega) mset_same not ?_
            generalize (mset S1 p (some (.lst []))) = S3 at f2
            dsimp only
            split
            · rename_i hne
              refine call_draw (m := 3) f2.dk rfl (by omega) (by omega) fun S4 n hn dk4 ex4 => ⟨rfl, ?_⟩
              have f4 := f2.step dk4 ex4
              split
              · refine ⟨rfl, ?_⟩
                refine call_draw (m := 3) dk4 rfl (by omega) (by omega) fun S5 n hn dk5 ex5 => ?_
                have f5 := f4.step dk5 ex5
                have hn9 : (rngP 0 (n : Int).toNat).length ≤ 2 := by rw [rngP_length]; omega
                dsimp only
                refine ⟨by omega, by omega, by rw [sizeLine_eq]; omega, ?_⟩
                refine lcR_inv (fun todo acc S1 => ∃ bs, acc = bs.map pvPr ∧ Fo S d lc pl pu pe los ups es S1 ∧ LE m bs ∧ todo.length + bs.length ≤ 2) (fun x r acc S1 hI R hR => ?_) (fun acc S1 a hI h1 h2 => ?_) _ _ _
                  ⟨[], rfl, f5, fun _ h => absurd h (by simp), by simpa using hn9⟩
                · obtain ⟨bs, rfl, f3, c1, c2⟩ := hI
                  rw [List.length_cons] at c2
                  walk_at "D"
                  have hpos : 1 ≤ (es.map pvPr).length := by
                    cases es with
                    | nil => simp at hne
                    | cons => simp
                  refine call_pick f3.dk f3.e hpos (by rw [List.length_map]; omega) f3.de fun S6 y hy dk6 ex6 => ?_
                  obtain ⟨p, hp, rfl⟩ := List.mem_map.mp hy
                  refine hR _ _ ⟨bs ++ [p], by simp, f3.step dk6 ex6, c1.snoc (a3 p hp), ?_⟩
                  rw [List.length_append, List.length_singleton]; omega
                · obtain ⟨bs, rfl, f3, c1, c2⟩ := hI
                  simp only [bkS]
                  simp only [List.length_nil, Nat.zero_add] at c2
                  have nl := f3.dk.ne h1
                  exact hN _ _ ⟨pl, pu, pe, a, los, ups, es, bs, _, _, _, _, _, rfl, f3.ext (Ext.new h1), mset_same, nl, a1, a2, a3, c1, b1, b2, b3, c2⟩
              · exact empty S4 f4
            · exact empty S3 f2
        · rename_i h
          obtain ⟨pl, pu, pe, los, ups, es, o7, o8, o9, o10, o11, o12, rfl, f1, a1, a2, a3, b1, b2, b3⟩ := h
          unfold ρG
          walk_at "D"
          refine ⟨.inl ⟨by decide, by decide⟩, ?_⟩
          refine call_draw (m := 2 * m + 1) f1.dk (by omega) (by omega) (by omega) fun S2 n hn dk2 ex2 => ?_
          dsimp only
          refine ⟨by omega, by omega, ?_⟩
          have hn29 : (rngP 0 (1 + (n : Int)).toNat).length ≤ 29 := by rw [rngP_length]; omega
          refine forR_inv (fun r ρ S1 => ∃ es o7, ρ = ρG d most m shape pl pu pe [o7, o8, o9, o10, o11, o12] ∧ Fo S d lc pl pu pe los ups es S1 ∧ LE m es ∧ r.length + es.length ≤ 29) (fun x r ρ S1 hI N2 hN2 => ?_) (fun ρ S1 hI => ?_) _ _ _
            ⟨es, o7, rfl, f1.step dk2 ex2, a3, by omega⟩
          · obtain ⟨es, o7, rfl, f1, h1, h3⟩ := hI
            rw [List.length_cons] at h3
            unfold ρG
            walk_at "D"
            refine ⟨.inl ⟨_, f1.e⟩, ?_⟩
            refine call_draw f1.dk rfl h1' (by omega) fun S7 v hv dk7 ex7 => ?_
            refine call_draw dk7 rfl h1' (by omega) fun S8 u hu dk8 ex8 => ⟨by decide, ?_⟩
            have f8 := (f1.step dk7 ex7).step dk8 ex8
            rw [lst_at f8.e]
            simp only [optD_some]
            have ea : es.map pvPr ++ [PV.tup [.int (v : Int), .int (u : Int)]] = (es ++ [(v, u)]).map pvPr := by simp [pvPr]
            rw [ea]
            refine ⟨by rw [List.length_map, sizeLine_eq]; omega, hN2 _ _ ⟨_, _, rfl, f8.setE, h1.snoc ⟨hv, hu⟩, ?_⟩⟩
            rw [List.length_append, List.length_singleton]; omega
          · obtain ⟨es, o7, rfl, f1, h1, h3⟩ := hI
            exact hN _ _ ⟨pl, pu, pe, los, ups, es, _, _, _, _, _, _, rfl, f1, a1, a2, h1, b1, b2, by simpa using h3⟩
      · clear hI
        obtain ⟨pl, pu, pe, los, ups, es, o7, o8, o9, o10, o11, o12, rfl, f1, a1, a2, a3, b1, b2, b3⟩ := h
        unfold ρG
        walk_at "D"
        split
        · refine ⟨rfl, ?_⟩
          rw [lr_at f1.u]
          simp only [optD_some]
          refine ⟨by rw [List.length_map, sizeLine_eq]; omega, ?_⟩
          refine filt_lc (fun r => !isRec r) (by simp) f1.u (fun r hr S1 R hR => ?_) fun S2 pa ea hpa => ?_
          · unfold pvRow
            rw [pvH_eq]
            walk_at "D"
            rw [row_at1]
            simp only [optD_some]
            rw [at0]
            simp only [optD_some, scal_str, eqP_str, true_and]
            exact hR
          have u2 := ea _ _ f1.u
          have hua : pu ≠ pa := ne_of u2 hpa
          have f2 := f1.ext (ea.new2 hpa (o := some (.lst ((ups.filter fun r => !isRec r).map pvRow))))
          have a2' : (mset S2 pa (some (.lst ((ups.filter fun r => !isRec r).map pvRow)))) pa = some (.lst ((ups.filter fun r => !isRec r).map pvRow)) := mset_same
          generalize (mset S2 pa (some (.lst ((ups.filter fun r => !isRec r).map pvRow)))) = S3 at f2 a2'
          refine ⟨rfl, ?_⟩
          rw [lr_at f2.u]
          simp only [optD_some]
          refine ⟨by rw [List.length_map, sizeLine_eq]; omega, ?_⟩
          refine lcR_inv (fun todo acc S1 => ∃ done todo', ups = done ++ todo' ∧ todo = todo'.map pvRow ∧ acc = ((done.filter isRec).map bare).map pvRow ∧ Ext (ldP S3 pu (ups.map pvRow)) S1) (fun x r acc S1 hI R hR => ?_) (fun acc S1 pb hI h1 h2 => ?_) _ _ _
            ⟨[], ups, rfl, rfl, rfl, Ext.refl⟩
          · obtain ⟨done, todo', e1, e2, rfl, e3⟩ := hI
            cases todo' with
            | nil => cases e2
            | cons t todo' =>
              cases e2
              unfold pvRow
              rw [pvH_eq]
              walk_at "D"
              rw [at0]
              simp only [optD_some, scal_str, eqP_str, true_and]
              rw [show decide (wordH t.snd = Str.ofString "rec") = isRec t from rfl]
              by_cases hc : isRec t = true
              · rw [if_pos hc]
                refine ⟨by decide, by decide, by decide, hR _ _ ⟨done ++ [t], todo', by rw [e1]; simp, rfl, ?_, e3⟩⟩
                rw [List.filter_append]
                simp [hc, pvRow, bare, pvH, pvParts]
              · rw [if_neg hc]
                refine hR _ _ ⟨done ++ [t], todo', by rw [e1]; simp, rfl, ?_, e3⟩
                rw [List.filter_append]
                simp [hc, pvRow]
          · obtain ⟨done, todo', e1, e2, rfl, e3⟩ := hI
            cases todo' with
            | cons t todo' => cases e2
            | nil =>
            rw [List.append_nil] at e1
            subst e1
            simp only [bkS] at h2 ⊢
            have e4 := Ext.back f2.u e3
            have f3 := f2.ext e4
            have pa3 := e4 _ _ a2'
            generalize (mset S1 pu (some (.lst (ups.map pvRow)))) = S4 at h2 f3 pa3
            have nab := ne_of pa3 h2
            have f4 := f3.ext (Ext.new h2 (o := some (.lst (((ups.filter isRec).map bare).map pvRow))))
            have pa4 : (mset S4 pb (some (.lst (((ups.filter isRec).map bare).map pvRow)))) pa = some (.lst ((ups.filter fun r => !isRec r).map pvRow)) := by rw [mset_ne nab]; exact pa3
            have pb4 : (mset S4 pb (some (.lst (((ups.filter isRec).map bare).map pvRow)))) pb = some (.lst (((ups.filter isRec).map bare).map pvRow)) := mset_same
            generalize (mset S4 pb (some (.lst (((ups.filter isRec).map bare).map pvRow)))) = S5 at f4 pa4 pb4
            rw [lst_at pa4]
            simp only [optD_some]
            rw [lst_at pb4]
            simp only [optD_some]
            have hsum := filt_sum isRec ups
            rw [← List.map_append]
            refine ⟨by rw [List.length_map, List.length_map, List.length_map, sizeLine_eq]; omega, fun l hl => ?_⟩
            have f5 := f4.newU hl (ups' := (ups.filter fun r => !isRec r) ++ (ups.filter isRec).map bare)
            refine hN _ _ ⟨pl, l, pe, _, _, es, _, _, _, _, _, _, rfl, f5, a1, ?_, a3, b1, by rw [List.length_append, List.length_map]; omega, b3⟩
            intro r hr
            rcases List.mem_append.mp hr with hr | hr
            · exact a2.filt _ r hr
            · obtain ⟨t, ht, rfl⟩ := List.mem_map.mp hr
              exact ⟨(a2 t (List.mem_filter.mp ht).1).1, ⟨by simp, by simp, List.Pairwise.nil, by simp⟩, by simp [bare], by simp [bare, fewH]⟩
        · exact hN _ _ ⟨pl, pu, pe, los, ups, es, _, _, _, _, _, _, rfl, f1, a1, a2, a3, b1, b2, b3⟩
    · obtain ⟨pl, pu, pe, los, ups, es, o7, o8, o9, o10, o11, o12, rfl, f1, a1, a2, a3, b1, b2, b3⟩ := hI
      unfold ρG
      walk_at "D"
      split
      · refine ⟨by decide, fun p hp => ?_⟩
        have f2 := f1.ext (Ext.new hp (o := some (.lst [PV.str "fun", PV.str "rec", PV.str "num", PV.str "var"])))
        refine call_pick f2.dk mset_same (by decide) (by decide) (f1.dk.ne hp) fun S3 y hy dk3 ex3 => ⟨rfl, ?_⟩
        have hw : ∃ wd : Str, y = .str wd := by
          simp only [List.mem_cons, List.not_mem_nil, or_false] at hy
          rcases hy with h | h | h | h <;> exact ⟨_, h⟩
        obtain ⟨wd, rfl⟩ := hw
        have f3 := f2.step dk3 ex3
        clear f2 hy
        rw [lr_at f3.l]
        simp only [optD_some]
        refine ⟨by rw [List.length_map, sizeLine_eq]; omega, ?_⟩
        refine filt_lc (fun r => decide (wordH r.2 = wd)) (by simp) f3.l (fun r hr S1 R hR => ?_) fun S4 pa ea hpa => ?_
        · unfold pvRow
          rw [pvH_eq]
          walk_at "D"
          rw [row_at1]
          simp only [optD_some]
          rw [at0]
          simp only [optD_some, scal_str, eqP_str, true_and]
          exact hR
        have f4 := (f3.ext ea).newL hpa (los' := los.filter fun r => decide (wordH r.2 = wd))
        generalize (mset S4 pa (some (.lst ((los.filter fun r => decide (wordH r.2 = wd)).map pvRow)))) = S5 at f4
        refine ⟨rfl, ?_⟩
        rw [lr_at f4.u]
        simp only [optD_some]
        refine ⟨by rw [List.length_map, sizeLine_eq]; omega, ?_⟩
        refine filt_lc (fun r => decide (wordH r.2 = wd)) (by simp) f4.u (fun r hr S1 R hR => ?_) fun S6 pb eb hpb => ?_
        · unfold pvRow
          rw [pvH_eq]
          walk_at "D"
          rw [row_at1]
          simp only [optD_some]
          rw [at0]
          simp only [optD_some, scal_str, eqP_str, true_and]
          exact hR
        have f5 := (f4.ext eb).newU hpb (ups' := ups.filter fun r => decide (wordH r.2 = wd))
        have c1 := List.length_filter_le (fun r : Nat × Hd => decide (wordH r.2 = wd)) los
        have c2 := List.length_filter_le (fun r : Nat × Hd => decide (wordH r.2 = wd)) ups
        exact hN _ _ ⟨pa, pb, pe, _, _, es, _, _, _, _, _, _, rfl, f5, a1.filt _, a2.filt _, a3, by omega, by omega, b3⟩
      · exact hN _ _ ⟨pl, pu, pe, los, ups, es, _, _, _, _, _, _, rfl, f1, a1, a2, a3, b1, b2, b3⟩
  · walk_at "D"
    refine call_draw dk rfl hm1 (by omega) fun S1 m1 hl1 dk1 ex1 => ?_
    dsimp only
    refine call_draw (m := 5) dk1 rfl (by omega) (by omega) fun S2 shape hl2 dk2 ex2 => ⟨by decide, ?_⟩
    refine ⟨by decide, fun pl hpl => ⟨by decide, fun pu hpu => ⟨by decide, fun pe hpe => ⟨by decide, ?_⟩⟩⟩⟩
    have em : (1 + (m1 : Int)) = ((1 + m1 : Nat) : Int) := by omega
    rw [em]
    have hm14 : 1 + m1 ≤ 14 := by omega
    have hm0 : 1 ≤ 1 + m1 := by omega
    generalize 1 + m1 = m at hm14 hm0
    have e2 : ExtB [d, lc] S S2 := ex1.trans ex2
    have l3 : (mset S2 pl (some (.lst []))) pl = some (.lst []) := mset_same
    have dk3 := dk2.new hpl (o := some (.lst []))
    have e3 := e2.ext (Ext.new hpl (o := some (.lst [])))
    have nl := dk2.ne hpl
    have pl0 := e2.back0 hpl (nin2 nl)
    generalize (mset S2 pl (some (.lst []))) = S3 at l3 dk3 e3 hpu hpe
    have lu := ne_of l3 hpu
    have l4 : (mset S3 pu (some (.lst []))) pl = some (.lst []) := by rw [mset_ne lu]; exact l3
    have u4 : (mset S3 pu (some (.lst []))) pu = some (.lst []) := mset_same
    have dk4 := dk3.new hpu (o := some (.lst []))
    have e4 := e3.ext (Ext.new hpu (o := some (.lst [])))
    have nu := dk3.ne hpu
    have pu0 := e3.back0 hpu (nin2 nu)
    generalize (mset S3 pu (some (.lst []))) = S4 at l4 u4 dk4 e4 hpe
    have le := ne_of l4 hpe
    have ue := ne_of u4 hpe
    have f0 : Fo S d lc pl pu pe [] [] [] (mset S4 pe (some (.lst []))) :=
      ⟨dk4.new hpe, e4.ext (Ext.new hpe), by rw [mset_ne le]; exact l4, by rw [mset_ne ue]; exact u4, mset_same, pl0, pu0, e4.back0 hpe (nin2 (dk4.ne hpe)), nl, nu, dk4.ne hpe, lu, le, ue⟩
    generalize (mset S4 pe (some (.lst []))) = S5 at f0
    refine ⟨.inl ⟨by decide, by decide⟩, ?_⟩
    refine call_draw (m := 2 + 2 * m) f0.dk (by omega) (by omega) (by omega) fun S6 n hn dk6 ex6 => ?_
    dsimp only
    refine ⟨by omega, by omega, ?_⟩
    have hn30 : (rngP 0 (1 + (n : Int)).toNat).length ≤ 30 := by rw [rngP_length]; omega
    refine forR_inv (fun r ρ S1 => ∃ los ups o7, ρ = ρG d most m shape pl pu pe [o7, none, none, none, none, none] ∧ Fo S d lc pl pu pe los ups [] S1 ∧ LR m .none los ∧ LR m .any ups ∧ r.length + los.length ≤ 30 ∧ r.length + ups.length ≤ 30) (fun x r ρ S1 hI N2 hN2 => ?_) (fun ρ S1 hI => ?_) _ _ _
      ⟨[], [], none, rfl, f0.step dk6 ex6, fun _ h => absurd h (by simp), fun _ h => absurd h (by simp), by simpa using hn30, by simpa using hn30⟩
    · obtain ⟨los, ups, o7, rfl, f1, h1, h2, h3, h4⟩ := hI
      rw [List.length_cons] at h3 h4
      unfold ρG
      walk_at "D"
      refine ⟨.inl ⟨_, f1.l⟩, ?_⟩
      refine call_draw f1.dk rfl hm0 (by omega) fun S7 v hv dk7 ex7 => ?_
      refine call_head dk7 hm0 hm14 fun S8 hd g1 g2 g3 dk8 ex8 => ⟨by decide, ?_⟩
      have f8 := (f1.step dk7 ex7).step dk8 ex8
      rw [lst_at f8.l]
      simp only [optD_some]
      have ea : los.map pvRow ++ [PV.tup [.int (v : Int), pvH hd]] = (los ++ [(v, hd)]).map pvRow := by simp [pvRow]
      rw [ea]
      have f9 := f8.setL (los' := los ++ [(v, hd)])
      generalize (mset S8 pl (some (.lst ((los ++ [(v, hd)]).map pvRow)))) = S9 at f9 ⊢
      refine ⟨by rw [List.length_map, sizeLine_eq]; omega, .inl ⟨_, f9.u⟩, ?_⟩
      refine call_draw f9.dk rfl hm0 (by omega) fun S10 v2 hv2 dk10 ex10 => ?_
      refine call_head dk10 hm0 hm14 fun S11 hd2 g4 g5 g6 dk11 ex11 => ⟨by decide, ?_⟩
      have f11 := (f9.step dk10 ex10).step dk11 ex11
      rw [lst_at f11.u]
      simp only [optD_some]
      have eb : ups.map pvRow ++ [PV.tup [.int (v2 : Int), pvH hd2]] = (ups ++ [(v2, hd2)]).map pvRow := by simp [pvRow]
      rw [eb]
      have f12 := f11.setU (ups' := ups ++ [(v2, hd2)])
      refine ⟨by rw [List.length_map, sizeLine_eq]; omega, hN2 _ _ ⟨_, _, _, rfl, f12, h1.snoc ⟨hv, g1, g2, g3⟩, h2.snoc ⟨hv2, g4, g5, g6⟩, ?_, ?_⟩⟩
      · rw [List.length_append, List.length_singleton]; omega
      · rw [List.length_append, List.length_singleton]; omega
    · obtain ⟨los, ups, o7, rfl, f1, h1, h2, h3, h4⟩ := hI
      exact hN _ _ ⟨m, shape, hm0, hm14, pl, pu, pe, los, ups, [], _, _, _, _, _, _, rfl, f1, h1, h2, fun _ h => absurd h (by simp), by simpa using h3, by simpa using h4, by simp⟩
end
end K06

namespace K06
open PySem PySem.Spec PyProof.Rows L2 DL
local macro_rules | `(tactic| walk_at "D") => `(tactic| simp only [dRet, dRetN, dNext, dSeq, dIfS, dDrop, dAsg, dgName, dgFld, dAndV, dOrV, dNotV, dAnd, dOr, dNot, dTest, dIf, dCB, dCons, dNil, dVar, getv, dC, sc, dChain, dOp, dUn, dI0, dI, dU, dEqS, dNeS, dIsi, dLen, dIx, dPart, dNoPart, dSl, dSlX, dCall, dAllC, dTup, dLst, dYes, dInSg, dInF, seqP, dLc, bkS, dFor, bkD, dIStr, dITup, dIZip, dIList, wipeD, dWGet, dCallA, dDictK, dDIn, dListC, dTupC, dDGet, dgTup, dgCons, dgNil, dPar, dPar3, dBM, dBM0, dAppend, dExtend, dPop, dty, dBits, dgSub, dSetL, dFld, dsFld, dMeth, dMake, dDGet1, dDSetd, dsDPut, dRevL, dPlus, dDisp, dPairs, dIEnum, dIEnumT, dIRng1, dIRng2, dIKeys, dLock, dTupF1, dTupF, dDictN, dSortN, dInN, dDcN, dInT, dIsN, dNotN, dIsB, dI2, dInt1, dRepr, dWhile, dDNewK, dAug, dBreak, dCont, dNever,
  startD, List.map_cons, List.map_nil, List.length_cons, List.length_nil, List.getElem?_cons_zero, List.getElem?_cons_succ, List.cons_append, List.nil_append, List.replicate, Nat.reduceAdd, Nat.reduceSub, List.set_cons_zero, List.set_cons_succ, isB, tyP, okTy, optD_some, optD_none, Option.isSome_some, true_and, and_true, if_true, if_false, Bool.false_eq_true, List.all_cons, List.all_nil, beq_self_eq_true, eqP_int, eqP_str, scal_int, scal_str, Bool.not_true, Bool.not_false, decide_true, decide_false])
/-! ### the law's own meeting -/
def pvSh (t : PV × Nat × Nat) : PV := .tup [t.1, .tup [.int t.2.1, .int t.2.2]]
theorem getv_ne {ρ : DSt} {i j : Nat} {x : Option PV} (h : i ≠ j) : getv (ρ.set i x) j = getv ρ j := by unfold getv; rw [List.getElem?_set_ne h]
theorem dVar_of {ρ : DSt} {i : Nat} {x : PV} {S : Mp} {Q : DK} (h : getv ρ i = some x) : dVar i ρ S Q = Q x S := by unfold dVar; rw [h]
theorem filtG {α : Type} {f : α → PV} {ρw : DSt} {S : Mp} {i : Nat} {xs : List α} {Q : DK} {tt : DT} {lk : Lk} (c : α → Bool) (h9 : i < ρw.length)
    (ht : ∀ r ∈ xs, ∀ (S1 : Mp), Ext S S1 → ∀ (R : Bool → Mp → Prop), R (c r) S1 → tt (ρw.set i (some (f r))) S1 R)
    (q : ∀ S' a, Ext S S' → S' a = none → bkS lk S' a = none → Q (.loc a) (mset (bkS lk S') a (some (.lst ((xs.filter c).map f))))) :
    lcR (dgName i) tt (dVar i) ρw lk Q (xs.map f) [] S := by
  refine lcR_inv (fun todo acc S1 => ∃ done todo', xs = done ++ todo' ∧ todo = todo'.map f ∧ acc = (done.filter c).map f ∧ Ext S S1) (fun x r acc S1 hI R hR => ?_) (fun acc S1 a hI h1 h2 => ?_) _ _ _
    ⟨[], xs, rfl, rfl, rfl, Ext.refl⟩
  · obtain ⟨done, todo', e1, e2, rfl, e3⟩ := hI
    cases todo' with
    | nil => cases e2
    | cons t todo' =>
      cases e2
      refine ht t (by rw [e1]; simp) S1 e3 _ ?_
      by_cases hc : c t = true
      · rw [if_pos hc]
        refine dVar_set h9 (hR _ _ ⟨done ++ [t], todo', by rw [e1]; simp, rfl, ?_, e3⟩)
        rw [List.filter_append, List.map_append]
        simp [hc]
      · rw [if_neg hc]
        refine hR _ _ ⟨done ++ [t], todo', by rw [e1]; simp, rfl, ?_, e3⟩
        rw [List.filter_append, List.map_append]
        simp [hc]
  · obtain ⟨done, todo', e1, e2, rfl, e3⟩ := hI
    cases todo' with
    | cons t todo' => cases e2
    | nil =>
    rw [List.append_nil] at e1
    subst e1
    exact q _ a e3 h1 h2
def nmP (p : Str × Nat) : PV := .str p.1
theorem keysOf_kvS (ps : List (Str × Nat)) : keysOf (kvS ps) = ps.map nmP := by
  unfold keysOf kvS
  rw [List.map_map]
  rfl
theorem lkS_self : ∀ {ps : List (Str × Nat)}, NmUp ps → ∀ p ∈ ps, lkS ps p.1 = some p.2
  | [], _, p, h => by cases h
  | a :: ps, hu, p, h => by
    have h1 := List.pairwise_cons.mp (show ((a :: ps).map (·.1)).Pairwise _ from hu)
    unfold lkS
    rcases List.mem_cons.mp h with rfl | h
    · rw [List.find?_cons_of_pos (by simp)]; rfl
    · have : a.1 ≠ p.1 := fun e => by
        have : a.1.cps.toList < p.1.cps.toList := h1.1 p.1 (List.mem_map.mpr ⟨p, h, rfl⟩)
        rw [e] at this
        exact List.lt_irrefl _ this
      rw [List.find?_cons_of_neg (by simp [this])]
      exact lkS_self h1.2 p h
theorem all_filt (c : Str × Nat → Bool) (qs : List (Str × Nat)) : decide ((qs.filter fun q => !c q).map nmP = []) = qs.all c := by
  rw [Bool.eq_iff_iff, decide_eq_true_eq, List.map_eq_nil_iff, List.filter_eq_nil_iff, List.all_eq_true]
  simp
/-- a locked dict is let go behind a new object -/
theorem unlock_ext {S S1 : Mp} {p a : Addr} {kvs : List (Key × PV)} {o : MO} (hp : S p = some (.dk kvs)) (e : Ext (mset S p (some (.rdk kvs))) S1) (ha : S1 a = none) : Ext S (mset (mset S1 a (some o)) p (some (.dk kvs))) ∧ S a = none ∧ (mset (mset S1 a (some o)) p (some (.dk kvs))) a = some o := by
  have na : p ≠ a := ne_of (e _ _ mset_same) ha
  refine ⟨fun b u h => ?_, ?_, by rw [mset_ne (Ne.symm na), mset_same]⟩
  · by_cases z : b = p
    · subst z; rw [mset_same, ← hp]; exact h
    · rw [mset_ne z]
      have h5 := e _ _ (show (mset S p (some (.rdk kvs))) b = some u by rw [mset_ne z]; exact h)
      rw [mset_ne (ne_of h5 ha)]; exact h5
  · cases z : S a with
    | none => rfl
    | some u =>
      have h5 := e _ _ (show (mset S p (some (.rdk kvs))) a = some u by rw [mset_ne (Ne.symm na)]; exact z)
      rw [ha] at h5; cases h5
theorem share_lc {wi : Nat} {ρ : DSt} {ps qs : List (Str × Nat)} {wd : Str} {p p1 : Addr} {S : Mp} {Q : DK} (h5 : 5 < ρ.length) (nw : 5 ≠ wi) (hw : getv ρ wi = some (.str wd)) (h2 : getv ρ 2 = some (.loc p)) (h3 : getv ρ 3 = some (.loc p1)) (hu : NmUp ps)
    (hp : S p = some (.rdk (kvS ps))) (hp1 : S p1 = some (.dk (kvS qs)))
    (q : ∀ S' a, Ext S S' → S' a = none → Q (.loc a) (mset S' a (some (.lst ((meetS wd ps qs).map pvSh))))) :
    lcR (dgName 5) (dTest (dDIn id (dVar 5) (dVar 3))) (dTup (dCons (dTup (dCons (dVar wi) (dCons (dVar 5) dNil))) (dCons (dTup (dCons (dDGet (dVar 2) (dVar 5)) (dCons (dDGet (dVar 3) (dVar 5)) dNil))) dNil))) ρ [] Q (keysOf (kvS ps)) [] S := by
  rw [keysOf_kvS]
  refine lcR_inv (fun todo acc S1 => ∃ done todo', ps = done ++ todo' ∧ todo = todo'.map nmP ∧ acc = (meetS wd done qs).map pvSh ∧ Ext S S1) (fun x r acc S1 hI R hR => ?_) (fun acc S1 a hI h1 h2 => ?_) _ _ _
    ⟨[], ps, rfl, rfl, rfl, Ext.refl⟩
  · obtain ⟨done, todo', e1, e2, rfl, e3⟩ := hI
    cases todo' with
    | nil => cases e2
    | cons t todo' =>
      cases e2
      have g5 : getv (ρ.set 5 (some (nmP t))) 5 = some (.str t.1) := getv_set h5
      have g2 : getv (ρ.set 5 (some (nmP t))) 2 = some (.loc p) := by rw [getv_ne (by decide)]; exact h2
      have g3 : getv (ρ.set 5 (some (nmP t))) 3 = some (.loc p1) := by rw [getv_ne (by decide)]; exact h3
      have gw : getv (ρ.set 5 (some (nmP t))) wi = some (.str wd) := by rw [getv_ne nw]; exact hw
      show dTest (dDIn id (dVar 5) (dVar 3)) (ρ.set 5 (some (nmP t))) S1 _
      simp only [dTest, dDIn, dDGet, dTup, dCons, dNil, dVar_of g5, dVar_of g2, dVar_of g3, dVar_of gw, atD_at (e3 _ _ hp1), atD_rat (e3 _ _ hp), optD_some, lkP_kvS, Option.isSome_map, id, lkS_self hu t (by rw [e1]; simp), Option.map_some, List.length_cons, List.length_nil]
      cases el : lkS qs t.1 with
      | none =>
        simp only [Option.isSome_none, Bool.false_eq_true, if_false]
        refine hR _ _ ⟨done ++ [t], todo', by rw [e1]; simp, rfl, ?_, e3⟩
        simp [meetS, el]
      | some v =>
        simp only [Option.isSome_some, if_true, Option.map_some, optD_some]
        refine ⟨by decide, by decide, by decide, hR _ _ ⟨done ++ [t], todo', by rw [e1]; simp, rfl, ?_, e3⟩⟩
        simp [meetS, el, pvSh, whyN]
  · obtain ⟨done, todo', e1, e2, rfl, e3⟩ := hI
    cases todo' with
    | cons t todo' => cases e2
    | nil =>
    rw [List.append_nil] at e1
    subst e1
    exact q _ a e3 h1
theorem in_words4 : inV (unsc (.str "num")) [unsc (.str "num"), unsc (.str "fun"), unsc (.str "rec"), unsc (.str "var")] = true ∧ inV (unsc (.str "fun")) [unsc (.str "num"), unsc (.str "fun"), unsc (.str "rec"), unsc (.str "var")] = true ∧ inV (unsc (.str "rec")) [unsc (.str "num"), unsc (.str "fun"), unsc (.str "rec"), unsc (.str "var")] = true ∧
    inV (unsc (.str "var")) [unsc (.str "num"), unsc (.str "fun"), unsc (.str "rec"), unsc (.str "var")] = true ∧ inV (unsc (.str "any")) [unsc (.str "num"), unsc (.str "fun"), unsc (.str "rec"), unsc (.str "var")] = false ∧ inV (unsc (.str "none")) [unsc (.str "num"), unsc (.str "fun"), unsc (.str "rec"), unsc (.str "var")] = false := by decide +kernel
section
variable {P : Program} {w : World} {K : PySem.W.Frag} {mg : Str → Option Value} {base : Heap} {fl ft : Addr}
def G_law_meeting : DSp := fun xs S Q => ∃ (h k : Hd) (m : Nat), xs = [pvH h, pvH k] ∧ GoodH m h ∧ GoodH m k ∧ (clashH h k = true → ∀ S', Ext S S' → Q .non S') ∧ (clashH h k = false → ∀ S' p, Ext S S' → S p = none → S' p = some (.lst ((flowsH h k).map pvSh)) → Q (.loc p) S')
theorem f_law_meeting {f : Addr} {fd : FuncData} (F : Fun K "_law_meeting" "_law_meeting" s__law_meeting f fd) (T : Txt K w mg fl ft) : FnOk P w K mg base CX0 (0+1) f fd ["h", "k"] (spD K G_law_meeting) := by
  refine fnD F sc__law_meeting (fun xs S Q h => by obtain ⟨_, _, _, rfl, _⟩ := h; rfl) fun cdv A outer s H E hr => ?_
  refine ⟨_, (pss_cons (ps_if (PW.pt (pw_or (pt_cmpR op_ne (pe_ix (ixK (K := K)) (pv 0) pe_int (fun _ _ => rfl)) (pe_ix (ixK (K := K)) (pv 1) pe_int (fun _ _ => rfl)) (nomark _)) (pw_or1 (pt_cmpR op_notIn_seq (pe_ix (ixK (K := K)) (pv 0) pe_int (fun _ _ => rfl)) (pe_tup (pa_cons pe_str (pa_cons pe_str (pa_cons pe_str (pa_cons pe_str pa_nil))))) (by rfl))))) (pss_one (ps_ret pe_non)) pss_nil)
    (pss_cons (ps_if (pt_cmpR op_eq (pe_ix (ixK (K := K)) (pv 0) pe_int (fun _ _ => rfl)) pe_str (nomark _)) (pss_one (ps_ret (pe_lst pa_nil))) pss_nil)
    (pss_cons (ps_if (pt_cmpR op_eq (pe_ix (ixK (K := K)) (pv 0) pe_int (fun _ _ => rfl)) pe_str (nomark _)) (pss_one (ps_ret (pe_lst (pa_cons (pe_tup (pa_cons (pe_tup (pa_cons pe_str pa_nil)) (pa_cons (pe_tup (pa_cons (pe_ix (ixK (K := K)) (pv 1) pe_int (fun _ _ => rfl)) (pa_cons (pe_ix (ixK (K := K)) (pv 0) pe_int (fun _ _ => rfl)) pa_nil))) pa_nil))) (pa_cons (pe_tup (pa_cons (pe_tup (pa_cons pe_str pa_nil)) (pa_cons (pe_tup (pa_cons (pe_ix (ixK (K := K)) (pv 0) pe_int (fun _ _ => rfl)) (pa_cons (pe_ix (ixK (K := K)) (pv 1) pe_int (fun _ _ => rfl)) pa_nil))) pa_nil))) pa_nil))))) pss_nil)
    (pss_cons (ps_asg (pe_tup (pa_cons (pe_callTy (c_dictK rfl) (by rfl) T.b_dict bt_dict (pa_cons (pe_callTy c_list (by rfl) T.b_list bt_list (pa_cons (pe_ix (ixK (K := K)) (pv 0) pe_int (fun _ _ => rfl)) pa_nil)) pa_nil)) (pa_cons (pe_callTy (c_dictK rfl) (by rfl) T.b_dict bt_dict (pa_cons (pe_callTy c_list (by rfl) T.b_list bt_list (pa_cons (pe_ix (ixK (K := K)) (pv 1) pe_int (fun _ _ => rfl)) pa_nil)) pa_nil)) pa_nil))) (pgK (K := K) (n := 2) (pgs_cons (pg_name (i := 2) sc__law_meeting.nd rfl (Or.inr rfl)) (pgs_cons (pg_name (i := 3) sc__law_meeting.nd rfl (Or.inr rfl)) pgs_nil))))
    (pss_cons (ps_lock (ps_setLc (i := 4) (own := [("name", 5)]) rfl sc__law_meeting.nd rfl rfl (sw_true rfl rfl rfl (by decide +kernel)) (pi_keys (pe_ifExp (pt_cmpR op_eq (pe_ix (ixK (K := K)) (pv 0) pe_int (fun _ _ => rfl)) pe_str (nomark _)) (pv 3) (pv 2))) (blkOk_by (N := sc__law_meeting_N) (sc := defScope s__law_meeting) (by decide +kernel)) (fun _ _ _ _ _ => pg_name (i := 5) sc__law_meeting.nd rfl (Or.inl rfl)) (fun _ _ _ _ _ => (pts_one (pt_cmp (pc_dnotin (hu_of hr) (pv 5) (pe_ifExp (pt_cmpR op_eq (pe_ix (ixK (K := K)) (pv 0) pe_int (fun _ _ => rfl)) pe_str (nomark _)) (pv 2) (pv 3)))))) (fun _ _ _ _ _ => (pv 5))))
    (pss_cons (ps_if (pt_cmpR (op_neD (room64 hr)) (pv 4) (pe_lst pa_nil) (nomark _)) (pss_one (ps_ret pe_non)) pss_nil)
    (pss_cons (ps_set (i := 6) sc__law_meeting.nd rfl (Or.inr rfl) (pe_ifExp (pt_cmpR op_eq (pe_ix (ixK (K := K)) (pv 0) pe_int (fun _ _ => rfl)) pe_str (nomark _)) pe_str pe_str))
    (pss_one (ps_lock (ps_ret (pe_lc (own := [("name", 5)]) rfl sc__law_meeting.nd (pi_keys (pv 2)) (blkOk_by (N := sc__law_meeting_N) (sc := defScope s__law_meeting) (by decide +kernel)) (fun _ _ _ _ _ => pg_name (i := 5) sc__law_meeting.nd rfl (Or.inl rfl)) (fun _ _ _ _ _ => (pts_one (pt_cmp (pc_din (hu_of hr) (pv 5) (pv 3))))) (fun _ _ _ _ _ => (pe_tup (pa_cons (pe_tup (pa_cons (pv 6) (pa_cons (pv 5) pa_nil))) (pa_cons (pe_tup (pa_cons (pe_dget (hu_of hr) (pv 2) (pv 5) (fun _ _ => rfl)) (pa_cons (pe_dget (hu_of hr) (pv 3) (pv 5) (fun _ _ => rfl)) pa_nil))) pa_nil))))))))))))))), ?_⟩
  try dsimp only [cxOf, Cx.nox, Cx.wish]
  refine ⟨_, inferInstance, ?_⟩
  rintro _ S Q ⟨h, k, m, rfl, hh, hk, q1, q2⟩
  obtain ⟨n1, n2, n3, n4, n5, n6⟩ := w_ne
  by_cases e : wordH h = wordH k
  · obtain ⟨i1, i2, i3, i4, i5, i6⟩ := in_words4
    rcases word_eq e with ⟨rfl, rfl⟩ | ⟨a, b, c, d, rfl, rfl⟩ | ⟨ps, qs, rfl, rfl⟩ | ⟨ps, qs, rfl, rfl⟩ | ⟨rfl, rfl⟩ | ⟨rfl, rfl⟩
    · unfold pvH
      walk_at "D"
      simp only [at0, at1, at2, optD_some, scal_str, eqP_str, decide_true, Bool.not_true, Bool.not_false, Bool.false_eq_true, if_false, if_true, true_and, flatP, List.all_cons, List.all_nil, Bool.and_self, id, i1]
      exact ⟨by decide, Nat.zero_le _, fun p hp => q2 rfl _ p (Ext.new hp) hp mset_same⟩
    · unfold pvH
      walk_at "D"
      simp only [at0, at1, at2, optD_some, scal_str, eqP_str, decide_true, Bool.not_true, Bool.not_false, Bool.false_eq_true, if_false, if_true, true_and, flatP, List.all_cons, List.all_nil, Bool.and_self, id, i2, neq (Ne.symm n1)]
      exact ⟨by decide, by decide, by decide, by decide, by decide, by decide, by decide, by decide, fun p hp => q2 rfl _ p (Ext.new hp) hp mset_same⟩
    · unfold pvH pvParts
      walk_at "D"
      simp only [at0, at1, at2, optD_some, scal_str, eqP_str, decide_true, Bool.not_true, Bool.not_false, Bool.false_eq_true, if_false, if_true, true_and, flatP, List.all_cons, List.all_nil, Bool.and_self, id, i3, neq (Ne.symm n2), neq (Ne.symm n4)]
      refine ⟨by decide, fun l hl => ?_⟩
      rw [mset_same]
      simp only [optD_some]
      refine ⟨rfl, ?_⟩
      rw [kvsP_parts]
      simp only [optD_some]
      rw [mergeP_parts hh.2.2.1]
      intro p hp
      have ex1 : Ext S (mset S l (some (.lst (ps.map pvPart)))) := Ext.new hl
      have ex2 := ex1.new2 hp (o := some (.dk (kvS ps)))
      have hp2 : (mset (mset S l (some (.lst (ps.map pvPart)))) p (some (.dk (kvS ps)))) p = some (.dk (kvS ps)) := mset_same
      generalize (mset (mset S l (some (.lst (ps.map pvPart)))) p (some (.dk (kvS ps)))) = S2 at ex2 hp2 ⊢
      intro l1 hl1
      rw [mset_same]
      simp only [optD_some]
      refine ⟨rfl, ?_⟩
      rw [kvsP_parts]
      simp only [optD_some]
      rw [mergeP_parts hk.2.2.1]
      intro p1 hp1
      have n1l : p ≠ l1 := ne_of hp2 hl1
      have hp3 : (mset S2 l1 (some (.lst (qs.map pvPart)))) p = some (.dk (kvS ps)) := by rw [mset_ne n1l]; exact hp2
      have n1p : p ≠ p1 := ne_of hp3 hp1
      have ex4 := (ex2.new2 hl1 (o := some (.lst (qs.map pvPart)))).new2 hp1 (o := some (.dk (kvS qs)))
      have hp4 : (mset (mset S2 l1 (some (.lst (qs.map pvPart)))) p1 (some (.dk (kvS qs)))) p = some (.dk (kvS ps)) := by rw [mset_ne n1p]; exact hp3
      have hq4 : (mset (mset S2 l1 (some (.lst (qs.map pvPart)))) p1 (some (.dk (kvS qs)))) p1 = some (.dk (kvS qs)) := mset_same
      generalize (mset (mset S2 l1 (some (.lst (qs.map pvPart)))) p1 (some (.dk (kvS qs)))) = S4 at ex4 hp4 hq4 ⊢
      refine ⟨by decide, ?_⟩
      refine ⟨p1, kvS qs, hq4, rfl, ?_⟩
      have rd1 : rdP (mset S4 p1 (some (.rdk (kvS qs)))) (.loc p1) = some (kvS qs) := by simp only [rdP, mset_same]
      rw [rd1]
      simp only [optD_some]
      rw [keysOf_kvS]
      refine ⟨by rw [List.length_map]; exact small400 hk.2.2.2, ?_⟩
      refine filtG (fun q => !(lkS ps q.1).isSome) (by simp) (fun r hr S5 e5 R hR => ?_) fun S5 a e5 ha _ => ?_
      · have hp5 := e5 _ _ (show (mset S4 p1 (some (.rdk (kvS qs)))) p = some (.dk (kvS ps)) by rw [mset_ne n1p]; exact hp4)
        unfold nmP
        walk_at "D"
        simp only [at0, optD_some, scal_str, eqP_str, eqq, if_true, true_and, atD_at hp5, lkP_kvS, Option.isSome_map]
        exact hR
      simp only [bkS]
      obtain ⟨e6, _, a6⟩ := unlock_ext (o := .lst ((qs.filter fun q => !(lkS ps q.1).isSome).map nmP)) hq4 e5 ha
      generalize (mset (mset S5 a (some (.lst ((qs.filter fun q => !(lkS ps q.1).isSome).map nmP)))) p1 (some (.dk (kvS qs)))) = S6 at e6 a6 ⊢
      refine ⟨Nat.zero_le _, fun b hb => ?_⟩
      have a7 : (mset S6 b (some (.lst []))) a = some (.lst ((qs.filter fun q => !(lkS ps q.1).isSome).map nmP)) := by rw [mset_ne (ne_of a6 hb)]; exact a6
      have e7 := e6.new2 hb (o := some (.lst []))
      refine ne_nil_lst a7 (n := 0) (fun x hx => ?_) (by omega) mset_same not ?_
      · obtain ⟨i, hi, rfl⟩ := List.mem_map.mp hx
        exact dat_str (dat_names (List.mem_append_left _ (hk.1 i (List.mem_filter.mp hi).1)))
      generalize (mset S6 b (some (.lst []))) = S7 at e7
      dsimp only
      rw [all_filt]
      split
      · rename_i hc
        exact q1 hc S7 (ex4.trans e7)
      · rename_i hc
        refine ⟨p, kvS ps, e7 _ _ hp4, rfl, ?_⟩
        have rd2 : rdP (mset S7 p (some (.rdk (kvS ps)))) (.loc p) = some (kvS ps) := by simp only [rdP, mset_same]
        rw [rd2]
        simp only [optD_some]
        refine ⟨by rw [keysOf_kvS, List.length_map]; exact small400 hh.2.2.2, ?_⟩
        refine share_lc (by simp) (by decide) rfl rfl rfl hh.2.2.1 mset_same (by rw [mset_ne (Ne.symm n1p)]; exact e7 _ _ hq4) fun S8 c e8 hc8 => ?_
        obtain ⟨e9, c7, c9⟩ := unlock_ext (o := .lst ((meetS "label" ps qs).map pvSh)) (e7 _ _ hp4) e8 hc8
        exact q2 (by have := eq_false_of_ne_true hc; exact this) _ c ((ex4.trans e7).trans e9) (none_back (ex4.trans e7) c7) c9
    · unfold pvH pvParts
      walk_at "D"
      simp only [at0, at1, at2, optD_some, scal_str, eqP_str, decide_true, Bool.not_true, Bool.not_false, Bool.false_eq_true, if_false, if_true, true_and, flatP, List.all_cons, List.all_nil, Bool.and_self, id, i4, neq (Ne.symm n3), neq (Ne.symm n5), neq (Ne.symm n6)]
      refine ⟨by decide, fun l hl => ?_⟩
      rw [mset_same]
      simp only [optD_some]
      refine ⟨rfl, ?_⟩
      rw [kvsP_parts]
      simp only [optD_some]
      rw [mergeP_parts hh.2.2.2.1]
      intro p hp
      have ex1 : Ext S (mset S l (some (.lst (ps.map pvPart)))) := Ext.new hl
      have ex2 := ex1.new2 hp (o := some (.dk (kvS ps)))
      have hp2 : (mset (mset S l (some (.lst (ps.map pvPart)))) p (some (.dk (kvS ps)))) p = some (.dk (kvS ps)) := mset_same
      generalize (mset (mset S l (some (.lst (ps.map pvPart)))) p (some (.dk (kvS ps)))) = S2 at ex2 hp2 ⊢
      intro l1 hl1
      rw [mset_same]
      simp only [optD_some]
      refine ⟨rfl, ?_⟩
      rw [kvsP_parts]
      simp only [optD_some]
      rw [mergeP_parts hk.2.2.2.1]
      intro p1 hp1
      have n1l : p ≠ l1 := ne_of hp2 hl1
      have hp3 : (mset S2 l1 (some (.lst (qs.map pvPart)))) p = some (.dk (kvS ps)) := by rw [mset_ne n1l]; exact hp2
      have n1p : p ≠ p1 := ne_of hp3 hp1
      have ex4 := (ex2.new2 hl1 (o := some (.lst (qs.map pvPart)))).new2 hp1 (o := some (.dk (kvS qs)))
      have hp4 : (mset (mset S2 l1 (some (.lst (qs.map pvPart)))) p1 (some (.dk (kvS qs)))) p = some (.dk (kvS ps)) := by rw [mset_ne n1p]; exact hp3
      have hq4 : (mset (mset S2 l1 (some (.lst (qs.map pvPart)))) p1 (some (.dk (kvS qs)))) p1 = some (.dk (kvS qs)) := mset_same
      generalize (mset (mset S2 l1 (some (.lst (qs.map pvPart)))) p1 (some (.dk (kvS qs)))) = S4 at ex4 hp4 hq4 ⊢
      refine ⟨by decide, ?_⟩
      refine ⟨p, kvS ps, hp4, rfl, ?_⟩
      have rd1 : rdP (mset S4 p (some (.rdk (kvS ps)))) (.loc p) = some (kvS ps) := by simp only [rdP, mset_same]
      rw [rd1]
      simp only [optD_some]
      rw [keysOf_kvS]
      refine ⟨by rw [List.length_map]; exact small400 hh.2.2.2.2, ?_⟩
      refine filtG (fun q => !(lkS qs q.1).isSome) (by simp) (fun r hr S5 e5 R hR => ?_) fun S5 a e5 ha _ => ?_
      · have hp5 := e5 _ _ (show (mset S4 p (some (.rdk (kvS ps)))) p1 = some (.dk (kvS qs)) by rw [mset_ne (Ne.symm n1p)]; exact hq4)
        unfold nmP
        walk_at "D"
        simp only [at0, optD_some, scal_str, eqP_str, neq (Ne.symm n6), if_false, Bool.false_eq_true, true_and, atD_at hp5, lkP_kvS, Option.isSome_map]
        exact hR
      simp only [bkS]
      obtain ⟨e6, _, a6⟩ := unlock_ext (o := .lst ((ps.filter fun q => !(lkS qs q.1).isSome).map nmP)) hp4 e5 ha
      generalize (mset (mset S5 a (some (.lst ((ps.filter fun q => !(lkS qs q.1).isSome).map nmP)))) p (some (.dk (kvS ps)))) = S6 at e6 a6 ⊢
      refine ⟨Nat.zero_le _, fun b hb => ?_⟩
      have a7 : (mset S6 b (some (.lst []))) a = some (.lst ((ps.filter fun q => !(lkS qs q.1).isSome).map nmP)) := by rw [mset_ne (ne_of a6 hb)]; exact a6
      have e7 := e6.new2 hb (o := some (.lst []))
      refine ne_nil_lst a7 (n := 0) (fun x hx => ?_) (by omega) mset_same not ?_
      · obtain ⟨i, hi, rfl⟩ := List.mem_map.mp hx
        exact dat_str (dat_names (List.mem_append_right _ (hh.2.1 i (List.mem_filter.mp hi).1)))
      generalize (mset S6 b (some (.lst []))) = S7 at e7
      dsimp only
      rw [all_filt]
      split
      · rename_i hc
        exact q1 hc S7 (ex4.trans e7)
      · rename_i hc
        refine ⟨p, kvS ps, e7 _ _ hp4, rfl, ?_⟩
        have rd2 : rdP (mset S7 p (some (.rdk (kvS ps)))) (.loc p) = some (kvS ps) := by simp only [rdP, mset_same]
        rw [rd2]
        simp only [optD_some]
        refine ⟨by rw [keysOf_kvS, List.length_map]; exact small400 hh.2.2.2.2, ?_⟩
        refine share_lc (by simp) (by decide) rfl rfl rfl hh.2.2.2.1 mset_same (by rw [mset_ne (Ne.symm n1p)]; exact e7 _ _ hq4) fun S8 c e8 hc8 => ?_
        obtain ⟨e9, c7, c9⟩ := unlock_ext (o := .lst ((meetS "tag" ps qs).map pvSh)) (e7 _ _ hp4) e8 hc8
        exact q2 (by have := eq_false_of_ne_true hc; exact this) _ c ((ex4.trans e7).trans e9) (none_back (ex4.trans e7) c7) c9
    · unfold pvH
      walk_at "D"
      simp only [at0, at1, at2, optD_some, scal_str, eqP_str, decide_true, Bool.not_true, Bool.not_false, Bool.false_eq_true, if_false, if_true, true_and, flatP, List.all_cons, List.all_nil, Bool.and_self, id, i5]
      exact ⟨by decide, q1 rfl S Ext.refl⟩
    · unfold pvH
      walk_at "D"
      simp only [at0, at1, at2, optD_some, scal_str, eqP_str, decide_true, Bool.not_true, Bool.not_false, Bool.false_eq_true, if_false, if_true, true_and, flatP, List.all_cons, List.all_nil, Bool.and_self, id, i6]
      exact ⟨by decide, q1 rfl S Ext.refl⟩
  · have hc : clashH h k = true := by
      cases h <;> cases k <;> first | rfl | exact absurd rfl e
    rw [pvH_eq h, pvH_eq k]
    walk_at "D"
    simp only [at0, optD_some, scal_str, eqP_str, decide_eq_false e, Bool.not_false, if_true, true_and]
    exact q1 hc S Ext.refl
def G_law_shared : DSp := fun xs S Q => ∃ (h k : Hd) (m : Nat), xs = [pvH h, pvH k] ∧ GoodH m h ∧ GoodH m k ∧ ∀ S' p, Ext S S' → S p = none → S' p = some (.lst ((flowsH h k).map pvSh)) → Q (.loc p) S'
theorem f_law_shared {f : Addr} {fd : FuncData} (F : Fun K "_law_shared" "_law_shared" s__law_shared f fd) (T : Txt K w mg fl ft) (C__law_meeting : C8.Cal P w K mg base 1 "_law_meeting" (spD K G_law_meeting) []) : FnOk P w K mg base CX0 (1+1) f fd ["h", "k"] (spD K G_law_shared) := by
  refine fnD F sc__law_shared (fun xs S Q h => by obtain ⟨_, _, _, rfl, _⟩ := h; rfl) fun cdv A outer s H E hr => ?_
  refine ⟨_, (pss_cons (ps_if (PW.pt (pw_and (pt_cmpR op_eq (pe_ix (ixK (K := K)) (pv 0) pe_int (fun _ _ => rfl)) (pe_ix (ixK (K := K)) (pv 1) pe_int (fun _ _ => rfl)) (nomark _)) (pw_and1 (pt_cmpR op_in_seq (pe_ix (ixK (K := K)) (pv 0) pe_int (fun _ _ => rfl)) (pe_tup (pa_cons pe_str (pa_cons pe_str pa_nil))) (by rfl))))) (pss_cons (ps_asg (pe_tup (pa_cons (pe_callTy (c_dictK rfl) (by rfl) T.b_dict bt_dict (pa_cons (pe_callTy c_list (by rfl) T.b_list bt_list (pa_cons (pe_ix (ixK (K := K)) (pv 0) pe_int (fun _ _ => rfl)) pa_nil)) pa_nil)) (pa_cons (pe_callTy (c_dictK rfl) (by rfl) T.b_dict bt_dict (pa_cons (pe_callTy c_list (by rfl) T.b_list bt_list (pa_cons (pe_ix (ixK (K := K)) (pv 1) pe_int (fun _ _ => rfl)) pa_nil)) pa_nil)) pa_nil))) (pgK (K := K) (n := 2) (pgs_cons (pg_name (i := 2) sc__law_shared.nd rfl (Or.inr rfl)) (pgs_cons (pg_name (i := 3) sc__law_shared.nd rfl (Or.inr rfl)) pgs_nil))))
    (pss_cons (ps_set (i := 4) sc__law_shared.nd rfl (Or.inr rfl) (pe_ifExp (pt_cmpR op_eq (pe_ix (ixK (K := K)) (pv 0) pe_int (fun _ _ => rfl)) pe_str (nomark _)) pe_str pe_str))
    (pss_one (ps_lock (ps_ret (pe_lc (own := [("name", 5)]) rfl sc__law_shared.nd (pi_keys (pv 2)) (blkOk_by (N := sc__law_shared_N) (sc := defScope s__law_shared) (by decide +kernel)) (fun _ _ _ _ _ => pg_name (i := 5) sc__law_shared.nd rfl (Or.inl rfl)) (fun _ _ _ _ _ => (pts_one (pt_cmp (pc_din (hu_of hr) (pv 5) (pv 3))))) (fun _ _ _ _ _ => (pe_tup (pa_cons (pe_tup (pa_cons (pv 4) (pa_cons (pv 5) pa_nil))) (pa_cons (pe_tup (pa_cons (pe_dget (hu_of hr) (pv 2) (pv 5) (fun _ _ => rfl)) (pa_cons (pe_dget (hu_of hr) (pv 3) (pv 5) (fun _ _ => rfl)) pa_nil))) pa_nil)))))))))) pss_nil)
    (pss_cons (ps_set (i := 6) sc__law_shared.nd rfl (Or.inl rfl) (C8.pe_c C__law_meeting hr (by decide) (by rfl) (pa_cons (pv 0) (pa_cons (pv 1) pa_nil))))
    (pss_one (ps_ret (pe_ifExp (pt_cmpR o_isN (pv 6) pe_non (nomark _)) (pe_lst pa_nil) (pv 6)))))), ?_⟩
  try dsimp only [cxOf, Cx.nox, Cx.wish]
  refine ⟨_, inferInstance, ?_⟩
  rintro _ S Q ⟨h, k, m, rfl, hh, hk, q⟩
  obtain ⟨n1, n2, n3, n4, n5, n6⟩ := w_ne
  have meet : ¬ (∃ ps qs, h = .rc ps ∧ k = .rc qs) → ¬ (∃ ps qs, h = .vr ps ∧ k = .vr qs) → G_law_meeting [pvH h, pvH k] S fun x S1 => if DL.isNon x = true then 0 ≤ sizeLine ∧ ∀ (p : Addr), S1 p = none → Q (PV.loc p) (mset S1 p (some (MO.lst []))) else Q x S1 := fun z1 z2 => by
    refine ⟨h, k, m, rfl, hh, hk, fun hc S1 e1 => ?_, fun hc S1 p e1 hp h1 => ?_⟩
    · have hf : flowsH h k = [] := by
        cases h <;> cases k <;> first | rfl | cases hc | exact (z1 ⟨_, _, rfl, rfl⟩).elim | exact (z2 ⟨_, _, rfl, rfl⟩).elim
      show 0 ≤ sizeLine ∧ _
      exact ⟨Nat.zero_le _, fun p hp => q _ p (e1.new2 hp) (none_back e1 hp) (by rw [mset_same, hf]; rfl)⟩
    · exact q S1 p e1 hp h1
  by_cases e : wordH h = wordH k
  · obtain ⟨i1, i2, i3, i4, i5, i6⟩ := in_words2
    rcases word_eq e with ⟨rfl, rfl⟩ | ⟨a, b, c, d, rfl, rfl⟩ | ⟨ps, qs, rfl, rfl⟩ | ⟨ps, qs, rfl, rfl⟩ | ⟨rfl, rfl⟩ | ⟨rfl, rfl⟩
    · unfold pvH
      walk_at "D"
      simp only [at0, at1, at2, optD_some, scal_str, eqP_str, decide_true, Bool.not_true, Bool.not_false, Bool.false_eq_true, if_false, if_true, true_and, flatP, List.all_cons, List.all_nil, Bool.and_self, id, i1]
      exact ⟨by decide, meet (by simp) (by simp)⟩
    · unfold pvH
      walk_at "D"
      simp only [at0, at1, at2, optD_some, scal_str, eqP_str, decide_true, Bool.not_true, Bool.not_false, Bool.false_eq_true, if_false, if_true, true_and, flatP, List.all_cons, List.all_nil, Bool.and_self, id, i2]
      exact ⟨by decide, meet (by simp) (by simp)⟩
    · unfold pvH pvParts
      walk_at "D"
      simp only [at0, at1, at2, optD_some, scal_str, eqP_str, decide_true, Bool.not_true, Bool.not_false, Bool.false_eq_true, if_false, if_true, true_and, flatP, List.all_cons, List.all_nil, Bool.and_self, id, i3, eqq]
      refine ⟨by decide, fun l hl => ?_⟩
      rw [mset_same]
      simp only [optD_some]
      refine ⟨rfl, ?_⟩
      rw [kvsP_parts]
      simp only [optD_some]
      rw [mergeP_parts hh.2.2.1]
      intro p hp
      have ex1 : Ext S (mset S l (some (.lst (ps.map pvPart)))) := Ext.new hl
      have ex2 := ex1.new2 hp (o := some (.dk (kvS ps)))
      have hp2 : (mset (mset S l (some (.lst (ps.map pvPart)))) p (some (.dk (kvS ps)))) p = some (.dk (kvS ps)) := mset_same
      generalize (mset (mset S l (some (.lst (ps.map pvPart)))) p (some (.dk (kvS ps)))) = S2 at ex2 hp2 ⊢
      intro l1 hl1
      rw [mset_same]
      simp only [optD_some]
      refine ⟨rfl, ?_⟩
      rw [kvsP_parts]
      simp only [optD_some]
      rw [mergeP_parts hk.2.2.1]
      intro p1 hp1
      have n1l : p ≠ l1 := ne_of hp2 hl1
      have hp3 : (mset S2 l1 (some (.lst (qs.map pvPart)))) p = some (.dk (kvS ps)) := by rw [mset_ne n1l]; exact hp2
      have n1p : p ≠ p1 := ne_of hp3 hp1
      have ex4 := (ex2.new2 hl1 (o := some (.lst (qs.map pvPart)))).new2 hp1 (o := some (.dk (kvS qs)))
      have hp4 : (mset (mset S2 l1 (some (.lst (qs.map pvPart)))) p1 (some (.dk (kvS qs)))) p = some (.dk (kvS ps)) := by rw [mset_ne n1p]; exact hp3
      have hq4 : (mset (mset S2 l1 (some (.lst (qs.map pvPart)))) p1 (some (.dk (kvS qs)))) p1 = some (.dk (kvS qs)) := mset_same
      generalize (mset (mset S2 l1 (some (.lst (qs.map pvPart)))) p1 (some (.dk (kvS qs)))) = S4 at ex4 hp4 hq4 ⊢
      refine ⟨by decide, ?_⟩
      refine ⟨p, kvS ps, hp4, rfl, ?_⟩
      have rd2 : rdP (mset S4 p (some (.rdk (kvS ps)))) (.loc p) = some (kvS ps) := by simp only [rdP, mset_same]
      rw [rd2]
      simp only [optD_some]
      refine ⟨by rw [keysOf_kvS, List.length_map]; exact small400 hh.2.2.2, ?_⟩
      refine share_lc (by simp) (by decide) rfl rfl rfl hh.2.2.1 mset_same (by rw [mset_ne (Ne.symm n1p)]; exact hq4) fun S8 c e8 hc8 => ?_
      obtain ⟨e9, c7, c9⟩ := unlock_ext (o := .lst ((meetS "label" ps qs).map pvSh)) hp4 e8 hc8
      exact q _ c (ex4.trans e9) (none_back ex4 c7) c9
    · unfold pvH pvParts
      walk_at "D"
      simp only [at0, at1, at2, optD_some, scal_str, eqP_str, decide_true, Bool.not_true, Bool.not_false, Bool.false_eq_true, if_false, if_true, true_and, flatP, List.all_cons, List.all_nil, Bool.and_self, id, i4, neq (Ne.symm n6)]
      refine ⟨by decide, fun l hl => ?_⟩
      rw [mset_same]
      simp only [optD_some]
      refine ⟨rfl, ?_⟩
      rw [kvsP_parts]
      simp only [optD_some]
      rw [mergeP_parts hh.2.2.2.1]
      intro p hp
      have ex1 : Ext S (mset S l (some (.lst (ps.map pvPart)))) := Ext.new hl
      have ex2 := ex1.new2 hp (o := some (.dk (kvS ps)))
      have hp2 : (mset (mset S l (some (.lst (ps.map pvPart)))) p (some (.dk (kvS ps)))) p = some (.dk (kvS ps)) := mset_same
      generalize (mset (mset S l (some (.lst (ps.map pvPart)))) p (some (.dk (kvS ps)))) = S2 at ex2 hp2 ⊢
      intro l1 hl1
      rw [mset_same]
      simp only [optD_some]
      refine ⟨rfl, ?_⟩
      rw [kvsP_parts]
      simp only [optD_some]
      rw [mergeP_parts hk.2.2.2.1]
      intro p1 hp1
      have n1l : p ≠ l1 := ne_of hp2 hl1
      have hp3 : (mset S2 l1 (some (.lst (qs.map pvPart)))) p = some (.dk (kvS ps)) := by rw [mset_ne n1l]; exact hp2
      have n1p : p ≠ p1 := ne_of hp3 hp1
      have ex4 := (ex2.new2 hl1 (o := some (.lst (qs.map pvPart)))).new2 hp1 (o := some (.dk (kvS qs)))
      have hp4 : (mset (mset S2 l1 (some (.lst (qs.map pvPart)))) p1 (some (.dk (kvS qs)))) p = some (.dk (kvS ps)) := by rw [mset_ne n1p]; exact hp3
      have hq4 : (mset (mset S2 l1 (some (.lst (qs.map pvPart)))) p1 (some (.dk (kvS qs)))) p1 = some (.dk (kvS qs)) := mset_same
      generalize (mset (mset S2 l1 (some (.lst (qs.map pvPart)))) p1 (some (.dk (kvS qs)))) = S4 at ex4 hp4 hq4 ⊢
      refine ⟨by decide, ?_⟩
      refine ⟨p, kvS ps, hp4, rfl, ?_⟩
      have rd2 : rdP (mset S4 p (some (.rdk (kvS ps)))) (.loc p) = some (kvS ps) := by simp only [rdP, mset_same]
      rw [rd2]
      simp only [optD_some]
      refine ⟨by rw [keysOf_kvS, List.length_map]; exact small400 hh.2.2.2.2, ?_⟩
      refine share_lc (by simp) (by decide) rfl rfl rfl hh.2.2.2.1 mset_same (by rw [mset_ne (Ne.symm n1p)]; exact hq4) fun S8 c e8 hc8 => ?_
      obtain ⟨e9, c7, c9⟩ := unlock_ext (o := .lst ((meetS "tag" ps qs).map pvSh)) hp4 e8 hc8
      exact q _ c (ex4.trans e9) (none_back ex4 c7) c9
    · unfold pvH
      walk_at "D"
      simp only [at0, at1, at2, optD_some, scal_str, eqP_str, decide_true, Bool.not_true, Bool.not_false, Bool.false_eq_true, if_false, if_true, true_and, flatP, List.all_cons, List.all_nil, Bool.and_self, id, i5]
      exact ⟨by decide, meet (by simp) (by simp)⟩
    · unfold pvH
      walk_at "D"
      simp only [at0, at1, at2, optD_some, scal_str, eqP_str, decide_true, Bool.not_true, Bool.not_false, Bool.false_eq_true, if_false, if_true, true_and, flatP, List.all_cons, List.all_nil, Bool.and_self, id, i6]
      exact ⟨by decide, meet (by simp) (by simp)⟩
  · have m2 := meet (by rintro ⟨_, _, rfl, rfl⟩; exact e rfl) (by rintro ⟨_, _, rfl, rfl⟩; exact e rfl)
    rw [pvH_eq h, pvH_eq k] at m2 ⊢
    walk_at "D"
    simp only [at0, optD_some, scal_str, eqP_str, decide_eq_false e, Bool.false_eq_true, if_false, true_and]
    exact m2
end
end K06

namespace K06
open PySem PySem.Spec PyProof.Rows L2 DL
local macro_rules | `(tactic| walk_at "D") => `(tactic| simp only [dRet, dRetN, dNext, dSeq, dIfS, dDrop, dAsg, dgName, dgFld, dAndV, dOrV, dNotV, dAnd, dOr, dNot, dTest, dIf, dCB, dCons, dNil, dVar, getv, dC, sc, dChain, dOp, dUn, dI0, dI, dU, dEqS, dNeS, dIsi, dLen, dIx, dPart, dNoPart, dSl, dSlX, dCall, dAllC, dTup, dLst, dYes, dInSg, dInF, seqP, dLc, bkS, dFor, bkD, dIStr, dITup, dIZip, dIList, wipeD, dWGet, dCallA, dDictK, dDIn, dListC, dTupC, dDGet, dgTup, dgCons, dgNil, dPar, dPar3, dBM, dBM0, dAppend, dExtend, dPop, dty, dBits, dgSub, dSetL, dFld, dsFld, dMeth, dMake, dDGet1, dDSetd, dsDPut, dRevL, dPlus, dDisp, dPairs, dIEnum, dIEnumT, dIRng1, dIRng2, dIKeys, dLock, dTupF1, dTupF, dDictN, dSortN, dInN, dDcN, dInT, dIsN, dNotN, dIsB, dI2, dInt1, dRepr, dWhile, dDNewK, dAug, dBreak, dCont, dNever,
  startD, List.map_cons, List.map_nil, List.length_cons, List.length_nil, List.getElem?_cons_zero, List.getElem?_cons_succ, List.cons_append, List.nil_append, List.replicate, Nat.reduceAdd, Nat.reduceSub, List.set_cons_zero, List.set_cons_succ, isB, tyP, okTy, optD_some, optD_none, Option.isSome_some, true_and, and_true, if_true, if_false, Bool.false_eq_true, List.all_cons, List.all_nil, beq_self_eq_true, eqP_int, eqP_str, scal_int, scal_str, Bool.not_true, Bool.not_false, decide_true, decide_false])
/-! ### equal data -/
def dpr (p : Nat × Nat) : PyData := .tuple [.int p.1, .int p.2]
theorem dat_prE (p : Nat × Nat) : dat (pvPr p) = some (dpr p) := by simp [pvPr, dpr, dat, dats]
theorem dats_map {α : Type} {f : α → PV} {g : α → PyData} (h : ∀ a, dat (f a) = some (g a)) : ∀ l : List α, dats (l.map f) = some (l.map g)
  | [] => by simp [dats]
  | x :: l => by rw [List.map_cons, List.map_cons, dats, h x, dats_map h l]
theorem eqv_pr (p q : Nat × Nat) : PyData.eqv (dpr p) (dpr q) = decide (p = q) := by
  simp only [dpr, PyData.eqv, PyData.eqvAll, Bool.and_true]
  rw [Bool.eq_iff_iff]
  simp only [Bool.and_eq_true, beq_iff_eq, decide_eq_true_eq]
  constructor
  · intro h; exact Prod.ext (by omega) (by omega)
  · intro h; subst h; exact ⟨rfl, rfl⟩
theorem canLay_prs : ∀ es : List (Nat × Nat), PyData.canLayAll0 (es.map dpr) = true ∧ PyData.depthAll (es.map dpr) ≤ 1
  | [] => ⟨by rw [List.map_nil, PyData.canLayAll0], by rw [List.map_nil, PyData.depthAll]; omega⟩
  | p :: es => by
    have ih := canLay_prs es
    rw [List.map_cons, PyData.canLayAll0, PyData.depthAll, ih.1]
    refine ⟨by simp [dpr, PyData.canLay0, PyData.canLayAll0], ?_⟩
    simp only [dpr, PyData.depth, PyData.depthAll]
    have := ih.2
    omega
theorem datS_pr {S : Mp} {p : Nat × Nat} : datS S (.tup [.int p.1, .int p.2]) = some (dpr p) := dat_prE p
theorem dat_prs {es : List (Nat × Nat)} : dat (.tup (es.map pvPr)) = some (.tuple (es.map dpr)) := by rw [dat, dats_map dat_prE]; rfl
theorem shaped_pr (p : Nat × Nat) : SeqAt.shaped (dpr p) = true := shaped_of (n := 1) (by simp [dpr, PyData.canLay0, PyData.canLayAll0]) (by simp only [dpr, PyData.depth, PyData.depthAll]; omega) (by omega)
theorem shaped_prs (es : List (Nat × Nat)) : SeqAt.shaped (.tuple (es.map dpr)) = true := by
  have hc := canLay_prs es
  exact shaped_of (n := 2) (by rw [PyData.canLay0]; exact hc.1) (by rw [PyData.depth]; omega) (by omega)
theorem any_prs (p : Nat × Nat) (es : List (Nat × Nat)) : ((es.map dpr).any fun z => PyData.eqv z (dpr p)) = decide (p ∈ es) := by
  rw [List.any_map, Bool.eq_iff_iff, List.any_eq_true, decide_eq_true_eq]
  constructor
  · rintro ⟨z, hz, e⟩
    rw [Function.comp_apply, eqv_pr, decide_eq_true_eq] at e
    exact e ▸ hz
  · intro h
    exact ⟨p, h, by rw [Function.comp_apply, eqv_pr]; simp⟩
def dnt (i : Nat) : PyData := .int i
theorem dat_nt (i : Nat) : dat (.int (i : Int)) = some (dnt i) := by simp [dnt, dat]
theorem eqv_nts : ∀ R R' : List Nat, PyData.eqvAll (R.map dnt) (R'.map dnt) = decide (R = R')
  | [], [] => by simp [PyData.eqvAll]
  | [], x :: R' => by simp [PyData.eqvAll]
  | x :: R, [] => by simp [PyData.eqvAll]
  | x :: R, y :: R' => by
    rw [List.map_cons, List.map_cons, PyData.eqvAll, eqv_nts R R', Bool.eq_iff_iff]
    simp only [dnt, PyData.eqv, Bool.and_eq_true, beq_iff_eq, decide_eq_true_eq, List.cons.injEq]
    constructor
    · rintro ⟨a, b⟩; exact ⟨by omega, b⟩
    · rintro ⟨rfl, b⟩; exact ⟨rfl, b⟩
theorem canLay_nts : ∀ R : List Nat, PyData.canLayAll0 (R.map dnt) = true ∧ PyData.depthAll (R.map dnt) ≤ 0
  | [] => ⟨by rw [List.map_nil, PyData.canLayAll0], by rw [List.map_nil, PyData.depthAll]; omega⟩
  | p :: es => by
    have ih := canLay_nts es
    rw [List.map_cons, PyData.canLayAll0, PyData.depthAll, ih.1]
    refine ⟨by simp [dnt, PyData.canLay0], ?_⟩
    simp only [dnt, PyData.depth]
    have := ih.2
    omega
theorem eqD_ns {S : Mp} {p q : Addr} {R R' : List Nat} {f : Bool → Bool} {Q : DK} (hp : S p = some (.lst (pvNs R))) (hq : S q = some (.lst (pvNs R'))) (k : Q (.bl (f (decide (R = R')))) S) : dEqD f (.loc p) (.loc q) S Q := by
  have e1 : datS S (.loc p) = some (.list (R.map dnt)) := by simp only [datS, seq_at hp, Option.bind_some, pvNs, dats_map dat_nt, Option.map_some]
  have e2 : datS S (.loc q) = some (.list (R'.map dnt)) := by simp only [datS, seq_at hq, Option.bind_some, pvNs, dats_map dat_nt, Option.map_some]
  unfold dEqD
  rw [e1, e2]
  simp only [optD_some]
  have h1 := canLay_nts R
  have h2 := canLay_nts R'
  refine ⟨shaped_of (n := 1) (by rw [PyData.canLay0]; exact h1.1) (by rw [PyData.depth]; omega) (by omega), shaped_of (n := 1) (by rw [PyData.canLay0]; exact h2.1) (by rw [PyData.depth]; omega) (by omega), ?_⟩
  rw [show PyData.eqv (.list (R.map dnt)) (.list (R'.map dnt)) = decide (R = R') by rw [PyData.eqv, eqv_nts]]
  exact k
/-! ### the law's own fixpoint -/
structure Snd (g : Gr) (R : List Nat) : Prop where
  len : R.length = g.many
  snd : ∀ i j, bit R i j = true → Rel g i j
def Ge (R R' : List Nat) : Prop := ∀ i j, bit R i j = true → bit R' i j = true
theorem rows_ext {R R' : List Nat} (l : R.length = R'.length) (h : ∀ i j, bit R i j = bit R' i j) : R = R' := by
  refine List.ext_getElem l fun i h1 h2 => Nat.eq_of_testBit_eq fun j => ?_
  have := h i j
  unfold bit at this
  rw [List.getD_eq_getElem?_getD, List.getD_eq_getElem?_getD, List.getElem?_eq_getElem h1, List.getElem?_eq_getElem h2] at this
  exact this
theorem IsRel.uniq {g : Gr} {R R' : List Nat} (h : IsRel g R) (h' : IsRel g R') : R = R' :=
  rows_ext (h.1.trans h'.1.symm) fun i j => by rw [Bool.eq_iff_iff, h.2, h'.2]
theorem ge_less {g : Gr} (hg : GoodG g) {R R' : List Nat} (h : Snd g R) (h' : Snd g R') (ge : Ge R R') (ne : R' ≠ R) : zeros g.many R' + 1 ≤ zeros g.many R := by
  have : ∃ i j, bit R' i j = true ∧ bit R i j = false := by
    refine Classical.byContradiction fun hn => ne (rows_ext (h'.len.trans h.len.symm) fun i j => ?_)
    cases e : bit R i j with
    | true => exact ge i j e
    | false =>
      cases e' : bit R' i j with
      | false => rfl
      | true => exact absurd ⟨i, j, e', e⟩ hn
  obtain ⟨i, j, h1, h0⟩ := this
  have hl := (h'.snd i j h1).lt hg
  exact zeros_lt (i := i) (j := j) ge hl.1 hl.2 h0 h1
structure Pas (g : Gr) (R0 R : List Nat) : Prop where
  ge : Ge R0 R
  tr : ∀ mid x j, mid < g.many → x < g.many → bit R0 x mid = true → bit R0 mid j = true → bit R x j = true
  fl : ∀ r ∈ g.lo, ∀ u ∈ g.up, bit R0 r.1 u.1 = true → (r.1, u.1) ∉ g.al → ∀ t ∈ flowsH r.2 u.2, bit R t.2.1 t.2.2 = true
theorem isRel_of {g : Gr} (hg : GoodG g) {R : List Nat} (s : Snd g R) (p : Pas g R R) (rf : ∀ i, i < g.many → bit R i i = true) (ed : ∀ p ∈ g.ed, bit R p.1 p.2 = true) : IsRel g R := by
  refine ⟨s.len, fun i j => ⟨s.snd i j, fun h => ?_⟩⟩
  induction h with
  | refl h => exact rf _ h
  | edge h => exact ed _ h
  | @trans x y z h1 h2 i1 i2 => exact p.tr y x z (h1.lt hg).2 (h1.lt hg).1 i1 i2
  | @flow x y q h1 h2 i1 =>
    unfold flowsAt at h2
    split at h2
    · cases h2
    · rename_i hn
      obtain ⟨a, ha, h2⟩ := List.mem_flatMap.mp h2
      obtain ⟨b, hb, h2⟩ := List.mem_flatMap.mp h2
      obtain ⟨t, ht, rfl⟩ := List.mem_map.mp h2
      exact p.fl _ (rowsAt_mem ha) _ (rowsAt_mem hb) i1 hn t ht
theorem rowsAt_has {rs : List (Nat × Hd)} {r : Nat × Hd} (h : r ∈ rs) : ∃ a ∈ rowsAt rs r.1, a.2 = r.2 := by
  obtain ⟨i, hi, e⟩ := List.getElem_of_mem h
  refine ⟨(i, r.2), ?_, rfl⟩
  unfold rowsAt
  rw [List.mem_filterMap]
  refine ⟨(r, i), ?_, by simp⟩
  rw [List.mem_zipIdx_iff_getElem?]
  simp [List.getElem?_eq_getElem hi, e]
theorem flow_rel {g : Gr} {r u : Nat × Hd} (hr : r ∈ g.lo) (hu : u ∈ g.up) (h : Rel g r.1 u.1) (hn : (r.1, u.1) ∉ g.al) {t : PV × Nat × Nat} (ht : t ∈ flowsH r.2 u.2) : Rel g t.2.1 t.2.2 := by
  refine Rel.flow (p := t.2) h ?_
  unfold flowsAt
  rw [if_neg hn]
  obtain ⟨a, ha, ea⟩ := rowsAt_has hr
  obtain ⟨b, hb, eb⟩ := rowsAt_has hu
  exact List.mem_flatMap.mpr ⟨a, ha, List.mem_flatMap.mpr ⟨b, hb, List.mem_map.mpr ⟨t, by rw [ea, eb]; exact ht, rfl⟩⟩⟩
theorem Snd.orSet {g : Gr} {R : List Nat} (s : Snd g R) {i v : Nat} (h : i < g.many) (hv : ∀ j, v.testBit j = true → Rel g i j) : Snd g (R.set i (R.getD i 0 ||| v)) ∧ Ge R (R.set i (R.getD i 0 ||| v)) ∧ ∀ j, v.testBit j = true → bit (R.set i (R.getD i 0 ||| v)) i j = true := by
  have hl : i < R.length := by rw [s.len]; exact h
  refine ⟨⟨by rw [List.length_set]; exact s.len, fun a b hb => ?_⟩, fun a b hb => ?_, fun j hj => ?_⟩
  · rw [bit_set hl] at hb
    split at hb
    · rename_i e
      subst e
      rw [Nat.testBit_or, Bool.or_eq_true] at hb
      exact hb.elim (fun z => s.snd _ _ z) (hv b)
    · exact s.snd a b hb
  · rw [bit_set hl]
    split
    · rename_i e
      subst e
      rw [Nat.testBit_or, Bool.or_eq_true]
      exact .inl hb
    · exact hb
  · rw [bit_set hl, if_pos rfl, Nat.testBit_or, Bool.or_eq_true]
    exact .inr hj
end K06

namespace K06
open PySem PySem.Spec PyProof.Rows L2 DL
local macro_rules | `(tactic| walk_at "D") => `(tactic| simp only [dRet, dRetN, dNext, dSeq, dIfS, dDrop, dAsg, dgName, dgFld, dAndV, dOrV, dNotV, dAnd, dOr, dNot, dTest, dIf, dCB, dCons, dNil, dVar, getv, dC, sc, dChain, dOp, dUn, dI0, dI, dU, dEqS, dNeS, dIsi, dLen, dIx, dPart, dNoPart, dSl, dSlX, dCall, dAllC, dTup, dLst, dYes, dInSg, dInF, seqP, dLc, bkS, dFor, bkD, dIStr, dITup, dIZip, dIList, wipeD, dWGet, dCallA, dDictK, dDIn, dListC, dTupC, dDGet, dgTup, dgCons, dgNil, dPar, dPar3, dBM, dBM0, dAppend, dExtend, dPop, dty, dBits, dgSub, dSetL, dFld, dsFld, dMeth, dMake, dDGet1, dDSetd, dsDPut, dRevL, dPlus, dDisp, dPairs, dIEnum, dIEnumT, dIRng1, dIRng2, dIKeys, dLock, dTupF1, dTupF, dDictN, dSortN, dInN, dDcN, dInT, dIsN, dNotN, dIsB, dI2, dInt1, dRepr, dWhile, dDNewK, dAug, dBreak, dCont, dNever,
  startD, List.map_cons, List.map_nil, List.length_cons, List.length_nil, List.getElem?_cons_zero, List.getElem?_cons_succ, List.cons_append, List.nil_append, List.replicate, Nat.reduceAdd, Nat.reduceSub, List.set_cons_zero, List.set_cons_succ, isB, tyP, okTy, optD_some, optD_none, Option.isSome_some, true_and, and_true, if_true, if_false, Bool.false_eq_true, List.all_cons, List.all_nil, beq_self_eq_true, eqP_int, eqP_str, scal_int, scal_str, Bool.not_true, Bool.not_false, decide_true, decide_false])
def ρF (g : Gr) (p : Addr) (r : List (Option PV)) : DSt := some (pvG g) :: some (.int g.many) :: some (.tup (g.lo.map pvRow)) :: some (.tup (g.up.map pvRow)) :: some (.tup (g.ed.map pvPr)) :: some (.tup (g.al.map pvPr)) :: some (.loc p) :: r
structure Fl (S : Mp) (p : Addr) (R : List Nat) (S1 : Mp) : Prop where
  ex : Ext S S1
  p0 : S p = none
  r : S1 p = some (.lst (pvNs R))
theorem Fl.set {S S1 : Mp} {p : Addr} {R R' : List Nat} (f : Fl S p R S1) : Fl S p R' (mset S1 p (some (.lst (pvNs R')))) := ⟨Ext.mset2 f.p0 f.ex, f.p0, mset_same⟩
theorem Fl.ext {S S1 S2 : Mp} {p : Addr} {R : List Nat} (f : Fl S p R S1) (e : Ext S1 S2) : Fl S p R S2 := ⟨f.ex.trans e, f.p0, e _ _ f.r⟩
theorem pow_nat (y : Nat) : (1 * 2 ^ ((y : Int).toNat) : Int) = ((2 ^ y : Nat) : Int) := by rw [Int.toNat_natCast, Int.one_mul]; simp
theorem snd_ids {g : Gr} : Snd g (ids g.many) := ⟨by simp [ids], fun i j h => by
  obtain ⟨rfl, h9⟩ := (bit_ids _ i j).mp h
  exact .refl h9⟩
theorem pow_bit {y j : Nat} : (2 ^ y).testBit j = true ↔ y = j := by simp [Nat.testBit_two_pow]
theorem cmulS {a b : Int} (h : 0 ≤ a ∧ a < 2 ^ 64) : CMul a b := .inl ⟨by omega, h.2⟩
section
variable {P : Program} {w : World} {K : PySem.W.Frag} {mg : Str → Option Value} {base : Heap} {fl ft : Addr}
def G_law_flows : DSp := fun xs S Q => ∃ g, xs = [pvG g] ∧ GoodG g ∧ ∀ S' p R, IsRel g R → Ext S S' → S p = none → S' p = some (.lst (pvNs R)) → Q (.loc p) S'
theorem f_law_flows {f : Addr} {fd : FuncData} (F : Fun K "_law_flows" "_law_flows" s__law_flows f fd) (T : Txt K w mg fl ft) (C__law_shared : C8.Cal P w K mg base 2 "_law_shared" (spD K G_law_shared) []) : FnOk P w K mg base CX0 (2+1) f fd ["graph"] (spD K G_law_flows) := by
  refine fnD F sc__law_flows (fun xs S Q h => by obtain ⟨_, rfl, _⟩ := h; rfl) fun cdv A outer s H E hr => ?_
  refine ⟨_, (pss_cons (ps_asg (pv 0) (pgK (K := K) (n := 5) (pgs_cons (pg_name (i := 1) sc__law_flows.nd rfl (Or.inl rfl)) (pgs_cons (pg_name (i := 2) sc__law_flows.nd rfl (Or.inl rfl)) (pgs_cons (pg_name (i := 3) sc__law_flows.nd rfl (Or.inl rfl)) (pgs_cons (pg_name (i := 4) sc__law_flows.nd rfl (Or.inl rfl)) (pgs_cons (pg_name (i := 5) sc__law_flows.nd rfl (Or.inl rfl)) pgs_nil)))))))
    (pss_cons (ps_setLc (i := 6) (own := [("x", 7)]) (tt := tYes) rfl sc__law_flows.nd rfl rfl (sw_true rfl rfl rfl (by decide +kernel)) (pi_range1 (by rfl) T.b_range (pa_cons (pv 1) pa_nil)) (blkOk_by (N := sc__law_flows_N) (sc := defScope s__law_flows) (by decide +kernel)) (fun _ _ _ _ _ => pg_name (i := 7) sc__law_flows.nd rfl (Or.inl rfl)) (fun _ _ _ _ _ => pts_nil) (fun _ _ _ _ _ => (pe_op op_shl pe_int (pv 7))))
    (pss_cons (ps_for PassesOwn.never rfl (pi_tup (pv 4)) (pgK (K := K) (n := 2) (pgs_cons (pg_name (i := 7) sc__law_flows.nd rfl (Or.inl rfl)) (pgs_cons (pg_name (i := 8) sc__law_flows.nd rfl (Or.inl rfl)) pgs_nil))) (pss_one (ps_asg (pe_op op_or (pe_ix (ixK (K := K)) (pv 6) (pv 7) (fun _ _ => rfl)) (pe_op op_shl pe_int (pv 8))) (pg_sub (pv 6) (pv 7) set_list))))
    (pss_cons (ps_for PassesOwn.never rfl (pi_range1 (by rfl) T.b_range (pa_cons (pe_op op_plus (pe_op op_mul (pv 1) (pv 1)) pe_int) pa_nil)) (pg_name (i := 9) sc__law_flows.nd rfl (Or.inl rfl)) (pss_cons (ps_set (i := 10) sc__law_flows.nd rfl (Or.inl rfl) (pe_callTy c_list (by rfl) T.b_list bt_list (pa_cons (pv 6) pa_nil)))
    (pss_cons (ps_for PassesOwn.never rfl (pi_range1 (by rfl) T.b_range (pa_cons (pv 1) pa_nil)) (pg_name (i := 11) sc__law_flows.nd rfl (Or.inl rfl)) (pss_one (ps_for PassesOwn.never rfl (pi_range1 (by rfl) T.b_range (pa_cons (pv 1) pa_nil)) (pg_name (i := 7) sc__law_flows.nd rfl (Or.inl rfl)) (pss_one (ps_if (pt_cmpR op_eq (pe_op op_and (pe_op op_shr (pe_ix (ixK (K := K)) (pv 6) (pv 7) (fun _ _ => rfl)) (pv 11)) pe_int) pe_int (nomark _)) (pss_one (ps_asg (pe_op op_or (pe_ix (ixK (K := K)) (pv 6) (pv 7) (fun _ _ => rfl)) (pe_ix (ixK (K := K)) (pv 6) (pv 11) (fun _ _ => rfl))) (pg_sub (pv 6) (pv 7) set_list))) pss_nil)))))
    (pss_cons (ps_for PassesOwn.never rfl (pi_tup (pv 2)) (pgK (K := K) (n := 2) (pgs_cons (pg_name (i := 7) sc__law_flows.nd rfl (Or.inl rfl)) (pgs_cons (pg_name (i := 12) sc__law_flows.nd rfl (Or.inl rfl)) pgs_nil))) (pss_one (ps_for PassesOwn.never rfl (pi_tup (pv 3)) (pgK (K := K) (n := 2) (pgs_cons (pg_name (i := 8) sc__law_flows.nd rfl (Or.inl rfl)) (pgs_cons (pg_name (i := 13) sc__law_flows.nd rfl (Or.inl rfl)) pgs_nil))) (pss_one (ps_if (PW.pt (pw_and (pt_cmpR op_eq (pe_op op_and (pe_op op_shr (pe_ix (ixK (K := K)) (pv 6) (pv 7) (fun _ _ => rfl)) (pv 8)) pe_int) pe_int (nomark _)) (pw_and1 (pt_cmpR (o_notInDT (room65 hr)) (pe_tup (pa_cons (pv 7) (pa_cons (pv 8) pa_nil))) (pv 5) (by rfl))))) (pss_one (ps_for PassesOwn.never rfl (pi_list (C8.pe_c C__law_shared hr (by decide) (by rfl) (pa_cons (pv 12) (pa_cons (pv 13) pa_nil)))) (pgK (K := K) (n := 2) (pgs_cons (pg_name (i := 14) sc__law_flows.nd rfl (Or.inl rfl)) (pgs_cons (pgK (K := K) (n := 2) (pgs_cons (pg_name (i := 15) sc__law_flows.nd rfl (Or.inl rfl)) (pgs_cons (pg_name (i := 16) sc__law_flows.nd rfl (Or.inl rfl)) pgs_nil))) pgs_nil))) (pss_one (ps_asg (pe_op op_or (pe_ix (ixK (K := K)) (pv 6) (pv 15) (fun _ _ => rfl)) (pe_op op_shl pe_int (pv 16))) (pg_sub (pv 6) (pv 15) set_list))))) pss_nil)))))
    (pss_one (ps_if (pt_cmpR (op_eqD (room64 hr)) (pv 6) (pv 10) (nomark _)) (pss_one (ps_ret (pv 6))) pss_nil))))))
    (pss_one (ps_ret (pv 6))))))), ?_⟩
  try dsimp only [cxOf, Cx.nox, Cx.wish]
  refine ⟨_, inferInstance, ?_⟩
  rintro _ S Q ⟨g, rfl, hg, q⟩
  have h14 := hg.most
  refine seq_inv3 (fun ρ S1 => ∃ p R o7 o8 o9 o10 o11 o12 o13 o14 o15 o16, ρ = ρF g p [o7, o8, o9, o10, o11, o12, o13, o14, o15, o16] ∧ Fl S p R S1 ∧ Snd g R ∧ (∀ i, i < g.many → bit R i i = true) ∧ (∀ e ∈ g.ed, bit R e.1 e.2 = true)) (fun ρ S1 h => ?_) (fun N hN => ?_)
  · obtain ⟨p, R, o7, o8, o9, o10, o11, o12, o13, o14, o15, o16, rfl, f1, sn, rf, ed⟩ := h
    refine seq_inv (fun _ _ => False) (fun _ _ h => h.elim) (fun N hN => ?_)
    unfold ρF
    walk_at "D"
    have hmm : g.many * g.many ≤ 14 * 14 := Nat.mul_le_mul h14 h14
    have hcast : (g.many : Int) * (g.many : Int) = ((g.many * g.many : Nat) : Int) := by simp
    rw [hcast]
    refine ⟨cmulS (by omega), by omega, by omega, ?_⟩
    refine forR_inv (fun r ρ S1 => ∃ R o7 o8 o9 o10 o11 o12 o13 o14 o15 o16, ρ = ρF g p [o7, o8, o9, o10, o11, o12, o13, o14, o15, o16] ∧ Fl S p R S1 ∧ Snd g R ∧ (∀ i, i < g.many → bit R i i = true) ∧ (∀ e ∈ g.ed, bit R e.1 e.2 = true) ∧ zeros g.many R + 1 ≤ r.length) (fun x r ρ S1 hI N2 hN2 => ?_) (fun ρ S1 hI => ?_) _ _ _
      ⟨R, _, _, _, _, _, _, _, _, _, _, rfl, f1, sn, rf, ed, by have := zeros_le g.many R; rw [rngP_length]; omega⟩
    · obtain ⟨R0, o7, o8, o9, o10, o11, o12, o13, o14, o15, o16, rfl, f1, sn0, rf, ed, hz⟩ := hI
      rw [List.length_cons] at hz
      simp only [dgName]
      refine seq_inv2 (fun ρ S1 => ∃ q R o7 o8 o9 o11 o12 o13 o14 o15 o16, ρ = ρF g p [o7, o8, o9, some (.loc q), o11, o12, o13, o14, o15, o16] ∧ Fl S p R S1 ∧ S1 q = some (.lst (pvNs R0)) ∧ q ≠ p ∧ Snd g R ∧ Ge R0 R ∧ ∀ mid x j, mid < g.many → x < g.many → bit R0 x mid = true → bit R0 mid j = true → bit R x j = true) (fun ρ S1 h => ?_) (fun N3 hN3 => ?_)
      · obtain ⟨q', R, o7, o8, o9, o11, o12, o13, o14, o15, o16, rfl, f2, hq, nq, sn, ge, tr⟩ := h
        refine seq_inv (fun ρ S1 => ∃ q R o7 o8 o9 o11 o12 o13 o14 o15 o16, ρ = ρF g p [o7, o8, o9, some (.loc q), o11, o12, o13, o14, o15, o16] ∧ Fl S p R S1 ∧ S1 q = some (.lst (pvNs R0)) ∧ Snd g R ∧ Pas g R0 R) (fun ρ S1 h => ?_) (fun N3 hN3 => ?_)
        · obtain ⟨q2, R, o7, o8, o9, o11, o12, o13, o14, o15, o16, rfl, f2, hq, sn, ps⟩ := h
          unfold ρF
          walk_at "D"
          refine eqD_ns f2.r hq ?_
          dsimp only
          split
          · rename_i he
            have he : R = R0 := by simpa using he
            subst he
            exact q _ p R (isRel_of hg sn ps rf ed) f2.ex f2.p0 f2.r
          · rename_i he
            have he : R ≠ R0 := by simpa using he
            have hl := ge_less hg sn0 sn ps.ge he
            exact hN2 _ _ ⟨R, _, _, _, _, _, _, _, _, _, _, rfl, f2, sn, fun i hi => ps.ge _ _ (rf i hi), fun e he => ps.ge _ _ (ed e he), by omega⟩
        · unfold ρF
          walk_at "D"
          simp only [tupP, optD_some]
          refine forR_inv (fun r ρ S1 => ∃ (done todo : List (Nat × Hd)) (R1 : List Nat) (o7 o8 o12 o13 o14 o15 o16 : Option PV), g.lo = done ++ todo ∧ r = todo.map pvRow ∧ ρ = ρF g p [o7, o8, o9, some (.loc q'), o11, o12, o13, o14, o15, o16] ∧ Fl S p R1 S1 ∧ S1 q' = some (.lst (pvNs R0)) ∧ Snd g R1 ∧ Ge R R1 ∧ ∀ r ∈ done, ∀ u ∈ g.up, bit R0 r.1 u.1 = true → (r.1, u.1) ∉ g.al → ∀ t ∈ flowsH r.2 u.2, bit R1 t.2.1 t.2.2 = true) (fun y r ρ S1 hI N4 hN4 => ?_) (fun ρ S1 hI => ?_) _ _ _
            ⟨[], g.lo, R, _, _, _, _, _, _, _, rfl, rfl, rfl, f2, hq, sn, fun _ _ h => h, fun _ h => absurd h (by simp)⟩
          · obtain ⟨done, todo, R1, o7, o8, o12, o13, o14, o15, o16, ea, er, rfl, f3, h3, sn1, ge1, fl1⟩ := hI
            cases todo with
            | nil => cases er
            | cons t todo =>
              cases er
              have ht := hg.lo.hd t (by rw [ea]; simp)
              have htm : t ∈ g.lo := by rw [ea]; simp
              unfold ρF pvRow
              walk_at "D"
              simp only [tupP, optD_some]
              refine forR_inv (fun r ρ S1 => ∃ (done2 todo2 : List (Nat × Hd)) (R2 : List Nat) (o8 o13 o14 o15 o16 : Option PV), g.up = done2 ++ todo2 ∧ r = todo2.map pvRow ∧ ρ = ρF g p [some (.int t.1), o8, o9, some (.loc q'), o11, some (pvH t.2), o13, o14, o15, o16] ∧ Fl S p R2 S1 ∧ S1 q' = some (.lst (pvNs R0)) ∧ Snd g R2 ∧ Ge R1 R2 ∧ ∀ u ∈ done2, bit R0 t.1 u.1 = true → (t.1, u.1) ∉ g.al → ∀ z ∈ flowsH t.2 u.2, bit R2 z.2.1 z.2.2 = true) (fun y r ρ S1 hI N5 hN5 => ?_) (fun ρ S1 hI => ?_) _ _ _
                ⟨[], g.up, R1, _, _, _, _, _, rfl, rfl, rfl, f3, h3, sn1, fun _ _ h => h, fun _ h => absurd h (by simp)⟩
              · obtain ⟨done2, todo2, R2, o8, o13, o14, o15, o16, ea2, er2, rfl, f4, h4, sn2, ge2, fl2⟩ := hI
                cases todo2 with
                | nil => cases er2
                | cons u todo2 =>
                  cases er2
                  have hu := hg.up.hd u (by rw [ea2]; simp)
                  have hum : u ∈ g.up := by rw [ea2]; simp
                  have skip : ∀ S3, Ext S1 S3 → (bit R0 t.1 u.1 = true → (t.1, u.1) ∉ g.al → ∀ z ∈ flowsH t.2 u.2, bit R2 z.2.1 z.2.2 = true) → ∀ o13 o14 o15 o16, N5 (ρF g p [some (.int t.1), some (.int u.1), o9, some (.loc q'), o11, some (pvH t.2), o13, o14, o15, o16]) S3 := fun S3 e3 hz o13 o14 o15 o16 =>
                    hN5 _ _ ⟨done2 ++ [u], todo2, R2, _, _, _, _, _, by rw [ea2]; simp, rfl, rfl, f4.ext e3, e3 _ _ h4, sn2, ge2, fun v hv => (List.mem_append.mp hv).elim (fl2 v) fun hv => by obtain rfl := List.mem_singleton.mp hv; exact hz⟩
                  unfold ρF pvRow
                  walk_at "D"
                  rw [f4.r]
                  simp only [optD_some]
                  rw [pvNs_at (by rw [sn2.len]; exact ht.1)]
                  simp only [optD_some]
                  refine ⟨by omega, ?_⟩
                  rw [Int.toNat_natCast, bit_and1, show (R2.getD t.1 0).testBit u.1 = bit R2 t.1 u.1 from rfl]
                  by_cases hb : bit R2 t.1 u.1 = true
                  · rw [hb]
                    simp only [if_true, decide_true]
                    refine ⟨by decide, ?_⟩
                    rw [datS_pr (p := (t.1, u.1)), dat_prs]
                    simp only [optD_some]
                    refine ⟨shaped_pr _, shaped_prs _, ?_⟩
                    rw [any_prs]
                    by_cases hal : (t.1, u.1) ∈ g.al
                    · rw [if_neg (by simp [hal])]
                      exact skip S1 Ext.refl (fun _ z => absurd hal z) _ _ _ _
                    · rw [if_pos (by simp [hal])]
                      refine ⟨t.2, u.2, g.many, rfl, ht.2.1, hu.2.1, fun S3 s e3 hs0 hs => ?_⟩
                      dsimp only
                      rw [lr_at hs]
                      simp only [optD_some]
                      have f5 := f4.ext e3
                      have h5 := e3 _ _ h4
                      have nsp : s ≠ p := fun z => by rw [z, f4.r] at hs0; cases hs0
                      have nsq : s ≠ q' := fun z => by rw [z, h4] at hs0; cases hs0
                      have hsS : S s = none := none_back f4.ex hs0
                      refine forR_inv (fun r ρ S4 => ∃ (done3 todo3 : List (PV × Nat × Nat)) (R3 : List Nat) (o14 o15 o16 : Option PV), flowsH t.2 u.2 = done3 ++ todo3 ∧ r = todo3.map pvSh ∧ ρ = ρF g p [some (.int t.1), some (.int u.1), o9, some (.loc q'), o11, some (pvH t.2), some (pvH u.2), o14, o15, o16] ∧ Fl S p R3 S4 ∧ S4 q' = some (.lst (pvNs R0)) ∧ Snd g R3 ∧ Ge R2 R3 ∧ ∀ z ∈ done3, bit R3 z.2.1 z.2.2 = true) (fun y r ρ S4 hI N6 hN6 => ?_) (fun ρ S4 hI => ?_) _ _ _
                        ⟨[], _, R2, _, _, _, rfl, rfl, rfl, ⟨Ext.mset2 hsS f5.ex, f5.p0, by unfold ldP; rw [mset_ne (Ne.symm nsp)]; exact f5.r⟩, by unfold ldP; rw [mset_ne (Ne.symm nsq)]; exact h5, sn2, fun _ _ h => h, fun _ h => absurd h (by simp)⟩
                      · obtain ⟨done3, todo3, R3, o14, o15, o16, ea3, er3, rfl, f6, h6, sn3, ge3, fl3⟩ := hI
                        cases todo3 with
                        | nil => cases er3
                        | cons z todo3 =>
                          cases er3
                          have hz : z ∈ flowsH t.2 u.2 := by rw [ea3]; simp
                          have hrel : Rel g z.2.1 z.2.2 := flow_rel htm hum (sn2.snd _ _ hb) hal hz
                          have hzl := hrel.lt hg
                          unfold ρF pvSh
                          walk_at "D"
                          rw [f6.r]
                          simp only [optD_some]
                          rw [pvNs_at (by rw [sn3.len]; exact hzl.1)]
                          simp only [optD_some]
                          refine ⟨⟨by omega, by omega, by decide⟩, ?_⟩
                          rw [lst_at f6.r]
                          simp only [optD_some]
                          rw [ix_nat (by rw [pvNs, List.length_map, sn3.len]; exact hzl.1)]
                          simp only [optD_some]
                          rw [pow_nat, or_nat, pvNs_set]
                          obtain ⟨s1, s2, s3⟩ := sn3.orSet (v := 2 ^ z.2.2) hzl.1 fun j hj => by
                            rw [pow_bit] at hj; subst hj; exact hrel
                          refine hN6 _ _ ⟨done3 ++ [z], todo3, _, _, _, _, by rw [ea3]; simp, rfl, rfl, f6.set, by rw [mset_ne nq]; exact h6, s1, fun a b h => s2 _ _ (ge3 a b h), fun v hv => ?_⟩
                          rcases List.mem_append.mp hv with hv | hv
                          · exact s2 _ _ (fl3 v hv)
                          · obtain rfl := List.mem_singleton.mp hv
                            exact s3 _ (pow_bit.mpr rfl)
                      · obtain ⟨done3, todo3, R3, o14, o15, o16, ea3, er3, rfl, f6, h6, sn3, ge3, fl3⟩ := hI
                        cases todo3 with
                        | cons t todo => cases er3
                        | nil =>
                        rw [List.append_nil] at ea3
                        simp only [bkD, bkS]
                        refine hN5 _ _ ⟨done2 ++ [u], todo2, R3, _, _, _, _, _, by rw [ea2]; simp, rfl, rfl, ⟨Ext.mset2 hsS f6.ex, f6.p0, by rw [mset_ne (Ne.symm nsp)]; exact f6.r⟩, by rw [mset_ne (Ne.symm nsq)]; exact h6, sn3, fun a b h => ge3 _ _ (ge2 a b h), fun v hv => ?_⟩
                        rcases List.mem_append.mp hv with hv | hv
                        · exact fun a b z hz => ge3 _ _ (fl2 v hv a b z hz)
                        · obtain rfl := List.mem_singleton.mp hv
                          exact fun a b z hz => fl3 z (by rw [← ea3]; exact hz)
                  · have hb' := eq_false_of_ne_true hb
                    rw [hb']
                    simp only [Bool.false_eq_true, if_false]
                    exact skip S1 Ext.refl (fun z => absurd (ge2 _ _ (ge1 _ _ (ge _ _ z))) hb) _ _ _ _
              · obtain ⟨done2, todo2, R2, o8, o13, o14, o15, o16, ea2, er2, rfl, f4, h4, sn2, ge2, fl2⟩ := hI
                cases todo2 with
                | cons t todo => cases er2
                | nil =>
                rw [List.append_nil] at ea2
                refine hN4 _ _ ⟨done ++ [t], todo, R2, _, _, _, _, _, _, _, by rw [ea]; simp, rfl, rfl, f4, h4, sn2, fun a b h => ge2 _ _ (ge1 a b h), fun v hv => ?_⟩
                rcases List.mem_append.mp hv with hv | hv
                · exact fun u hu a b z hz => ge2 _ _ (fl1 v hv u hu a b z hz)
                · obtain rfl := List.mem_singleton.mp hv
                  exact fun u hu => fl2 u (by rw [← ea2]; exact hu)
          · obtain ⟨done, todo, R1, o7, o8, o12, o13, o14, o15, o16, ea, er, rfl, f3, h3, sn1, ge1, fl1⟩ := hI
            cases todo with
            | cons t todo => cases er
            | nil =>
            rw [List.append_nil] at ea
            exact hN3 _ _ ⟨q', R1, _, _, _, _, _, _, _, _, _, rfl, f3, h3, sn1, fun a b h => ge1 _ _ (ge a b h), fun mid x j a b c d => ge1 _ _ (tr mid x j a b c d), fun r hr => fl1 r (by rw [← ea]; exact hr)⟩
      · unfold ρF
        walk_at "D"
        rw [f1.r]
        simp only [optD_some]
        intro q' hq'
        have npq := ne_of f1.r hq'
        refine ⟨by omega, by omega, ?_⟩
        rw [Int.toNat_natCast]
        refine forR_inv (fun r ρ S1 => ∃ (k : Nat) (R : List Nat) (o7 o11 : Option PV), k ≤ g.many ∧ r = rngP k (g.many - k) ∧ ρ = ρF g p [o7, o8, some x, some (.loc q'), o11, o12, o13, o14, o15, o16] ∧ Fl S p R S1 ∧ S1 q' = some (.lst (pvNs R0)) ∧ Snd g R ∧ Ge R0 R ∧ ∀ mid x j, mid < k → x < g.many → bit R0 x mid = true → bit R0 mid j = true → bit R x j = true) (fun y r ρ S1 hI N2 hN2 => ?_) (fun ρ S1 hI => ?_) _ _ _
          ⟨0, R0, _, _, Nat.zero_le _, by rw [Nat.sub_zero]; rfl, rfl, f1.ext (Ext.new hq'), mset_same, sn0, fun _ _ h => h, fun _ _ _ h => absurd h (by omega)⟩
        · obtain ⟨k, R, o7, o11, hk, er, rfl, f3, h3, sn, ge, tr⟩ := hI
          rcases hn : g.many - k with _ | n
          · rw [hn] at er; cases er
          · rw [hn, rngP] at er
            cases er
            have hkm : k < g.many := by omega
            unfold ρF
            walk_at "D"
            refine ⟨by omega, by omega, ?_⟩
            rw [Int.toNat_natCast]
            refine forR_inv (fun r ρ S1 => ∃ (i : Nat) (R : List Nat) (o7 : Option PV), i ≤ g.many ∧ r = rngP i (g.many - i) ∧ ρ = ρF g p [o7, o8, some x, some (.loc q'), some (.int k), o12, o13, o14, o15, o16] ∧ Fl S p R S1 ∧ S1 q' = some (.lst (pvNs R0)) ∧ Snd g R ∧ Ge R0 R ∧ ∀ mid x j, (mid < k ∨ (mid = k ∧ x < i)) → x < g.many → bit R0 x mid = true → bit R0 mid j = true → bit R x j = true) (fun y r ρ S1 hI N4 hN4 => ?_) (fun ρ S1 hI => ?_) _ _ _
              ⟨0, R, _, Nat.zero_le _, by rw [Nat.sub_zero]; rfl, rfl, f3, h3, sn, ge, fun mid x j h => (h.elim (fun h => tr mid x j h) fun h => absurd h.2 (by omega))⟩
            · obtain ⟨i, R, o7, hi, er, rfl, f3, h3, sn, ge, tr⟩ := hI
              rcases hn : g.many - i with _ | n2
              · rw [hn] at er; cases er
              · rw [hn, rngP] at er
                cases er
                have him : i < g.many := by omega
                unfold ρF
                walk_at "D"
                rw [f3.r]
                simp only [optD_some]
                rw [pvNs_at (by rw [sn.len]; exact him)]
                simp only [optD_some]
                refine ⟨by omega, ?_⟩
                rw [Int.toNat_natCast, bit_and1, show (R.getD i 0).testBit k = bit R i k from rfl]
                by_cases hb : bit R i k = true
                · rw [hb]
                  simp only [if_true, decide_true]
                  rw [pvNs_at (by rw [sn.len]; exact hkm)]
                  simp only [optD_some]
                  rw [lst_at f3.r]
                  simp only [optD_some]
                  rw [ix_nat (by rw [pvNs, List.length_map, sn.len]; exact him)]
                  simp only [optD_some]
                  rw [or_nat, pvNs_set]
                  obtain ⟨s1, s2, s3⟩ := sn.orSet (v := R.getD k 0) him fun j hj => .trans (sn.snd _ _ hb) (sn.snd k j hj)
                  refine hN4 _ _ ⟨i + 1, _, _, him, by rw [show g.many - (i + 1) = n2 by omega]; rfl, rfl, f3.set, by rw [mset_ne (Ne.symm npq)]; exact h3, s1, fun a b h => s2 _ _ (ge a b h), fun mid x j h hx h1 h2 => ?_⟩
                  by_cases hc : mid < k ∨ (mid = k ∧ x < i)
                  · exact s2 _ _ (tr mid x j hc hx h1 h2)
                  · obtain ⟨rfl, rfl⟩ : mid = k ∧ x = i := by omega
                    exact s3 j (ge _ _ h2)
                · have hb' := eq_false_of_ne_true hb
                  rw [hb']
                  simp only [Bool.false_eq_true, if_false]
                  refine hN4 _ _ ⟨i + 1, R, _, him, by rw [show g.many - (i + 1) = n2 by omega]; rfl, rfl, f3, h3, sn, ge, fun mid x j h hx h1 h2 => ?_⟩
                  by_cases hc : mid < k ∨ (mid = k ∧ x < i)
                  · exact tr mid x j hc hx h1 h2
                  · obtain ⟨rfl, rfl⟩ : mid = k ∧ x = i := by omega
                    exact absurd (ge _ _ h1) hb
            · obtain ⟨i, R, o7, hi, er, rfl, f3, h3, sn, ge, tr⟩ := hI
              have hi' : i = g.many := by
                rcases hn : g.many - i with _ | n2
                · omega
                · rw [hn, rngP] at er; cases er
              subst hi'
              exact hN2 _ _ ⟨k + 1, R, _, _, hkm, by rw [show g.many - (k + 1) = n by omega]; rfl, rfl, f3, h3, sn, ge, fun mid x j h hx => tr mid x j (by omega) hx⟩
        · obtain ⟨k, R, o7, o11, hk, er, rfl, f3, h3, sn, ge, tr⟩ := hI
          have hk' : k = g.many := by
            rcases hn : g.many - k with _ | n2
            · omega
            · rw [hn, rngP] at er; cases er
          subst hk'
          exact hN3 _ _ ⟨q', R, _, _, _, _, _, _, _, _, _, rfl, f3, h3, Ne.symm npq, sn, ge, tr⟩
    · obtain ⟨R0, o7, o8, o9, o10, o11, o12, o13, o14, o15, o16, rfl, f1, sn0, rf, ed, hz⟩ := hI
      exact absurd hz (by simp)
  · unfold pvG
    walk_at "D"
    refine ⟨rfl, by omega, by omega, by rw [rngP_length, Int.toNat_natCast, sizeLine_eq]; omega, ?_⟩
    rw [Int.toNat_natCast]
    refine lcR_map powP (fun x hx S1 e acc R hR => ?_) fun S1 p e1 hp _ => ?_
    · obtain ⟨i, rfl, hi⟩ := rngP_mem hx
      walk_at "D"
      exact ⟨⟨by omega, by omega, by decide⟩, hR S1 Ext.refl⟩
    simp only [bkS, rngP_pows]
    simp only [tupP, optD_some]
    refine forR_inv (fun r ρ S1 => ∃ done todo R o7 o8, g.ed = done ++ todo ∧ r = todo.map pvPr ∧ ρ = ρF g p [o7, o8, none, none, none, none, none, none, none, none] ∧ Fl S p R S1 ∧ Snd g R ∧ (∀ i, i < g.many → bit R i i = true) ∧ (∀ e ∈ done, bit R e.1 e.2 = true)) (fun x r ρ S1 hI N2 hN2 => ?_) (fun ρ S1 hI => ?_) _ _ _
      ⟨[], g.ed, ids g.many, none, none, rfl, rfl, rfl, ⟨e1.new2 hp, none_back e1 hp, mset_same⟩, snd_ids, fun i hi => (bit_ids _ i i).mpr ⟨rfl, hi⟩, fun _ h => absurd h (by simp)⟩
    · obtain ⟨done, todo, R, o7, o8, ea, er, rfl, f1, sn, rf, ed⟩ := hI
      cases todo with
      | nil => cases er
      | cons t todo =>
        cases er
        unfold ρF pvPr
        walk_at "D"
        have ht : t ∈ g.ed := by rw [ea]; simp
        have hl := hg.ed.lt t ht
        rw [f1.r]
        simp only [optD_some]
        rw [pvNs_at (by rw [sn.len]; exact hl.1)]
        simp only [optD_some]
        refine ⟨⟨by omega, by omega, by decide⟩, ?_⟩
        rw [lst_at f1.r]
        simp only [optD_some]
        rw [ix_nat (by rw [pvNs, List.length_map, sn.len]; exact hl.1)]
        simp only [optD_some]
        rw [pow_nat, or_nat, pvNs_set]
        obtain ⟨s1, s2, s3⟩ := sn.orSet (v := 2 ^ t.2) hl.1 fun j hj => by
          rw [pow_bit] at hj; subst hj; exact .edge ht
        refine hN2 _ _ ⟨done ++ [t], todo, _, _, _, by rw [ea]; simp, rfl, rfl, f1.set, s1, fun i hi => s2 i i (rf i hi), fun e he => ?_⟩
        rcases List.mem_append.mp he with he | he
        · exact s2 _ _ (ed e he)
        · obtain rfl := List.mem_singleton.mp he
          exact s3 _ (pow_bit.mpr rfl)
    · obtain ⟨done, todo, R, o7, o8, ea, er, rfl, f1, sn, rf, ed⟩ := hI
      cases todo with
      | cons t todo => cases er
      | nil =>
      rw [List.append_nil] at ea
      subst ea
      exact hN _ _ ⟨p, R, _, _, _, _, _, _, _, _, _, _, rfl, f1, sn, rf, ed⟩
end
end K06

namespace K06
open PySem PySem.Spec PyProof.Rows L2 DL
local macro_rules | `(tactic| walk_at "D") => `(tactic| simp only [dRet, dRetN, dNext, dSeq, dIfS, dDrop, dAsg, dgName, dgFld, dAndV, dOrV, dNotV, dAnd, dOr, dNot, dTest, dIf, dCB, dCons, dNil, dVar, getv, dC, sc, dChain, dOp, dUn, dI0, dI, dU, dEqS, dNeS, dIsi, dLen, dIx, dPart, dNoPart, dSl, dSlX, dCall, dAllC, dTup, dLst, dYes, dInSg, dInF, seqP, dLc, bkS, dFor, bkD, dIStr, dITup, dIZip, dIList, wipeD, dWGet, dCallA, dDictK, dDIn, dListC, dTupC, dDGet, dgTup, dgCons, dgNil, dPar, dPar3, dBM, dBM0, dAppend, dExtend, dPop, dty, dBits, dgSub, dSetL, dFld, dsFld, dMeth, dMake, dDGet1, dDSetd, dsDPut, dRevL, dPlus, dDisp, dPairs, dIEnum, dIEnumT, dIRng1, dIRng2, dIKeys, dLock, dTupF1, dTupF, dDictN, dSortN, dInN, dDcN, dInT, dIsN, dNotN, dIsB, dI2, dInt1, dRepr, dWhile, dDNewK, dAug, dBreak, dCont, dNever,
  startD, List.map_cons, List.map_nil, List.length_cons, List.length_nil, List.getElem?_cons_zero, List.getElem?_cons_succ, List.cons_append, List.nil_append, List.replicate, Nat.reduceAdd, Nat.reduceSub, List.set_cons_zero, List.set_cons_succ, isB, tyP, okTy, optD_some, optD_none, Option.isSome_some, true_and, and_true, if_true, if_false, Bool.false_eq_true, List.all_cons, List.all_nil, beq_self_eq_true, eqP_int, eqP_str, scal_int, scal_str, Bool.not_true, Bool.not_false, decide_true, decide_false])
theorem rngP_nat (m : Nat) : rngP 0 m = (List.range m).map fun (i : Nat) => PV.int i := by
  have h := rngP_eq m 0
  rw [show ((0 : Nat) : Int) = 0 from rfl] at h
  rw [h, List.range_eq_range']
section
variable {P : Program} {w : World} {K : PySem.W.Frag} {mg : Str → Option Value} {base : Heap} {fl ft : Addr}
def G_law_pairs : DSp := fun xs S Q => ∃ (p : Addr) (m : Nat) (R : List Nat), xs = [.loc p] ∧ S p = some (.lst (pvNs R)) ∧ R.length = m ∧ m ≤ 14 ∧ ∀ S', Ext S S' → Q (.tup ((pairsOf m R).map pvPr)) S'
theorem f_law_pairs {f : Addr} {fd : FuncData} (F : Fun K "_law_pairs" "_law_pairs" s__law_pairs f fd) (T : Txt K w mg fl ft) : FnOk P w K mg base CX0 (0+1) f fd ["rows"] (spD K G_law_pairs) := by
  refine fnD F sc__law_pairs (fun xs S Q h => by obtain ⟨_, _, _, rfl, _⟩ := h; rfl) fun cdv A outer s H E hr => ?_
  refine ⟨_, (pss_cons (ps_set (i := 1) sc__law_pairs.nd rfl (Or.inl rfl) (pe_lst pa_nil))
    (pss_cons (ps_for PassesOwn.never rfl (pi_enum (by rfl) T.b_enumerate (pa_cons (pv 0) pa_nil)) (pgK (K := K) (n := 2) (pgs_cons (pg_name (i := 2) sc__law_pairs.nd rfl (Or.inr rfl)) (pgs_cons (pg_name (i := 3) sc__law_pairs.nd rfl (Or.inr rfl)) pgs_nil))) (pss_one (ps_expr (pe_bm PySem.F.plainAttrs_list PySem.F.slot_list_extend PySem.F.type_list_extend mt_extend (pv 1) (pa_cons (pe_lc (own := [("y", 4)]) rfl sc__law_pairs.nd (pi_range1 (by rfl) T.b_range (pa_cons (pe_callB c_len (by rfl) T.b_len bt_len (pa_cons (pv 0) pa_nil)) pa_nil)) (blkOk_by (N := sc__law_pairs_N) (sc := defScope s__law_pairs) (by decide +kernel)) (fun _ _ _ _ _ => pg_name (i := 4) sc__law_pairs.nd rfl (Or.inl rfl)) (fun _ _ _ _ _ => (pts_one (PW.pt (pw_and (pt_cmpR op_ne (pv 2) (pv 4) (nomark _)) (pw_and1 (pt_cmpR op_eq (pe_op op_and (pe_op op_shr (pv 3) (pv 4)) pe_int) pe_int (nomark _))))))) (fun _ _ _ _ _ => (pe_tup (pa_cons (pv 2) (pa_cons (pv 4) pa_nil))))) pa_nil)))))
    (pss_one (ps_ret (pe_callTy c_tuple (by rfl) T.b_tuple bt_tuple (pa_cons (pv 1) pa_nil)))))), ?_⟩
  try dsimp only [cxOf, Cx.nox, Cx.wish]
  refine ⟨_, inferInstance, ?_⟩
  rintro _ S Q ⟨p, m, R, rfl, hp, hl, hm, q⟩
  walk_at "D"
  refine ⟨Nat.zero_le _, fun fd hfd => ?_⟩
  have npf := ne_of hp hfd
  rw [lr_at (by rw [mset_ne npf]; exact hp)]
  simp only [optD_some]
  refine forR_inv (fun r ρ S1 => ∃ k o2 o3 o4, k ≤ m ∧ r = enumP k (pvNs (R.drop k)) ∧ ρ = [some (.loc p), some (.loc fd), o2, o3, o4] ∧ ExtB [p] S S1 ∧ S1 p = some (.rol (pvNs R)) ∧ S1 fd = some (.lst (((List.range k).flatMap (rowPairs R m)).map pvPr))) (fun x r ρ S1 hI N hN => ?_) (fun ρ S1 hI => ?_) _ _ _
    ⟨0, none, none, none, Nat.zero_le _, rfl, rfl, ((toB (Ext.new hfd)).put (by simp)), mset_same, by rw [ldP, mset_ne (Ne.symm npf), mset_same]; rfl⟩
  · obtain ⟨k, o2, o3, o4, hk, e, rfl, b1, p1, f1⟩ := hI
    by_cases hk2 : k < m
    · have hd : R.drop k = R.getD k 0 :: R.drop (k + 1) := by
        rw [List.drop_eq_getElem_cons (by omega), List.getD_eq_getElem?_getD, List.getElem?_eq_getElem (by omega)]; rfl
      rw [hd, pvNs, List.map_cons, enumP_cons] at e
      cases e
      walk_at "D"
      refine ⟨.inl ⟨_, f1⟩, rfl, ?_⟩
      rw [p1]
      simp only [optD_some, pvNs, List.length_map]
      rw [hl]
      refine ⟨by omega, by omega, by rw [rngP_length, Int.toNat_natCast, sizeLine_eq]; omega, ?_⟩
      rw [Int.toNat_natCast, rngP_nat]
      refine lcR_inv (fun todo acc S2 => ∃ done ys, List.range m = done ++ ys ∧ todo = ys.map (fun (i : Nat) => PV.int i) ∧ acc = ((done.filter fun y => bit R k y && decide (y ≠ k)).map fun y => (k, y)).map pvPr ∧ Ext S1 S2) (fun x r acc S2 hI R' hR => ?_) (fun acc S2 a hI h1 h2 => ?_) _ _ _
        ⟨[], List.range m, rfl, rfl, rfl, Ext.refl⟩
      · obtain ⟨done, ys, ea, er, rfl, e2⟩ := hI
        cases ys with
        | nil => cases er
        | cons y ys =>
          cases er
          walk_at "D"
          have fin : ∀ b : Bool, (bit R k y && decide (y ≠ k)) = b → R' (((done.filter fun y => bit R k y && decide (y ≠ k)).map fun y => (k, y)).map pvPr ++ (if b = true then [.tup [.int k, .int y]] else [])) S2 := fun b hb => by
            refine hR _ _ ⟨done ++ [y], ys, by rw [ea]; simp, rfl, ?_, e2⟩
            rw [List.filter_append, List.map_append, List.map_append]
            congr 1
            cases b with
            | true => rw [if_pos rfl, List.filter_cons, if_pos hb]; rfl
            | false => rw [if_neg (by decide), List.filter_cons, if_neg (by rw [hb]; decide)]; rfl
          by_cases hyk : y = k
          · subst hyk
            rw [if_neg (by simp)]
            have := fin false (by simp)
            simpa using this
          · rw [if_pos (by simp; omega)]
            refine ⟨by omega, ?_⟩
            rw [Int.toNat_natCast, bit_and1, show (R.getD k 0).testBit y = bit R k y from rfl]
            by_cases hb : bit R k y = true
            · rw [hb]
              simp only [if_true, decide_true]
              have := fin true (by simp [hb, hyk])
              rw [if_pos rfl] at this
              exact ⟨by decide, this⟩
            · have hb' := eq_false_of_ne_true hb
              rw [hb']
              simp only [Bool.false_eq_true, if_false]
              have := fin false (by simp [hb'])
              simpa using this
      · obtain ⟨done, ys, ea, er, rfl, e2⟩ := hI
        cases ys with
        | cons y ys => cases er
        | nil =>
        rw [List.append_nil] at ea
        subst ea
        simp only [bkS]
        have f2 := e2 _ _ f1
        have n2 : fd ≠ a := ne_of f2 h1
        rw [lst_at (by rw [mset_ne n2]; exact f2), lst_same]
        simp only [optD_some]
        have l1 : ((List.range k).flatMap (rowPairs R m)).length ≤ m * k := by
          have := flatMap_len (l := List.range k) (f := rowPairs R m) (k := m) fun x _ => rowPairs_len R m x
          rw [List.length_range] at this
          exact this
        have l2 : m * k ≤ 14 * 14 := Nat.mul_le_mul hm (by omega)
        have l3 := rowPairs_len R m k
        unfold rowPairs at l3
        have np2 : p ≠ a := ne_of (e2 _ _ p1) h1
        refine ⟨by rw [List.length_map, List.length_map, sizeLine_eq]; omega, hN _ _ ⟨k + 1, _, _, _, hk2, rfl, rfl, ?_, ?_, ?_⟩⟩
        · intro b o h n
          have q0 := e2 _ _ (b1 b o h n)
          rw [mset_ne (ne_of h hfd), mset_ne (ne_of q0 h1)]
          exact q0
        · rw [mset_ne npf, mset_ne np2]
          exact e2 _ _ p1
        · rw [mset_same, List.range_succ, List.flatMap_append, List.map_append]
          simp [rowPairs]
    · have : R.drop k = [] := List.drop_eq_nil_of_le (by omega)
      rw [this] at e
      cases e
  · obtain ⟨k, o2, o3, o4, hk, e, rfl, b1, p1, f1⟩ := hI
    have hkm : k = m := by
      by_cases hk2 : k < m
      · have hd : R.drop k = R.getD k 0 :: R.drop (k + 1) := by
          rw [List.drop_eq_getElem_cons (by omega), List.getD_eq_getElem?_getD, List.getElem?_eq_getElem (by omega)]; rfl
        rw [hd, pvNs, List.map_cons, enumP_cons] at e
        cases e
      · omega
    subst hkm
    simp only [bkS, List.getElem?_cons_zero, List.getElem?_cons_succ]
    rw [mset_ne (Ne.symm npf), f1]
    simp only [optD_some]
    exact ⟨trivial, q _ (b1.back hp).nil⟩
def G_law_clashes : DSp := fun xs S Q => ∃ (g : Gr) (p : Addr) (R : List Nat), xs = [pvG g, .loc p] ∧ GoodG g ∧ S p = some (.lst (pvNs R)) ∧ R.length = g.many ∧ ∀ S', Ext S S' → Q (.tup ((clashesOf g R).map pvPr)) S'
theorem f_law_clashes {f : Addr} {fd : FuncData} (F : Fun K "_law_clashes" "_law_clashes" s__law_clashes f fd) (T : Txt K w mg fl ft) (C__law_meeting : C8.Cal P w K mg base 1 "_law_meeting" (spD K G_law_meeting) []) : FnOk P w K mg base CX0 (1+1) f fd ["graph", "rows"] (spD K G_law_clashes) := by
  refine fnD F sc__law_clashes (fun xs S Q h => by obtain ⟨_, _, _, rfl, _⟩ := h; rfl) fun cdv A outer s H E hr => ?_
  refine ⟨_, (pss_cons (ps_set (i := 2) sc__law_clashes.nd rfl (Or.inl rfl) (pe_lst pa_nil))
    (pss_cons (ps_for PassesOwn.never rfl (pi_enumT (by rfl) T.b_enumerate (pa_cons (pe_ix (ixK (K := K)) (pv 0) pe_int (fun _ _ => rfl)) pa_nil)) (pgK (K := K) (n := 2) (pgs_cons (pg_name (i := 3) sc__law_clashes.nd rfl (Or.inl rfl)) (pgs_cons (pgK (K := K) (n := 2) (pgs_cons (pg_name (i := 4) sc__law_clashes.nd rfl (Or.inl rfl)) (pgs_cons (pg_name (i := 5) sc__law_clashes.nd rfl (Or.inl rfl)) pgs_nil))) pgs_nil))) (pss_one (ps_for PassesOwn.never rfl (pi_enumT (by rfl) T.b_enumerate (pa_cons (pe_ix (ixK (K := K)) (pv 0) pe_int (fun _ _ => rfl)) pa_nil)) (pgK (K := K) (n := 2) (pgs_cons (pg_name (i := 6) sc__law_clashes.nd rfl (Or.inl rfl)) (pgs_cons (pgK (K := K) (n := 2) (pgs_cons (pg_name (i := 7) sc__law_clashes.nd rfl (Or.inl rfl)) (pgs_cons (pg_name (i := 8) sc__law_clashes.nd rfl (Or.inl rfl)) pgs_nil))) pgs_nil))) (pss_one (ps_if (PW.pt (pw_and (pt_cmpR op_eq (pe_op op_and (pe_op op_shr (pe_ix (ixK (K := K)) (pv 1) (pv 4) (fun _ _ => rfl)) (pv 7)) pe_int) pe_int (nomark _)) (pw_and (pt_cmpR (o_notInDT (room65 hr)) (pe_tup (pa_cons (pv 4) (pa_cons (pv 7) pa_nil))) (pe_ix (ixK (K := K)) (pv 0) pe_int (fun _ _ => rfl)) (by rfl)) (pw_and1 (pt_cmpR o_isN (C8.pe_c C__law_meeting hr (by decide) (by rfl) (pa_cons (pv 5) (pa_cons (pv 8) pa_nil))) pe_non (nomark _)))))) (pss_one (ps_expr (pe_bm PySem.F.plainAttrs_list PySem.F.slot_list_append PySem.F.type_list_append mt_append (pv 2) (pa_cons (pe_tup (pa_cons (pv 3) (pa_cons (pv 6) pa_nil))) pa_nil)))) pss_nil)))))
    (pss_one (ps_ret (pe_callTy c_tuple (by rfl) T.b_tuple bt_tuple (pa_cons (pv 2) pa_nil)))))), ?_⟩
  try dsimp only [cxOf, Cx.nox, Cx.wish]
  refine ⟨_, inferInstance, ?_⟩
  rintro _ S Q ⟨g, p, R, rfl, hg, hp, hl, q⟩
  unfold pvG
  walk_at "D"
  refine ⟨Nat.zero_le _, fun fd hfd => ?_⟩
  have npf : p ≠ fd := ne_of hp hfd
  have hlo := hg.loS
  have hup := hg.upS
  rw [at1]
  simp only [tupP, optD_some]
  refine forR_inv (fun r ρ S1 => ∃ k o1 o2 o3 o4 o5 o6, k ≤ g.lo.length ∧ r = enumP k ((g.lo.drop k).map pvRow) ∧ ρ = [some (pvG g), some (.loc p), some (.loc fd), o1, o2, o3, o4, o5, o6] ∧
    (∀ a o, S a = some o → S1 a = some o) ∧ S1 fd = some (.lst (((g.lo.zipIdx.take k).flatMap fun r => clashRow g R r.2 r.1).map pvPr))) (fun x r ρ S1 hI N hN => ?_) (fun ρ S1 hI => ?_) _ _ _
    ⟨0, none, none, none, none, none, none, Nat.zero_le _, rfl, rfl, Ext.new hfd, by rw [mset_same]; rfl⟩
  · obtain ⟨k, o1, o2, o3, o4, o5, o6, hk', e, rfl, x1, f1⟩ := hI
    rcases Nat.lt_or_ge k g.lo.length with l | l
    · rw [List.drop_eq_getElem_cons l, List.map_cons, enumP_cons] at e
      have hz := zip_take l
      have ht := hg.lo.hd _ (List.getElem_mem l)
      generalize g.lo[k] = t at e hz ht
      cases e
      unfold pvRow pvG
      walk_at "D"
      rw [at2]
      simp only [tupP, optD_some]
      refine forR_inv (fun r ρ S2 => ∃ j o4 o5 o6, j ≤ g.up.length ∧ r = enumP j ((g.up.drop j).map pvRow) ∧ ρ = [some (pvG g), some (.loc p), some (.loc fd), some (.int k), some (.int t.1), some (pvH t.2), o4, o5, o6] ∧
        (∀ a o, S a = some o → S2 a = some o) ∧ S2 fd = some (.lst ((((g.lo.zipIdx.take k).flatMap fun r => clashRow g R r.2 r.1) ++ (g.up.zipIdx.take j).filterMap fun u => if bit R t.1 u.1.1 = true ∧ (t.1, u.1.1) ∉ g.al ∧ clashH t.2 u.1.2 = true then some (k, u.2) else none).map pvPr))) (fun x2 r2 ρ S2 hI N2 hN2 => ?_) (fun ρ S2 hI => ?_) _ _ _
        ⟨0, o4, o5, o6, Nat.zero_le _, rfl, rfl, x1, by rw [f1]; simp⟩
      · obtain ⟨j, p4, p5, p6, hj', e2, rfl, x2, f2⟩ := hI
        rcases Nat.lt_or_ge j g.up.length with l2 | l2
        · rw [List.drop_eq_getElem_cons l2, List.map_cons, enumP_cons] at e2
          have hz2 := zip_take l2
          have hu := hg.up.hd _ (List.getElem_mem l2)
          generalize g.up[j] = u at e2 hz2 hu
          cases e2
          have skip : ∀ S3 : Mp, (∀ a o, S2 a = some o → S3 a = some o) → ¬ (bit R t.1 u.1 = true ∧ (t.1, u.1) ∉ g.al ∧ clashH t.2 u.2 = true) → N2 [some (pvG g), some (.loc p), some (.loc fd), some (.int k), some (.int t.1), some (pvH t.2), some (.int j), some (.int u.1), some (pvH u.2)] S3 := fun S3 x3 hn => by
            refine hN2 _ _ ⟨j + 1, _, _, _, l2, rfl, rfl, fun a o h => x3 _ _ (x2 _ _ h), ?_⟩
            rw [x3 _ _ f2, hz2, List.filterMap_append]
            simp only [List.filterMap_cons, List.filterMap_nil, if_neg hn, List.append_nil]
          unfold pvRow pvG
          walk_at "D"
          have xp := x2 _ _ hp
          rw [xp]
          simp only [optD_some]
          rw [pvNs_at (by rw [hl]; exact ht.1)]
          simp only [optD_some]
          refine ⟨by omega, ?_⟩
          rw [Int.toNat_natCast, bit_and1, show (R.getD t.1 0).testBit u.1 = bit R t.1 u.1 from rfl]
          by_cases hb : bit R t.1 u.1 = true
          · rw [hb]
            simp only [if_true, decide_true]
            refine ⟨by decide, ?_⟩
            rw [at4]
            simp only [optD_some]
            rw [datS_pr (p := (t.1, u.1)), dat_prs]
            simp only [optD_some]
            refine ⟨shaped_pr _, shaped_prs _, ?_⟩
            rw [any_prs]
            by_cases hal : (t.1, u.1) ∈ g.al
            · rw [if_neg (by simp [hal])]
              exact skip S2 (fun _ _ h => h) (fun z => z.2.1 hal)
            · rw [if_pos (by simp [hal])]
              refine ⟨t.2, u.2, g.many, rfl, ht.2.1, hu.2.1, fun hc S3 e3 => ?_, fun hc S3 s e3 _ _ => ?_⟩
              · show if true = true then _ else _
                rw [if_pos rfl]
                have f3 := e3 _ _ f2
                refine ⟨.inl ⟨_, f3⟩, by decide, ?_⟩
                rw [lst_at f3]
                simp only [optD_some]
                refine ⟨?_, hN2 _ _ ⟨j + 1, _, _, _, l2, rfl, rfl, fun a o h => ?_, ?_⟩⟩
                · rw [List.length_map, List.length_append, sizeLine_eq]
                  have q1 := flatMap_len (l := g.lo.zipIdx.take k) (f := fun r => clashRow g R r.2 r.1) (k := 30) fun x _ => by
                    unfold clashRow
                    exact Nat.le_trans (List.length_filterMap_le _ _) (by simp; omega)
                  have q2 : (g.lo.zipIdx.take k).length ≤ 30 := by rw [List.length_take]; simp; omega
                  have q3 : ((g.up.zipIdx.take j).filterMap fun u => if bit R t.1 u.1.1 = true ∧ (t.1, u.1.1) ∉ g.al ∧ clashH t.2 u.1.2 = true then some (k, u.2) else none).length ≤ 30 := by
                    refine Nat.le_trans (List.length_filterMap_le _ _) ?_
                    rw [List.length_take]; simp; omega
                  omega
                · rw [mset_ne (ne_of h hfd)]
                  exact e3 _ _ (x2 _ _ h)
                · rw [mset_same, hz2, List.filterMap_append]
                  simp only [List.filterMap_cons, List.filterMap_nil]
                  rw [if_pos ⟨hb, hal, hc⟩, ← List.append_assoc, List.map_append (l₂ := [(k, j)])]
                  rfl
              · show if false = true then _ else _
                rw [if_neg (by decide)]
                exact skip S3 (fun a o h => e3 a o h) (fun z => by rw [hc] at z; exact absurd z.2.2 (by decide))
          · rw [if_neg (by simp [hb])]
            exact skip S2 (fun _ _ h => h) (fun z => hb z.1)
        · rw [List.drop_eq_nil_of_le l2] at e2
          cases e2
      · obtain ⟨j, p4, p5, p6, hj', e2, rfl, x2, f2⟩ := hI
        have hjm : j = g.up.length := by
          rcases Nat.lt_or_ge j g.up.length with l | l
          · rw [List.drop_eq_getElem_cons l, List.map_cons, enumP_cons] at e2
            cases e2
          · omega
        subst hjm
        refine hN _ _ ⟨k + 1, _, _, _, _, _, _, l, rfl, rfl, x2, ?_⟩
        rw [f2, hz, List.flatMap_append, List.take_of_length_le (l := g.up.zipIdx) (by simp)]
        simp [clashRow]
    · rw [List.drop_eq_nil_of_le l] at e
      cases e
  · obtain ⟨k, o1, o2, o3, o4, o5, o6, hk', e, rfl, x1, f1⟩ := hI
    have hkm : k = g.lo.length := by
      rcases Nat.lt_or_ge k g.lo.length with l | l
      · rw [List.drop_eq_getElem_cons l, List.map_cons, enumP_cons] at e
        cases e
      · omega
    subst hkm
    dsimp only [List.getElem?_cons_zero, List.getElem?_cons_succ]
    rw [f1]
    simp only [optD_some]
    refine ⟨trivial, ?_⟩
    have := q S1 x1
    rw [List.take_of_length_le (by simp)]
    exact this
end
end K06

namespace K06
open PySem PySem.Spec PyProof.Rows L2 DL
local macro_rules | `(tactic| walk_at "D") => `(tactic| simp only [dRet, dRetN, dNext, dSeq, dIfS, dDrop, dAsg, dgName, dgFld, dAndV, dOrV, dNotV, dAnd, dOr, dNot, dTest, dIf, dCB, dCons, dNil, dVar, getv, dC, sc, dChain, dOp, dUn, dI0, dI, dU, dEqS, dNeS, dIsi, dLen, dIx, dPart, dNoPart, dSl, dSlX, dCall, dAllC, dTup, dLst, dYes, dInSg, dInF, seqP, dLc, bkS, dFor, bkD, dIStr, dITup, dIZip, dIList, wipeD, dWGet, dCallA, dDictK, dDIn, dListC, dTupC, dDGet, dgTup, dgCons, dgNil, dPar, dPar3, dBM, dBM0, dAppend, dExtend, dPop, dty, dBits, dgSub, dSetL, dFld, dsFld, dMeth, dMake, dDGet1, dDSetd, dsDPut, dRevL, dPlus, dDisp, dPairs, dIEnum, dIEnumT, dIRng1, dIRng2, dIKeys, dLock, dTupF1, dTupF, dDictN, dSortN, dInN, dDcN, dInT, dIsN, dNotN, dIsB, dI2, dInt1, dRepr, dWhile, dDNewK, dAug, dBreak, dCont, dNever,
  startD, List.map_cons, List.map_nil, List.length_cons, List.length_nil, List.getElem?_cons_zero, List.getElem?_cons_succ, List.cons_append, List.nil_append, List.replicate, Nat.reduceAdd, Nat.reduceSub, List.set_cons_zero, List.set_cons_succ, isB, tyP, okTy, optD_some, optD_none, Option.isSome_some, true_and, and_true, if_true, if_false, Bool.false_eq_true, List.all_cons, List.all_nil, beq_self_eq_true, eqP_int, eqP_str, scal_int, scal_str, Bool.not_true, Bool.not_false, decide_true, decide_false])
/-! ### graphs by hand -/
def gCall : Gr := ⟨5, [(1, .fn 3 4), (2, .num)], [(1, .fn 2 0)], [(3, 4)], []⟩
def gAsk : Gr := ⟨6, [(1, .fn 3 4), (2, .num)], [(0, .rc [("a", 5)]), (1, .fn 2 0)], [(3, 4)], []⟩
def gFree : Gr := ⟨6, [(1, .fn 3 4), (2, .num)], [(0, .rc [("a", 5)]), (1, .fn 2 0)], [(3, 4)], [(2, 0)]⟩
def flw : List (Nat × Nat) := [(2, 0), (2, 3), (2, 4), (3, 0), (3, 4), (4, 0)]
def pvTs (es : List (Nat × Nat)) : PV := .tup (es.map pvPr)
def hands : List PV := [.tup [pvG gCall, pvTs flw, pvTs []], .tup [pvG gAsk, pvTs flw, pvTs [(1, 0)]], .tup [pvG gFree, pvTs flw, pvTs []]]
theorem cut4 {a b c d e : PV} : cutP [a, b, c, d, e] none (some 4) = [a, b, c, d] := by
  unfold cutP
  rw [HT.sIx_none, show (some (4 : Int)) = some ((4 : Nat) : Int) from rfl, HT.sIx_nat]
  rfl
section
variable {P : Program} {w : World} {K : PySem.W.Frag} {mg : Str → Option Value} {base : Heap} {fl ft : Addr}
def G_law_by_hand : DSp := fun xs S Q => xs = [] ∧ ∀ S' p, Ext S S' → S p = none → S' p = some (.lst hands) → Q (.loc p) S'
theorem f_law_by_hand {f : Addr} {fd : FuncData} (F : Fun K "_law_by_hand" "_law_by_hand" s__law_by_hand f fd) (T : Txt K w mg fl ft) : FnOk P w K mg base CX0 (0+1) f fd [] (spD K G_law_by_hand) := by
  refine fnD F sc__law_by_hand (fun xs S Q h => by obtain ⟨rfl, _⟩ := h; rfl) fun cdv A outer s H E hr => ?_
  refine ⟨_, (pss_cons (ps_set (i := 0) sc__law_by_hand.nd rfl (Or.inl rfl) (pe_tup (pa_cons pe_int (pa_cons (pe_tup (pa_cons (pe_tup (pa_cons pe_int (pa_cons (pe_tup (pa_cons pe_str (pa_cons pe_int (pa_cons pe_int pa_nil)))) pa_nil))) (pa_cons (pe_tup (pa_cons pe_int (pa_cons (pe_tup (pa_cons pe_str pa_nil)) pa_nil))) pa_nil))) (pa_cons (pe_tup (pa_cons (pe_tup (pa_cons pe_int (pa_cons (pe_tup (pa_cons pe_str (pa_cons pe_int (pa_cons pe_int pa_nil)))) pa_nil))) pa_nil)) (pa_cons (pe_tup (pa_cons (pe_tup (pa_cons pe_int (pa_cons pe_int pa_nil))) pa_nil)) (pa_cons (pe_tup pa_nil) pa_nil)))))))
    (pss_cons (ps_set (i := 1) sc__law_by_hand.nd rfl (Or.inl rfl) (pe_tup (pa_cons pe_int (pa_cons (pe_ix (ixK (K := K)) (pv 0) pe_int (fun _ _ => rfl)) (pa_cons (pe_tup (pa_cons (pe_tup (pa_cons pe_int (pa_cons (pe_tup (pa_cons pe_str (pa_cons (pe_tupF (pa_cons (pe_tup (pa_cons pe_str (pa_cons pe_int pa_nil))) pa_nil)) pa_nil))) pa_nil))) (pa_cons (pe_tup (pa_cons pe_int (pa_cons (pe_tup (pa_cons pe_str (pa_cons pe_int (pa_cons pe_int pa_nil)))) pa_nil))) pa_nil))) (pa_cons (pe_ix (ixK (K := K)) (pv 0) pe_int (fun _ _ => rfl)) (pa_cons (pe_tup pa_nil) pa_nil)))))))
    (pss_cons (ps_set (i := 2) sc__law_by_hand.nd rfl (Or.inl rfl) (pe_op op_plus (pe_slice sl_any (pv 1) po_none (po_some pe_int)) (pe_tup (pa_cons (pe_tup (pa_cons (pe_tup (pa_cons pe_int (pa_cons pe_int pa_nil))) pa_nil)) pa_nil))))
    (pss_cons (ps_set (i := 3) sc__law_by_hand.nd rfl (Or.inl rfl) (pe_tup (pa_cons (pe_tup (pa_cons pe_int (pa_cons pe_int pa_nil))) (pa_cons (pe_tup (pa_cons pe_int (pa_cons pe_int pa_nil))) (pa_cons (pe_tup (pa_cons pe_int (pa_cons pe_int pa_nil))) (pa_cons (pe_tup (pa_cons pe_int (pa_cons pe_int pa_nil))) (pa_cons (pe_tup (pa_cons pe_int (pa_cons pe_int pa_nil))) (pa_cons (pe_tup (pa_cons pe_int (pa_cons pe_int pa_nil))) pa_nil))))))))
    (pss_one (ps_ret (pe_lst (pa_cons (pe_tup (pa_cons (pv 0) (pa_cons (pv 3) (pa_cons (pe_tup pa_nil) pa_nil)))) (pa_cons (pe_tup (pa_cons (pv 1) (pa_cons (pv 3) (pa_cons (pe_tup (pa_cons (pe_tup (pa_cons pe_int (pa_cons pe_int pa_nil))) pa_nil)) pa_nil)))) (pa_cons (pe_tup (pa_cons (pv 2) (pa_cons (pv 3) (pa_cons (pe_tup pa_nil) pa_nil)))) pa_nil)))))))))), ?_⟩
  try dsimp only [cxOf, Cx.nox, Cx.wish]
  refine ⟨_, inferInstance, ?_⟩
  rintro _ S Q ⟨rfl, q⟩
  have le6 : ∀ n, n ≤ 6 → n ≤ sizeLine := fun n h => by rw [sizeLine_eq]; omega
  refine seq_inv (fun ρ S1 => ρ = [some (pvG gCall), none, none, none] ∧ S1 = S) (fun ρ S1 h => ?_) (fun N hN => ?_)
  · obtain ⟨rfl, rfl⟩ := h
    refine seq_inv (fun ρ S2 => ρ = [some (pvG gCall), some (pvG gAsk), none, none] ∧ S2 = S1) (fun ρ S1 h => ?_) (fun N hN => ?_)
    · obtain ⟨rfl, rfl⟩ := h
      refine seq_inv (fun ρ S2 => ρ = [some (pvG gCall), some (pvG gAsk), some (pvG gFree), none] ∧ S2 = S1) (fun ρ S1 h => ?_) (fun N hN => ?_)
      · obtain ⟨rfl, rfl⟩ := h
        refine seq_inv (fun ρ S2 => ρ = [some (pvG gCall), some (pvG gAsk), some (pvG gFree), some (pvTs flw)] ∧ S2 = S1) (fun ρ S1 h => ?_) (fun N hN => ?_)
        · obtain ⟨rfl, rfl⟩ := h
          walk_at "D"
          refine ⟨le6 _ (by decide), le6 _ (by decide), le6 _ (by decide), le6 _ (by decide), le6 _ (by decide), le6 _ (by decide), le6 _ (by decide), le6 _ (by decide), fun p hp => q _ p (Ext.new hp) hp mset_same⟩
        · walk_at "D"
          refine ⟨le6 _ (by decide), le6 _ (by decide), le6 _ (by decide), le6 _ (by decide), le6 _ (by decide), le6 _ (by decide), le6 _ (by decide), hN _ _ ⟨rfl, rfl⟩⟩
      · unfold gAsk
        unfold pvG
        walk_at "D"
        rw [cut4]
        exact ⟨le6 _ (by decide), le6 _ (by decide), le6 _ (by decide), le6 _ (by decide), hN _ _ ⟨rfl, rfl⟩⟩
    · unfold pvG
      walk_at "D"
      rw [at1]
      simp only [optD_some]
      rw [at3]
      simp only [optD_some]
      exact ⟨le6 _ (by decide), le6 _ (by decide), le6 _ (by decide), le6 _ (by decide), le6 _ (by decide), le6 _ (by decide), le6 _ (by decide), le6 _ (by decide), le6 _ (by decide), hN _ _ ⟨rfl, rfl⟩⟩
  · walk_at "D"
    refine ⟨le6 _ (by decide), le6 _ (by decide), le6 _ (by decide), le6 _ (by decide), le6 _ (by decide), le6 _ (by decide), le6 _ (by decide), le6 _ (by decide), le6 _ (by decide), le6 _ (by decide), le6 _ (by decide), le6 _ (by decide), hN _ _ ⟨rfl, rfl⟩⟩
end
/-! their flows -/
def rowsC : List Nat := [1, 2, 29, 25, 17]
def rowsA : List Nat := [1, 2, 29, 25, 17, 32]
theorem rel_of_bits {g : Gr} {R : List Nat} (hl : R.length = g.many) (h1 : ∀ i, i < g.many → ∀ j, j < g.many → bit R i j = true → Rel g i j) (h2 : ∀ i, i < g.many → (R.getD i 0) < 2 ^ g.many) (h3 : ∀ i j, Rel g i j → bit R i j = true) : IsRel g R := by
  refine ⟨hl, fun i j => ⟨fun h => ?_, h3 i j⟩⟩
  by_cases hi : i < g.many
  · by_cases hj : j < g.many
    · exact h1 i hi j hj h
    · have : (R.getD i 0).testBit j = false := Nat.testBit_lt_two_pow (Nat.lt_of_lt_of_le (h2 i hi) (Nat.pow_le_pow_right (by decide) (by omega)))
      unfold bit at h
      rw [this] at h; cases h
  · unfold bit at h
    rw [List.getD_eq_getElem?_getD, List.getElem?_eq_none (by omega)] at h
    simp at h
theorem isRel_dec {g : Gr} {R : List Nat} (hl : R.length = g.many) (h2 : ∀ i, i < g.many → (R.getD i 0) < 2 ^ g.many) (h1 : ∀ i, i < g.many → ∀ j, j < g.many → bit R i j = true → Rel g i j) (rf : ∀ i, i < g.many → bit R i i = true) (ed : ∀ p ∈ g.ed, bit R p.1 p.2 = true)
    (tr : ∀ x, x < g.many → ∀ y, y < g.many → ∀ z, z < g.many → bit R x y = true → bit R y z = true → bit R x z = true) (fl : ∀ x, x < g.many → ∀ y, y < g.many → bit R x y = true → ∀ p ∈ flowsAt g x y, bit R p.1 p.2 = true) : IsRel g R := by
  have lt : ∀ i j, bit R i j = true → i < g.many ∧ j < g.many := fun i j h => by
    by_cases hi : i < g.many
    · by_cases hj : j < g.many
      · exact ⟨hi, hj⟩
      · have : (R.getD i 0).testBit j = false := Nat.testBit_lt_two_pow (Nat.lt_of_lt_of_le (h2 i hi) (Nat.pow_le_pow_right (by decide) (by omega)))
        unfold bit at h
        rw [this] at h; cases h
    · unfold bit at h
      rw [List.getD_eq_getElem?_getD, List.getElem?_eq_none (by omega)] at h
      simp at h
  refine rel_of_bits hl h1 h2 fun i j h => ?_
  induction h with
  | refl h => exact rf _ h
  | edge h => exact ed _ h
  | trans _ _ i1 i2 => exact tr _ (lt _ _ i1).1 _ (lt _ _ i1).2 _ (lt _ _ i2).2 i1 i2
  | flow _ h2 i1 => exact fl _ (lt _ _ i1).1 _ (lt _ _ i1).2 i1 _ h2
theorem six {g : Gr} (a34 : Rel g 3 4) (a23 : Rel g 2 3) (a40 : Rel g 4 0) {i j : Nat} (h : (i, j) ∈ flw) : Rel g i j := by
  have a24 := a23.trans a34
  have a20 := a24.trans a40
  have a30 := a34.trans a40
  simp only [flw, List.mem_cons, Prod.mk.injEq, List.not_mem_nil, or_false] at h
  rcases h with ⟨rfl, rfl⟩ | ⟨rfl, rfl⟩ | ⟨rfl, rfl⟩ | ⟨rfl, rfl⟩ | ⟨rfl, rfl⟩ | ⟨rfl, rfl⟩ <;> assumption
theorem rel_call : IsRel gCall rowsC := by
  have a11 : Rel gCall 1 1 := .refl (by decide)
  have low : ∀ i, i < 5 → ∀ j, j < 5 → bit rowsC i j = true → i = j ∨ (i, j) ∈ flw := by decide +kernel
  refine isRel_dec rfl (by decide +kernel) (fun i hi j hj h => ?_) (by decide +kernel) (by decide +kernel) (by decide +kernel) (by decide +kernel)
  rcases low i hi j hj h with rfl | h
  · exact .refl hi
  · exact six (.edge (p := (3, 4)) (by decide)) (.flow (p := (2, 3)) a11 (by decide +kernel)) (.flow (p := (4, 0)) a11 (by decide +kernel)) h
theorem rel_ask : IsRel gAsk rowsA := by
  have a11 : Rel gAsk 1 1 := .refl (by decide)
  have low : ∀ i, i < 6 → ∀ j, j < 6 → bit rowsA i j = true → i = j ∨ (i, j) ∈ flw := by decide +kernel
  refine isRel_dec rfl (by decide +kernel) (fun i hi j hj h => ?_) (by decide +kernel) (by decide +kernel) (by decide +kernel) (by decide +kernel)
  rcases low i hi j hj h with rfl | h
  · exact .refl hi
  · exact six (.edge (p := (3, 4)) (by decide)) (.flow (p := (2, 3)) a11 (by decide +kernel)) (.flow (p := (4, 0)) a11 (by decide +kernel)) h
theorem rel_free : IsRel gFree rowsA := by
  have a11 : Rel gFree 1 1 := .refl (by decide)
  have low : ∀ i, i < 6 → ∀ j, j < 6 → bit rowsA i j = true → i = j ∨ (i, j) ∈ flw := by decide +kernel
  refine isRel_dec rfl (by decide +kernel) (fun i hi j hj h => ?_) (by decide +kernel) (by decide +kernel) (by decide +kernel) (by decide +kernel)
  rcases low i hi j hj h with rfl | h
  · exact .refl hi
  · exact six (.edge (p := (3, 4)) (by decide)) (.flow (p := (2, 3)) a11 (by decide +kernel)) (.flow (p := (4, 0)) a11 (by decide +kernel)) h
theorem hand_pairs : pairsOf 5 rowsC = flw ∧ pairsOf 6 rowsA = flw := by decide +kernel
theorem hand_clash : clashesOf gCall rowsC = [] ∧ clashesOf gAsk rowsA = [(1, 0)] ∧ clashesOf gFree rowsA = [] := by decide +kernel
theorem goodE_nil {m : Nat} : GoodE m [] := ⟨by simp, by simp, trivial⟩
theorem up_one (n : Str) (v : Nat) : NmUp [(n, v)] := List.pairwise_singleton _ _
theorem good_call : GoodG gCall := by
  refine ⟨by decide, by decide, by decide, by decide, by decide, ⟨fun r hr => ?_, by decide, rise_of toNK_row led_row cmp_row (by decide +kernel)⟩, ⟨fun r hr => ?_, by decide, rise_of toNK_row led_row cmp_row (by decide +kernel)⟩, ⟨by decide, by decide, rise_of toNK_pr led_pr cmp_pr (by decide +kernel)⟩, goodE_nil⟩
  · simp only [gCall, List.mem_cons, List.not_mem_nil, or_false] at hr
    rcases hr with rfl | rfl
    · exact ⟨by decide, ⟨by decide, by decide⟩, by simp⟩
    · exact ⟨by decide, trivial, by simp⟩
  · simp only [gCall, List.mem_cons, List.not_mem_nil, or_false] at hr
    rcases hr with rfl
    · exact ⟨by decide, ⟨by decide, by decide⟩, by simp⟩
theorem good_up : GoodR 6 .any [(0, .rc [("a", 5)]), (1, .fn 2 0)] := by
  refine ⟨fun r hr => ?_, by decide, rise_of toNK_row led_row cmp_row (by decide +kernel)⟩
  simp only [List.mem_cons, List.not_mem_nil, or_false] at hr
  rcases hr with rfl | rfl
  · exact ⟨by decide, ⟨by decide +kernel, by decide, up_one _ _, by decide⟩, by simp⟩
  · exact ⟨by decide, ⟨by decide, by decide⟩, by simp⟩
theorem good_lo : GoodR 6 .none [(1, .fn 3 4), (2, .num)] := by
  refine ⟨fun r hr => ?_, by decide, rise_of toNK_row led_row cmp_row (by decide +kernel)⟩
  simp only [List.mem_cons, List.not_mem_nil, or_false] at hr
  rcases hr with rfl | rfl
  · exact ⟨by decide, ⟨by decide, by decide⟩, by simp⟩
  · exact ⟨by decide, trivial, by simp⟩
theorem good_ask : GoodG gAsk := ⟨by decide, by decide, by decide, by decide, by decide, good_lo, good_up, ⟨by decide, by decide, rise_of toNK_pr led_pr cmp_pr (by decide +kernel)⟩, goodE_nil⟩
theorem good_free : GoodG gFree := ⟨by decide, by decide, by decide, by decide, by decide, good_lo, good_up, ⟨by decide, by decide, rise_of toNK_pr led_pr cmp_pr (by decide +kernel)⟩, ⟨by decide, by decide, rise_of toNK_pr led_pr cmp_pr (by decide +kernel)⟩⟩
end K06

namespace K06
open PySem PySem.Spec PyProof.Rows L2 DL
local macro_rules | `(tactic| walk_at "D") => `(tactic| simp only [dRet, dRetN, dNext, dSeq, dIfS, dDrop, dAsg, dgName, dgFld, dAndV, dOrV, dNotV, dAnd, dOr, dNot, dTest, dIf, dCB, dCons, dNil, dVar, getv, dC, sc, dChain, dOp, dUn, dI0, dI, dU, dEqS, dNeS, dIsi, dLen, dIx, dPart, dNoPart, dSl, dSlX, dCall, dAllC, dTup, dLst, dYes, dInSg, dInF, seqP, dLc, bkS, dFor, bkD, dIStr, dITup, dIZip, dIList, wipeD, dWGet, dCallA, dDictK, dDIn, dListC, dTupC, dDGet, dgTup, dgCons, dgNil, dPar, dPar3, dBM, dBM0, dAppend, dExtend, dPop, dty, dBits, dgSub, dSetL, dFld, dsFld, dMeth, dMake, dDGet1, dDSetd, dsDPut, dRevL, dPlus, dDisp, dPairs, dIEnum, dIEnumT, dIRng1, dIRng2, dIKeys, dLock, dTupF1, dTupF, dDictN, dSortN, dInN, dDcN, dInT, dIsN, dNotN, dIsB, dI2, dInt1, dRepr, dWhile, dDNewK, dAug, dBreak, dCont, dNever,
  startD, List.map_cons, List.map_nil, List.length_cons, List.length_nil, List.getElem?_cons_zero, List.getElem?_cons_succ, List.cons_append, List.nil_append, List.replicate, Nat.reduceAdd, Nat.reduceSub, List.set_cons_zero, List.set_cons_succ, isB, tyP, okTy, optD_some, optD_none, Option.isSome_some, true_and, and_true, if_true, if_false, Bool.false_eq_true, List.all_cons, List.all_nil, beq_self_eq_true, eqP_int, eqP_str, scal_int, scal_str, Bool.not_true, Bool.not_false, decide_true, decide_false])
section
variable {X : Cx} {k j : Nat} {x : Str} {sp : Sp} {dvs : List V} {p pos : Pos}
theorem pe_c0 (c : C8.Cal X.prog X.w X.K X.mg X.base k x sp dvs) (hr : Room j X.A) (hk : k ≤ j) (hg : Gl X x) (hdb : (x == ("__debug__" : Str)) = false := by decide) : PE X (.Call (.Name x p) [] [] pos) (tCall sp dvs C8.E0 tNil) := by
  obtain ⟨f, fd, ps, ds, F, hm, kp, b, d⟩ := c.ex
  exact pe_call0 F (hr.mono hk) hg hm kp b d C8.pass0 hdb
end
/-! ### what repr shows -/
def Sh (n w : Nat) (x : PV) : Prop := ∃ d, dat x = some d ∧ d.canLay0 = true ∧ d.depth ≤ n ∧ d.showable = true ∧ d.intsShort 13 = true ∧ d.weight ≤ w
theorem Sh.mono {n w m v : Nat} {x : PV} (h : Sh n w x) (l : n ≤ m) (k : w ≤ v) : Sh m v x := let ⟨d, a, b, c, e, f, g⟩ := h; ⟨d, a, b, Nat.le_trans c l, e, f, Nat.le_trans g k⟩
theorem sh_int {i : Nat} (h : i < 32) : Sh 0 6 (.int i) := by
  have k : ∀ i : Nat, i < 32 → PyData.showable (.int (i : Int)) = true ∧ PyData.intsShort 13 (.int (i : Int)) = true ∧ PyData.weight (.int (i : Int)) ≤ 6 := by decide +kernel
  exact ⟨.int i, by rw [dat], by rw [PyData.canLay0], by rw [PyData.depth]; exact Nat.le_refl _, k i h⟩
def words14 : List Str := (["num", "fun", "rec", "var", "any", "none"] : List Str) ++ (labels ++ tags)
theorem sh_str {z : Str} (h : z ∈ words14) : Sh 0 6 (.str z) := by
  have k : ∀ z ∈ words14, PyData.strOk z = true ∧ z.cps.size ≤ 6 := by decide +kernel
  exact ⟨.str z, by rw [dat], by rw [PyData.canLay0]; exact (k z h).1, by rw [PyData.depth]; exact Nat.le_refl _, by rw [PyData.showable], by rw [PyData.intsShort], by rw [PyData.weight]; exact (k z h).2⟩
def Shs (n w : Nat) (xs : List PV) : Prop := ∃ ds, dats xs = some ds ∧ PyData.canLayAll0 ds = true ∧ PyData.depthAll ds ≤ n ∧ PyData.showableAll ds = true ∧ PyData.intsShortAll 13 ds = true ∧ PyData.weightAll ds ≤ w
theorem shs_nil {n : Nat} : Shs n 0 [] := ⟨[], by rw [dats], by rw [PyData.canLayAll0], by rw [PyData.depthAll]; exact Nat.zero_le _, by rw [PyData.showableAll], by rw [PyData.intsShortAll], by rw [PyData.weightAll]; exact Nat.zero_le _⟩
theorem shs_cons {n a b : Nat} {x : PV} {xs : List PV} (h : Sh n a x) (hs : Shs n b xs) : Shs n (a + 1 + b) (x :: xs) := by
  obtain ⟨ds, h1, h2, h3, h4, h5, h6⟩ := hs
  obtain ⟨d, e1, e2, e3, e4, e5, e6⟩ := h
  refine ⟨d :: ds, by rw [dats, e1, h1], ?_, ?_, ?_, ?_, ?_⟩
  · rw [PyData.canLayAll0, e2, h2]; rfl
  · rw [PyData.depthAll]; omega
  · rw [PyData.showableAll, e4, h4]; rfl
  · rw [PyData.intsShortAll, e5, h5]; rfl
  · rw [PyData.weightAll]; omega
theorem shs_all {n w : Nat} : ∀ {xs : List PV}, (∀ x ∈ xs, Sh n w x) → Shs n (xs.length * (w + 1)) xs
  | [], _ => by rw [List.length_nil, Nat.zero_mul]; exact shs_nil
  | x :: xs, h => by
    have := shs_cons (h x List.mem_cons_self) (shs_all fun y hy => h y (List.mem_cons_of_mem _ hy))
    rw [List.length_cons, Nat.succ_mul, Nat.add_comm]
    exact this
theorem Shs.tup {n w : Nat} {xs : List PV} (h : Shs n w xs) : Sh (n + 1) w (.tup xs) := by
  obtain ⟨ds, h1, h2, h3, h4, h5, h6⟩ := h
  exact ⟨.tuple ds, by rw [dat, h1]; rfl, by rw [PyData.canLay0]; exact h2, by rw [PyData.depth]; omega, by rw [PyData.showable]; exact h4, by rw [PyData.intsShort]; exact h5, by rw [PyData.weight]; omega⟩
theorem Shs.ktup {n w : Nat} {xs : List PV} (h : Shs n w xs) : Sh (n + 1) w (.ktup xs) := by
  obtain ⟨ds, h1, h2, h3, h4, h5, h6⟩ := h
  exact ⟨.tuple ds, by rw [dat, h1]; rfl, by rw [PyData.canLay0]; exact h2, by rw [PyData.depth]; omega, by rw [PyData.showable]; exact h4, by rw [PyData.intsShort]; exact h5, by rw [PyData.weight]; omega⟩
theorem Shs.mono {n w m v : Nat} {x : List PV} (h : Shs n w x) (l : n ≤ m) (k : w ≤ v) : Shs m v x := let ⟨d, a, b, c, e, f, g⟩ := h; ⟨d, a, b, Nat.le_trans c l, e, f, Nat.le_trans g k⟩
theorem shs_le {n w L : Nat} {xs : List PV} (h : ∀ x ∈ xs, Sh n w x) (hl : xs.length ≤ L) : Shs n (L * (w + 1)) xs := (shs_all h).mono (Nat.le_refl _) (Nat.mul_le_mul_right _ hl)
def shwL (xs : List PV) : Str := match dats xs with
  | some ds => PyData.shown (.list ds)
  | none => ""
def shwT (x : PV) : Str := match dat x with
  | some d => PyData.shown d
  | none => ""
theorem shown_ok {d : PyData} (h1 : d.canLay0 = true) (h2 : d.intsShort 13 = true) (hw : d.weight ≤ 1000000) : d.shown.length ≤ sizeLine := by
  have := PyData.shown_le 13 (by decide) d (PyData.leavesShort_of_canLay0 13 d h1 h2)
  rw [sizeLine_eq]; omega
theorem repr_loc {S : Mp} {p : Addr} {xs : List PV} {n w : Nat} (hp : S p = some (.lst xs)) (h : Shs n w xs) (hn : n < 64) (hw : w ≤ 1000000) :
    ∃ d, datS S (.loc p) = some d ∧ box d = true ∧ SeqAt.shaped d = true ∧ d.showable = true ∧ d.shown.length ≤ sizeLine ∧ d.shown = shwL xs := by
  obtain ⟨ds, h1, h2, h3, h4, h5, h6⟩ := h
  refine ⟨.list ds, by simp only [datS, seq_at hp, Option.bind_some, h1, Option.map_some], rfl, shaped_of (n := n + 1) (by rw [PyData.canLay0]; exact h2) (by rw [PyData.depth]; omega) (by omega), by rw [PyData.showable]; exact h4, shown_ok (by rw [PyData.canLay0]; exact h2) (by rw [PyData.intsShort]; exact h5) (by rw [PyData.weight]; omega), by unfold shwL; rw [h1]⟩
theorem repr_tup {S : Mp} {xs : List PV} {n w : Nat} (h : Sh n w (.tup xs)) (hn : n ≤ 64) (hw : w ≤ 1000000) :
    ∃ d, datS S (.tup xs) = some d ∧ box d = true ∧ SeqAt.shaped d = true ∧ d.showable = true ∧ d.shown.length ≤ sizeLine ∧ d.shown = shwT (.tup xs) := by
  obtain ⟨d, h1, h2, h3, h4, h5, h6⟩ := h
  have hb : box d = true := by
    rw [dat] at h1
    obtain ⟨ds, _, rfl⟩ := Option.map_eq_some_iff.mp h1
    rfl
  exact ⟨d, h1, hb, shaped_of h2 h3 hn, h4, shown_ok h2 h5 (by omega), by unfold shwT; rw [h1]⟩
theorem sh_pr {p : Nat × Nat} (h1 : p.1 < 32) (h2 : p.2 < 32) : Sh 1 14 (pvPr p) := (shs_cons (sh_int h1) (shs_cons (sh_int h2) shs_nil)).tup
theorem sh_prs {es : List (Nat × Nat)} {L : Nat} (h : ∀ p ∈ es, p.1 < 32 ∧ p.2 < 32) (hl : es.length ≤ L) : Sh 2 (L * 15) (.tup (es.map pvPr)) := (shs_le (fun x hx => by
  obtain ⟨p, hp, rfl⟩ := List.mem_map.mp hx
  exact sh_pr (h p hp).1 (h p hp).2) (by simpa using hl)).tup
theorem sh_parts {ns : List Str} {m : Nat} {ps : List (Str × Nat)} (hm : m ≤ 32) (hn : ∀ n ∈ ns, n ∈ words14) (h : GoodP ns m ps) : Sh 2 6000 (pvParts ps) :=
  (shs_le (n := 1) (w := 14) (L := 400) (xs := ps.map pvPart) (fun x hx => by
    obtain ⟨p, hp, rfl⟩ := List.mem_map.mp hx
    exact (shs_cons (sh_str (hn _ (h.1 p hp))) (shs_cons (sh_int (Nat.lt_of_lt_of_le (h.2.1 p hp) hm)) shs_nil)).tup) (by simpa using h.2.2.2)).ktup
theorem word_in : ∀ z ∈ (["num", "fun", "rec", "var", "any", "none"] : List Str), z ∈ words14 := fun z hz => List.mem_append_left _ hz
theorem sh_H {m : Nat} {h : Hd} (hm : m ≤ 32) (g : GoodH m h) : Sh 3 6008 (pvH h) := by
  cases h with
  | num => exact (shs_cons (sh_str (word_in "num" (by decide +kernel))) shs_nil).tup.mono (by omega) (by omega)
  | any => exact (shs_cons (sh_str (word_in "any" (by decide +kernel))) shs_nil).tup.mono (by omega) (by omega)
  | none => exact (shs_cons (sh_str (word_in "none" (by decide +kernel))) shs_nil).tup.mono (by omega) (by omega)
  | fn a b => exact (shs_cons (sh_str (word_in "fun" (by decide +kernel))) (shs_cons (sh_int (Nat.lt_of_lt_of_le g.1 hm)) (shs_cons (sh_int (Nat.lt_of_lt_of_le g.2 hm)) shs_nil))).tup.mono (by omega) (by omega)
  | rc ps => exact (shs_cons ((sh_str (word_in "rec" (by decide +kernel))).mono (by omega) (Nat.le_refl _)) (shs_cons (sh_parts hm (fun n hn => List.mem_append_right _ (List.mem_append_left _ hn)) g) shs_nil)).tup.mono (by omega) (by omega)
  | vr ps => exact (shs_cons ((sh_str (word_in "var" (by decide +kernel))).mono (by omega) (Nat.le_refl _)) (shs_cons (sh_parts hm (fun n hn => List.mem_append_right _ (List.mem_append_right _ hn)) g.2) shs_nil)).tup.mono (by omega) (by omega)
theorem sh_rows {m : Nat} {bad : Hd} {rs : List (Nat × Hd)} (hm : m ≤ 32) (h : GoodR m bad rs) (hl : rs.length ≤ 30) : Sh 5 180510 (.tup (rs.map pvRow)) :=
  (shs_le (n := 4) (w := 6016) (L := 30) (fun x hx => by
    obtain ⟨r, hr, rfl⟩ := List.mem_map.mp hx
    have := h.hd r hr
    exact (shs_cons ((sh_int (i := r.1) (by omega)).mono (by omega) (Nat.le_refl _)) (shs_cons (sh_H hm this.2.1) shs_nil)).tup) (by simpa using hl)).tup
theorem GoodE.len14 {m : Nat} {es : List (Nat × Nat)} (hm : m ≤ 14) (h : GoodE m es) : es.length ≤ 196 := Nat.le_trans h.len (Nat.le_trans (Nat.mul_le_mul hm hm) (by decide))
theorem sh_es {m : Nat} {es : List (Nat × Nat)} (hm : m ≤ 14) (h : GoodE m es) : Sh 2 2940 (.tup (es.map pvPr)) := sh_prs (L := 196) (fun p hp => by have := h.lt p hp; omega) (h.len14 hm)
theorem sh_G {g : Gr} (h : GoodG g) : Sh 6 400000 (pvG g) := by
  have hm := h.most
  exact (shs_cons ((sh_int (i := g.many) (by omega)).mono (by omega) (Nat.le_refl _)) (shs_cons (sh_rows (by omega) h.lo h.loS) (shs_cons (sh_rows (by omega) h.up h.upS) (shs_cons ((sh_es hm h.ed).mono (by omega) (Nat.le_refl _)) (shs_cons ((sh_es hm h.al).mono (by omega) (Nat.le_refl _)) shs_nil))))).tup.mono (by omega) (by omega)
/-! ### flows as edges -/
theorem mem_pairsOf {m : Nat} {R : List Nat} {p : Nat × Nat} : p ∈ pairsOf m R ↔ p.1 < m ∧ p.2 < m ∧ bit R p.1 p.2 = true ∧ p.2 ≠ p.1 := by
  unfold pairsOf rowPairs
  rw [List.mem_flatMap]
  constructor
  · rintro ⟨x, hx, h⟩
    obtain ⟨y, hy, rfl⟩ := List.mem_map.mp h
    obtain ⟨h1, h2⟩ := List.mem_filter.mp hy
    rw [Bool.and_eq_true, decide_eq_true_eq] at h2
    exact ⟨List.mem_range.mp hx, List.mem_range.mp h1, h2.1, h2.2⟩
  · rintro ⟨h1, h2, h3, h4⟩
    exact ⟨p.1, List.mem_range.mpr h1, List.mem_map.mpr ⟨p.2, List.mem_filter.mpr ⟨List.mem_range.mpr h2, by simp [h3, h4]⟩, rfl⟩⟩
theorem rel_same {g : Gr} (hg : GoodG g) {es : List (Nat × Nat)} (h1 : ∀ p ∈ es, Rel g p.1 p.2) (h2 : ∀ x y, Rel g x y → y ≠ x → (x, y) ∈ es) (x y : Nat) : Rel { g with ed := es } x y ↔ Rel g x y := by
  constructor
  · intro h
    induction h with
    | refl h => exact .refl h
    | edge h => exact h1 _ h
    | trans _ _ i1 i2 => exact i1.trans i2
    | flow _ h2 i1 => exact .flow i1 h2
  · intro h
    by_cases e : y = x
    · subst e; exact .refl (h.lt hg).1
    · exact .edge (p := (x, y)) (h2 x y h e)
theorem isRel_same {g : Gr} (hg : GoodG g) {es : List (Nat × Nat)} (h1 : ∀ p ∈ es, Rel g p.1 p.2) (h2 : ∀ x y, Rel g x y → y ≠ x → (x, y) ∈ es) {R R' : List Nat} (h : IsRel g R) (h' : IsRel { g with ed := es } R') : R' = R :=
  IsRel.uniq (g := g) ⟨h'.1, fun i j => (h'.2 i j).trans (rel_same hg h1 h2 i j)⟩ h
theorem pw_rows {c : Nat → List Nat} : ∀ {l : List Nat}, l.Pairwise (· < ·) → (∀ x ∈ l, (c x).Pairwise (· < ·)) → ((l.flatMap fun x => (c x).map fun y => (x, y)).map nkPr).Pairwise (fun a b => ltT a b = true)
  | [], _, _ => List.Pairwise.nil
  | x :: l, h, hc => by
    have h1 := List.pairwise_cons.mp h
    rw [List.flatMap_cons, List.map_append, List.pairwise_append]
    refine ⟨?_, pw_rows h1.2 fun y hy => hc y (List.mem_cons_of_mem _ hy), fun a ha b hb => ?_⟩
    · rw [List.pairwise_map, List.pairwise_map]
      exact (hc x List.mem_cons_self).imp fun {a b} (h : a < b) => (ltT_pr (p := (x, a)) (q := (x, b))).mpr (.inr ⟨rfl, h⟩)
    · obtain ⟨p, hp, rfl⟩ := List.mem_map.mp ha
      obtain ⟨q, hq, rfl⟩ := List.mem_map.mp hb
      obtain ⟨y, _, rfl⟩ := List.mem_map.mp hp
      obtain ⟨z, hz, hq⟩ := List.mem_flatMap.mp hq
      obtain ⟨v, _, rfl⟩ := List.mem_map.mp hq
      exact ltT_pr.mpr (.inl (h1.1 z hz))
theorem good_pairs {m : Nat} {R : List Nat} : GoodE m (pairsOf m R) := by
  have hp : ((pairsOf m R).map nkPr).Pairwise (fun a b => ltT a b = true) := pw_rows (c := fun x => (List.range m).filter fun y => bit R x y && decide (y ≠ x)) List.pairwise_lt_range fun x _ => List.pairwise_lt_range.filter _
  exact goodE_of (fun p hp => ⟨(mem_pairsOf.mp hp).1, (mem_pairsOf.mp hp).2.1⟩) hp (rise_of toNK_pr led_pr cmp_pr hp)
theorem good_ed {g : Gr} (h : GoodG g) {es : List (Nat × Nat)} (he : GoodE g.many es) : GoodG { g with ed := es } := ⟨h.loS, h.upS, h.few, h.pos, h.most, h.lo, h.up, he, h.al⟩
theorem le_sz (n : Nat) (h : n ≤ 100) : n ≤ sizeLine := by rw [sizeLine_eq]; omega
theorem cut3 {a b c d e : PV} : cutP [a, b, c, d, e] none (some 3) = [a, b, c] := by
  unfold cutP
  rw [HT.sIx_none, show (some (3 : Int)) = some ((3 : Nat) : Int) from rfl, HT.sIx_nat]
  rfl
theorem cut4b {a b c d e : PV} : cutP [a, b, c, d, e] (some 4) none = [e] := by
  unfold cutP
  rw [HT.sIx_none, show (some (4 : Int)) = some ((4 : Nat) : Int) from rfl, HT.sIx_nat]
  rfl
theorem Deck.ext {d lc : Addr} {S S' : Mp} (h : Deck d lc S) (e : Ext S S') : Deck d lc S' := by
  obtain ⟨cs, mx, dr, h1, h2, h3⟩ := h
  exact ⟨cs, mx, dr, e _ _ h1, e _ _ h2, h3⟩
theorem sh_pairs {g : Gr} (hg : GoodG g) {R : List Nat} : Sh 2 2940 (.tup ((pairsOf g.many R).map pvPr)) := sh_es hg.most good_pairs
theorem clash_lt {g : Gr} (hg : GoodG g) {R : List Nat} : ∀ p ∈ clashesOf g R, p.1 < 30 ∧ p.2 < 30 := fun p hp => by
  obtain ⟨r, hr, h⟩ := List.mem_flatMap.mp hp
  obtain ⟨u, hu, e⟩ := List.mem_filterMap.mp h
  split at e
  · cases e
    have h1 := List.snd_lt_of_mem_zipIdx hr
    have h2 := List.snd_lt_of_mem_zipIdx hu
    have := hg.loS
    have := hg.upS
    exact ⟨by omega, by omega⟩
  · cases e
theorem clash_len {g : Gr} (hg : GoodG g) {R : List Nat} : (clashesOf g R).length ≤ 900 := by
  have q1 := flatMap_len (l := g.lo.zipIdx) (f := fun r => clashRow g R r.2 r.1) (k := 30) fun x _ => by
    unfold clashRow
    have := hg.upS
    exact Nat.le_trans (List.length_filterMap_le _ _) (by simp; omega)
  have := hg.loS
  unfold clashesOf
  refine Nat.le_trans q1 ?_
  simp
  omega
theorem sh_clash {g : Gr} (hg : GoodG g) {R : List Nat} : Sh 2 13500 (.tup ((clashesOf g R).map pvPr)) := sh_prs (L := 900) (fun p hp => by have := clash_lt hg p hp; omega) (clash_len hg)
theorem hands_at : ∀ x ∈ hands, ∃ g R du cl, x = .tup [pvG g, pvTs du, pvTs cl] ∧ GoodG g ∧ IsRel g R ∧ pairsOf g.many R = du ∧ clashesOf g R = cl := fun x hx => by
  simp only [hands, List.mem_cons, List.not_mem_nil, or_false] at hx
  rcases hx with rfl | rfl | rfl
  · exact ⟨gCall, rowsC, _, _, rfl, good_call, rel_call, hand_pairs.1, hand_clash.1⟩
  · exact ⟨gAsk, rowsA, _, _, rfl, good_ask, rel_ask, hand_pairs.2, hand_clash.2.1⟩
  · exact ⟨gFree, rowsA, _, _, rfl, good_free, rel_free, hand_pairs.2, hand_clash.2.2⟩
def IL (ns : List Int) (d lc : Addr) (g : Gr) (p : Addr) (R : List Nat) (ρ : DSt) (S1 : Mp) : Prop := ∃ o2 o8, ρ = [some (.kl (ns.map PV.int)), some (.loc d), o2, some (pvG g), some (.str (shwT (pvG g))), some (.loc p), some (.tup ((pairsOf g.many R).map pvPr)), some (.tup ((clashesOf g R).map pvPr)), o8] ∧ Deck d lc S1 ∧ S1 p = some (.lst (pvNs R))
section
variable {P : Program} {w : World} {K : PySem.W.Frag} {mg : Str → Option Value} {base : Heap} {fl ft : Addr}
def G_law : DSp := fun xs S Q => ∃ ns : List Int, xs = [.kl (ns.map PV.int)] ∧ ∀ S', Q (.bl true) S'
theorem f_law {f : Addr} {fd : FuncData} (F : Fun K "law" "law" s_law f fd) (T : Txt K w mg fl ft)
    (C__law_deck : C8.Cal P w K mg base 1 "_law_deck" (spD K G_law_deck) []) (C__law_pick : C8.Cal P w K mg base 2 "_law_pick" (spD K G_law_pick) []) (C__law_graph : C8.Cal P w K mg base 4 "_law_graph" (spD K G_law_graph) [])
    (C__law_flows : C8.Cal P w K mg base 3 "_law_flows" (spD K G_law_flows) []) (C__law_pairs : C8.Cal P w K mg base 1 "_law_pairs" (spD K G_law_pairs) []) (C__law_clashes : C8.Cal P w K mg base 2 "_law_clashes" (spD K G_law_clashes) [])
    (C__law_rising : C8.Cal P w K mg base 1 "_law_rising" (spD K G_law_rising) []) (C__law_by_hand : C8.Cal P w K mg base 1 "_law_by_hand" (spD K G_law_by_hand) [])
    (C_flows : C8.Cal P w K mg base 7 "flows" (spD K G_flows) []) (C_clashes : C8.Cal P w K mg base 7 "clashes" (spD K G_clashes) []) (C_is_graph : C8.Cal P w K mg base 6 "is_graph" (spD K (G_graph true)) [])
    (W_flows : CalW P w K mg base 7 "flows" ["graph"] (spD K G_flows)) (W_clashes : CalW P w K mg base 7 "clashes" ["graph"] (spD K G_clashes)) :
    FnG P w K mg base (7+1) f fd ["script"] (spD K G_law) := by
  refine fnDG F sc_law (fun xs S Q h => by obtain ⟨_, rfl, _⟩ := h; rfl) fun cdv A outer s H E hgd hr => ?_
  refine ⟨_, (pss_cons (ps_set (i := 1) sc_law.nd rfl (Or.inl rfl) (C8.pe_c C__law_deck hr (by decide) (by rfl) (pa_cons (pv 0) pa_nil)))
    (pss_cons (ps_for PassesOwn.never rfl (pi_range1 (by rfl) T.b_range (pa_cons pe_int pa_nil)) (pg_name (i := 2) sc_law.nd rfl (Or.inl rfl)) (pss_cons (ps_set (i := 3) sc_law.nd rfl (Or.inl rfl) (C8.pe_c C__law_graph hr (by decide) (by rfl) (pa_cons (pv 1) (pa_cons (C8.pe_c C__law_pick hr (by decide) (by rfl) (pa_cons (pv 1) (pa_cons (pe_lst (pa_cons pe_int (pa_cons pe_int (pa_cons pe_int (pa_cons pe_int pa_nil))))) pa_nil))) pa_nil))))
    (pss_cons (ps_par (i := 4) (j := 5) rfl sc_law.nd rfl rfl (by decide) rfl rfl (pa_cons (pe_callB (c_repr hgd hr) (by rfl) T.b_repr bt_repr (pa_cons (pv 3) pa_nil)) (pa_cons (C8.pe_c C__law_flows hr (by decide) (by rfl) (pa_cons (pv 3) pa_nil)) pa_nil)) (by rfl))
    (pss_cons (ps_par (i := 6) (j := 7) rfl sc_law.nd rfl rfl (by decide) rfl rfl (pa_cons (C8.pe_c C__law_pairs hr (by decide) (by rfl) (pa_cons (pv 5) pa_nil)) (pa_cons (C8.pe_c C__law_clashes hr (by decide) (by rfl) (pa_cons (pv 3) (pa_cons (pv 5) pa_nil))) pa_nil)) (by rfl))
    (pss_cons (ps_if (PW.pt (pw_or (pt_cmpR op_ne (pe_callB (c_repr hgd hr) (by rfl) T.b_repr bt_repr (pa_cons (pe_lst (pa_cons (C8.pe_c C_flows hr (by decide) (by rfl) (pa_cons (pv 3) pa_nil)) (pa_cons (pe_kw W_flows hr (by decide) (by rfl) (pk_cons (pv 3) pk_nil)) pa_nil))) pa_nil)) (pe_callB (c_repr hgd hr) (by rfl) T.b_repr bt_repr (pa_cons (pe_lst (pa_cons (pv 6) (pa_cons (pv 6) pa_nil))) pa_nil)) (nomark _)) (pw_or1 (pt_cmpR op_notBl (C8.pe_c C_is_graph hr (by decide) (by rfl) (pa_cons (pv 3) pa_nil)) pe_bl (nomark _))))) (pss_one (ps_ret pe_bl)) pss_nil)
    (pss_cons (ps_if (PW.pt (pw_or (pt_cmpR op_ne (pe_callB (c_repr hgd hr) (by rfl) T.b_repr bt_repr (pa_cons (pe_lst (pa_cons (C8.pe_c C_clashes hr (by decide) (by rfl) (pa_cons (pv 3) pa_nil)) (pa_cons (pe_kw W_clashes hr (by decide) (by rfl) (pk_cons (pv 3) pk_nil)) pa_nil))) pa_nil)) (pe_callB (c_repr hgd hr) (by rfl) T.b_repr bt_repr (pa_cons (pe_lst (pa_cons (pv 7) (pa_cons (pv 7) pa_nil))) pa_nil)) (nomark _)) (pw_or1 (pt_cmpR op_ne (pe_callB (c_repr hgd hr) (by rfl) T.b_repr bt_repr (pa_cons (pv 3) pa_nil)) (pv 4) (nomark _))))) (pss_one (ps_ret pe_bl)) pss_nil)
    (pss_cons (ps_set (i := 8) sc_law.nd rfl (Or.inl rfl) (C8.pe_c C__law_flows hr (by decide) (by rfl) (pa_cons (pe_op op_plus (pe_op op_plus (pe_slice sl_any (pv 3) po_none (po_some pe_int)) (pe_tup (pa_cons (C8.pe_c C__law_rising hr (by decide) (by rfl) (pa_cons (pe_op op_plus (pe_callTy c_list (by rfl) T.b_list bt_list (pa_cons (pe_ix (ixK (K := K)) (pv 3) pe_int (fun _ _ => rfl)) pa_nil)) (pe_callTy c_list (by rfl) T.b_list bt_list (pa_cons (pv 6) pa_nil))) pa_nil)) pa_nil))) (pe_slice sl_any (pv 3) (po_some pe_int) po_none)) pa_nil)))
    (pss_one (ps_if (PW.pt (pw_or (pt_cmpR (op_neD (room64 hr)) (pv 8) (pv 5) (nomark _)) (pw_or1 (pt_cmpR op_ne (pe_callB (c_repr hgd hr) (by rfl) T.b_repr bt_repr (pa_cons (C8.pe_c C_flows hr (by decide) (by rfl) (pa_cons (pe_op op_plus (pe_op op_plus (pe_slice sl_any (pv 3) po_none (po_some pe_int)) (pe_tup (pa_cons (pv 6) pa_nil))) (pe_slice sl_any (pv 3) (po_some pe_int) po_none)) pa_nil)) pa_nil)) (pe_callB (c_repr hgd hr) (by rfl) T.b_repr bt_repr (pa_cons (pv 6) pa_nil)) (nomark _))))) (pss_one (ps_ret pe_bl)) pss_nil)))))))))
    (pss_cons (ps_for PassesOwn.never rfl (pi_list (pe_c0 C__law_by_hand hr (by decide) (by rfl))) (pgK (K := K) (n := 3) (pgs_cons (pg_name (i := 3) sc_law.nd rfl (Or.inl rfl)) (pgs_cons (pg_name (i := 6) sc_law.nd rfl (Or.inl rfl)) (pgs_cons (pg_name (i := 7) sc_law.nd rfl (Or.inl rfl)) pgs_nil)))) (pss_one (ps_if (pt_cmpR op_ne (pe_callB (c_repr hgd hr) (by rfl) T.b_repr bt_repr (pa_cons (pe_lst (pa_cons (C8.pe_c C_flows hr (by decide) (by rfl) (pa_cons (pv 3) pa_nil)) (pa_cons (C8.pe_c C_clashes hr (by decide) (by rfl) (pa_cons (pv 3) pa_nil)) pa_nil))) pa_nil)) (pe_callB (c_repr hgd hr) (by rfl) T.b_repr bt_repr (pa_cons (pe_lst (pa_cons (pv 6) (pa_cons (pv 7) pa_nil))) pa_nil)) (nomark _)) (pss_one (ps_ret pe_bl)) pss_nil)))
    (pss_one (ps_ret pe_bl))))), ?_⟩
  try dsimp only [cxOf, Cx.nox, Cx.wish]
  refine ⟨_, inferInstance, ?_⟩
  rintro _ S Q ⟨ns, rfl, q⟩
  refine seq_inv (fun ρ S1 => ∃ d lc, ρ = [some (.kl (ns.map PV.int)), some (.loc d), none, none, none, none, none, none, none] ∧ Deck d lc S1) (fun ρ S1 h => ?_) (fun N hN => ?_)
  · obtain ⟨d, lc, rfl, dk⟩ := h
    refine seq_inv (fun ρ S1 => ∃ o2 o3 o4 o5 o6 o7 o8, ρ = [some (.kl (ns.map PV.int)), some (.loc d), o2, o3, o4, o5, o6, o7, o8]) (fun ρ S1 h => ?_) (fun N hN => ?_)
    · obtain ⟨o2, o3, o4, o5, o6, o7, o8, rfl⟩ := h
      refine seq_inv (fun ρ S1 => True) (fun ρ S1 h => ?_) (fun N hN => ?_)
      · walk_at "D"
        exact q _
      · walk_at "D"
        refine ⟨rfl, fun S2 p e2 p0 hp => ?_⟩
        dsimp only
        rw [lr_at hp]
        simp only [optD_some]
        refine forR_inv (fun r ρ S1 => ∃ o2 o3 o4 o5 o6 o7 o8, (∀ x ∈ r, x ∈ hands) ∧ ρ = [some (.kl (ns.map PV.int)), some (.loc d), o2, o3, o4, o5, o6, o7, o8]) (fun x r ρ S1 hI N2 hN2 => ?_) (fun ρ S1 hI => ?_) _ _ _ ⟨_, _, _, _, _, _, _, fun _ h => h, rfl⟩
        · obtain ⟨o2, o3, o4, o5, o6, o7, o8, hr', rfl⟩ := hI
          obtain ⟨g, R, du, cl, rfl, hg, hR, hd, hc⟩ := hands_at x (hr' x List.mem_cons_self)
          unfold pvTs
          walk_at "D"
          refine ⟨g, rfl, hg, fun S3 R1 hR1 e3 => ⟨g, rfl, hg, fun S4 R2 hR2 e4 => ⟨by decide, fun a ha => ?_⟩⟩⟩
          rw [hR1.uniq hR, hR2.uniq hR, hd, hc]
          have s1 : Shs 2 17000 [PV.tup (du.map pvPr), PV.tup (cl.map pvPr)] := by
            rw [← hd, ← hc]
            exact (shs_cons (sh_pairs hg) (shs_cons (sh_clash hg) shs_nil)).mono (Nat.le_refl _) (by omega)
          obtain ⟨dd, z1, z2, z3, z4, z5, z6⟩ := repr_loc (S := mset S4 a _) mset_same s1 (by omega) (by omega)
          rw [z1]
          simp only [optD_some]
          refine ⟨z2, z3, z4, z5, by decide, fun b hb => ?_⟩
          obtain ⟨dd', y1, y2, y3, y4, y5, y6⟩ := repr_loc (S := mset (mset S4 a _) b _) mset_same s1 (by omega) (by omega)
          rw [y1]
          simp only [optD_some]
          refine ⟨y2, y3, y4, y5, ?_⟩
          rw [z6, y6, if_neg (by simp)]
          exact hN2 _ _ ⟨_, _, _, _, _, _, _, fun x hx => hr' x (List.mem_cons_of_mem _ hx), rfl⟩
        · obtain ⟨o2, o3, o4, o5, o6, o7, o8, hr', rfl⟩ := hI
          exact hN _ _ trivial
    · walk_at "D"
      refine ⟨by decide, by decide, ?_⟩
      refine forR_inv (fun r ρ S1 => ∃ o2 o3 o4 o5 o6 o7 o8, ρ = [some (.kl (ns.map PV.int)), some (.loc d), o2, o3, o4, o5, o6, o7, o8] ∧ Deck d lc S1) (fun x r ρ S1 hI N2 hN2 => ?_) (fun ρ S1 hI => ?_) _ _ _ ⟨_, _, _, _, _, _, _, rfl, dk⟩
      · obtain ⟨o2, o3, o4, o5, o6, o7, o8, rfl, dk⟩ := hI
        simp only [dgName]
        refine seq_inv (fun ρ S1 => ∃ g o2 o4 o5 o6 o7 o8, ρ = [some (.kl (ns.map PV.int)), some (.loc d), o2, some (pvG g), o4, o5, o6, o7, o8] ∧ GoodG g ∧ Deck d lc S1) (fun ρ S1 h => ?_) (fun N3 hN3 => ?_)
        · obtain ⟨g, o2, o4, o5, o6, o7, o8, rfl, hg, dk⟩ := h
          refine seq_inv (fun ρ S1 => ∃ p R o2 o6 o7 o8, ρ = [some (.kl (ns.map PV.int)), some (.loc d), o2, some (pvG g), some (.str (shwT (pvG g))), some (.loc p), o6, o7, o8] ∧ Deck d lc S1 ∧ IsRel g R ∧ S1 p = some (.lst (pvNs R))) (fun ρ S1 h => ?_) (fun N3 hN3 => ?_)
          · obtain ⟨p, R, o2, o6, o7, o8, rfl, dk, hR, hp⟩ := h
            refine seq_inv (IL ns d lc g p R) (fun ρ S1 h => ?_) (fun N3 hN3 => ?_)
            · refine seq_inv (IL ns d lc g p R) (fun ρ S1 h => ?_) (fun N3 hN3 => ?_)
              · refine seq_inv (IL ns d lc g p R) (fun ρ S1 h => ?_) (fun N3 hN3 => ?_)
                · refine seq_inv (fun ρ S1 => IL ns d lc g p R ρ S1 ∧ ∃ q, ρ[8]? = some (some (.loc q)) ∧ S1 q = some (.lst (pvNs R))) (fun ρ S1 h => ?_) (fun N3 hN3 => ?_)
                  · obtain ⟨⟨o2, o8, rfl, dk, hp⟩, q', eq, hq⟩ := h
                    cases eq
                    unfold pvG
                    walk_at "D"
                    refine eqD_ns hq hp ?_
                    dsimp only
                    rw [if_neg (by simp)]
                    rw [cut3, cut4b]
                    refine ⟨le_sz 1 (by decide), le_sz 4 (by decide), le_sz 5 (by decide), { g with ed := pairsOf g.many R }, rfl, good_ed hg good_pairs, fun S2 R' hR' e2 => ?_⟩
                    rw [show R' = R from isRel_same hg (fun x hx => (hR.2 _ _).mp (mem_pairsOf.mp hx).2.2.1) (fun x y h hne => mem_pairsOf.mpr ⟨(h.lt hg).1, (h.lt hg).2, (hR.2 _ _).mpr h, hne⟩) hR hR']
                    obtain ⟨dd, z1, z2, z3, z4, z5, z6⟩ := repr_tup (S := S2) (sh_pairs hg (R := R)) (by omega) (by omega)
                    rw [z1]
                    simp only [optD_some]
                    refine ⟨z2, z3, z4, z5, z2, z3, z4, z5, ?_⟩
                    rw [if_neg (by simp)]
                    exact hN2 _ _ ⟨_, _, _, _, _, _, _, rfl, dk.ext e2⟩
                  · rename_i h
                    obtain ⟨o2, o8, rfl, dk, hp⟩ := h
                    unfold pvG
                    walk_at "D"
                    rw [at3]
                    simp only [optD_some]
                    intro l hl l1 hl1
                    have a1 : (mset S1 l (some (.lst (g.ed.map pvPr)))) l = some (.lst (g.ed.map pvPr)) := mset_same
                    have a2 : (mset (mset S1 l (some (.lst (g.ed.map pvPr)))) l1 (some (.lst ((pairsOf g.many R).map pvPr)))) l = some (.lst (g.ed.map pvPr)) := by rw [mset_ne (ne_of a1 hl1)]; exact a1
                    rw [lst_at a2, lst_same]
                    simp only [optD_some]
                    rw [← List.map_append]
                    have hlen := hg.ed.len14 hg.most
                    have hlen2 := (good_pairs (m := g.many) (R := R)).len14 hg.most
                    refine ⟨by rw [List.length_map, List.length_map, sizeLine_eq]; omega, fun l2 hl2 => ?_⟩
                    have e3 := ((Ext.new hl (o := some (.lst (g.ed.map pvPr)))).new2 hl1 (o := some (.lst ((pairsOf g.many R).map pvPr)))).new2 hl2 (o := some (.lst ((g.ed ++ pairsOf g.many R).map pvPr)))
                    refine call_rising toNK_pr (fun _ => rfl) led_pr cmp_pr mset_same (by rw [List.length_append]; omega) fun S4 es h1 h2 h3 h4 _ e4 => ?_
                    rw [cut3, cut4b]
                    have rels : ∀ x ∈ es, Rel g x.1 x.2 := fun x hx => by
                      rcases List.mem_append.mp (h1 x hx) with z | z
                      · exact .edge z
                      · exact (hR.2 _ _).mp (mem_pairsOf.mp z).2.2.1
                    have ge : GoodE g.many es := goodE_of (fun x hx => (rels x hx).lt hg) h3 h4
                    refine ⟨le_sz 1 (by decide), le_sz 4 (by decide), le_sz 5 (by decide), { g with ed := es }, rfl, good_ed hg ge, fun S5 q' R' hR' e5 q0 hq => ?_⟩
                    rw [show R' = R from isRel_same hg rels (fun x y h hne => by
                      have := h2 (x, y) (List.mem_append_right _ (mem_pairsOf.mpr ⟨(h.lt hg).1, (h.lt hg).2, (hR.2 _ _).mpr h, hne⟩))
                      obtain ⟨z, hz, e⟩ := List.mem_map.mp this
                      exact nkPr_inj e ▸ hz) hR hR'] at hq
                    have e6 := (e3.trans e4).trans e5
                    exact hN3 _ _ ⟨⟨_, _, rfl, dk.ext e6, e6 _ _ hp⟩, q', rfl, hq⟩
                · rename_i h
                  obtain ⟨o2, o8, rfl, dk, hp⟩ := h
                  walk_at "D"
                  refine ⟨g, rfl, hg, fun S3 R1 hR1 e3 => ⟨g, rfl, hg, fun S4 R2 hR2 e4 => ⟨by decide, fun a ha => ?_⟩⟩⟩
                  rw [hR1.uniq hR, hR2.uniq hR]
                  have s1 : Shs 2 40000 [PV.tup ((clashesOf g R).map pvPr), PV.tup ((clashesOf g R).map pvPr)] := (shs_cons (sh_clash hg) (shs_cons (sh_clash hg) shs_nil)).mono (Nat.le_refl _) (by omega)
                  obtain ⟨dd, z1, z2, z3, z4, z5, z6⟩ := repr_loc (S := mset S4 a _) mset_same s1 (by omega) (by omega)
                  rw [z1]
                  simp only [optD_some]
                  refine ⟨z2, z3, z4, z5, by decide, fun b hb => ?_⟩
                  obtain ⟨dd', y1, y2, y3, y4, y5, y6⟩ := repr_loc (S := mset (mset S4 a _) b _) mset_same s1 (by omega) (by omega)
                  rw [y1]
                  simp only [optD_some]
                  refine ⟨y2, y3, y4, y5, ?_⟩
                  rw [z6, y6, if_neg (by simp)]
                  have e5 := ((e3.trans e4).new2 ha (o := some (.lst [PV.tup ((clashesOf g R).map pvPr), PV.tup ((clashesOf g R).map pvPr)]))).new2 hb (o := some (.lst [PV.tup ((clashesOf g R).map pvPr), PV.tup ((clashesOf g R).map pvPr)]))
                  generalize (mset (mset S4 a (some (.lst [PV.tup ((clashesOf g R).map pvPr), PV.tup ((clashesOf g R).map pvPr)]))) b (some (.lst [PV.tup ((clashesOf g R).map pvPr), PV.tup ((clashesOf g R).map pvPr)]))) = S6 at e5 ⊢
                  obtain ⟨dg, x1, x2, x3, x4, x5, x6⟩ := repr_tup (S := S6) (sh_G hg) (by omega) (by omega)
                  rw [show datS S6 (pvG g) = some dg from x1]
                  simp only [optD_some]
                  refine ⟨x2, x3, x4, x5, ?_⟩
                  rw [x6, if_neg (by simp [pvG])]
                  exact hN3 _ _ ⟨_, _, rfl, dk.ext e5, e5 _ _ hp⟩
              · rename_i h
                obtain ⟨o2, o8, rfl, dk, hp⟩ := h
                walk_at "D"
                refine ⟨g, rfl, hg, fun S3 R1 hR1 e3 => ⟨g, rfl, hg, fun S4 R2 hR2 e4 => ⟨by decide, fun a ha => ?_⟩⟩⟩
                rw [hR1.uniq hR, hR2.uniq hR]
                have s1 : Shs 2 40000 [PV.tup ((pairsOf g.many R).map pvPr), PV.tup ((pairsOf g.many R).map pvPr)] := (shs_cons (sh_pairs hg) (shs_cons (sh_pairs hg) shs_nil)).mono (Nat.le_refl _) (by omega)
                obtain ⟨dd, z1, z2, z3, z4, z5, z6⟩ := repr_loc (S := mset S4 a _) mset_same s1 (by omega) (by omega)
                rw [z1]
                simp only [optD_some]
                refine ⟨z2, z3, z4, z5, by decide, fun b hb => ?_⟩
                obtain ⟨dd', y1, y2, y3, y4, y5, y6⟩ := repr_loc (S := mset (mset S4 a _) b _) mset_same s1 (by omega) (by omega)
                rw [y1]
                simp only [optD_some]
                refine ⟨y2, y3, y4, y5, ?_⟩
                rw [z6, y6, if_neg (by simp)]
                have e5 := ((e3.trans e4).new2 ha (o := some (.lst [PV.tup ((pairsOf g.many R).map pvPr), PV.tup ((pairsOf g.many R).map pvPr)]))).new2 hb (o := some (.lst [PV.tup ((pairsOf g.many R).map pvPr), PV.tup ((pairsOf g.many R).map pvPr)]))
                generalize (mset (mset S4 a (some (.lst [PV.tup ((pairsOf g.many R).map pvPr), PV.tup ((pairsOf g.many R).map pvPr)]))) b (some (.lst [PV.tup ((pairsOf g.many R).map pvPr), PV.tup ((pairsOf g.many R).map pvPr)]))) = S6 at e5 ⊢
                refine ⟨g, rfl, hg, fun S7 e7 => ?_⟩
                show if (!decide (true = true)) = true then _ else _
                rw [if_neg (by decide)]
                exact hN3 _ _ ⟨_, _, rfl, dk.ext (e5.trans e7), e7 _ _ (e5 _ _ hp)⟩
            · walk_at "D"
              refine ⟨p, g.many, R, rfl, hp, hR.1, hg.most, fun S2 e2 => ⟨g, p, R, rfl, hg, e2 _ _ hp, hR.1, fun S3 e3 => ?_⟩⟩
              exact hN3 _ _ ⟨_, _, rfl, dk.ext (e2.trans e3), e3 _ _ (e2 _ _ hp)⟩
          · walk_at "D"
            unfold pvG
            obtain ⟨dd, z1, z2, z3, z4, z5, z6⟩ := repr_tup (S := S1) (sh_G hg) (by omega) (by omega)
            rw [z1]
            simp only [optD_some]
            refine ⟨z2, z3, z4, z5, g, rfl, hg, fun S2 p R hR e2 p0 hp => ?_⟩
            rw [z6]
            exact hN3 _ _ ⟨p, R, _, _, _, _, rfl, dk.ext e2, hR, hp⟩
        · walk_at "D"
          refine ⟨by decide, fun p hp => ?_⟩
          refine call_pick (dk.new hp) mset_same (by decide) (by decide) (dk.ne hp) fun S3 y hy dk3 ex3 => ?_
          have hy' : ∃ n : Nat, y = .int n ∧ 1 ≤ n ∧ n ≤ 14 := by
            simp only [List.mem_cons, List.not_mem_nil, or_false] at hy
            rcases hy with rfl | rfl | rfl | rfl
            · exact ⟨3, rfl, by omega, by omega⟩
            · exact ⟨8, rfl, by omega, by omega⟩
            · exact ⟨8, rfl, by omega, by omega⟩
            · exact ⟨14, rfl, by omega, by omega⟩
          obtain ⟨n, rfl, h1, h2⟩ := hy'
          exact ⟨d, lc, n, rfl, h1, h2, dk3, fun S4 g hg dk4 _ => hN3 _ _ ⟨g, _, _, _, _, _, _, rfl, hg, dk4⟩⟩
      · obtain ⟨o2, o3, o4, o5, o6, o7, o8, rfl, dk⟩ := hI
        exact hN _ _ ⟨_, _, _, _, _, _, _, rfl⟩
  · walk_at "D"
    exact ⟨ns, rfl, fun S' d lc dk _ _ _ => hN _ _ ⟨d, lc, rfl, dk⟩⟩
end
end K06

namespace K06
open PySem PySem.Spec PyProof.Rows L2 DL
theorem dfn {K : PySem.W.Frag} {h : Heap} {mg : Str → Option Value} {x : Str} {st : Stmt} {f : Addr} {oc : Value} {od an : Option Addr} {osl : Array (Option Value)} {kV doc pm cdv ct : Value} (X : K.In h) (G : h.Ns mainGlobals mg) (a : PySem.W.nsIn K mainGlobals x = some (some (.ref f)))
    (l : K.lookup f = some ⟨oc, od, .func (PySem.W.fnOf x x (defArgs st) (defBody st) (defScope st) .none kV doc pm an cdv ct), osl⟩) (c : PySem.W.codeIn K cdv x = true) (k : PySem.W.keepIn K (.ref f) = true) : ∃ f fd, mg x = some (.ref f) ∧ Fun K x x st f fd :=
  ⟨f, _, PySem.W.mg_of X G a, fun_mk l c k⟩
theorem dfnAt {K : PySem.W.Frag} {x : Str} {st : Stmt} {f : Addr} {oc : Value} {od an : Option Addr} {osl : Array (Option Value)} {kV doc pm cdv ct : Value} 
    (l : K.lookup f = some ⟨oc, od, .func (PySem.W.fnOf x x (defArgs st) (defBody st) (defScope st) .none kV doc pm an cdv ct), osl⟩) (c : PySem.W.codeIn K cdv x = true) (k : PySem.W.keepIn K (.ref f) = true) : ∃ fd, Fun K x x st f fd :=
  ⟨_, fun_mk l c k⟩
theorem mth {K : PySem.W.Frag} {m q : Str} {C : Addr} {st : Stmt} {f : Addr} {oc : Value} {od an : Option Addr} {osl : Array (Option Value)} {kV doc pm cdv ct : Value} (a : PySem.W.findIn K (.ref C) m = some (some (.ref f))) (i : PySem.W.isFn K (.ref f) = true)
    (l : K.lookup f = some ⟨oc, od, .func (PySem.W.fnOf m q (defArgs st) (defBody st) (defScope st) .none kV doc pm an cdv ct), osl⟩) (c : PySem.W.codeIn K cdv q = true) (k : PySem.W.keepIn K (.ref f) = true) : ∃ f fd, Meth K C m f ∧ Fun K m q st f fd :=
  ⟨f, _, ⟨a, i, k⟩, fun_mk l c k⟩
theorem gv_int {K : PySem.W.Frag} {h : Heap} {mg : Str → Option Value} {n : Str} {i : Int} {t : Tok} (X : K.In h) (G : h.Ns mainGlobals mg) (a : PySem.W.nsIn K mainGlobals n = some (some (.int i t))) : GV K mg n (.int i) := ⟨_, .int i, PySem.W.mg_of X G a, ⟨t, rfl⟩, fun _ => .int i⟩
theorem gv_str {K : PySem.W.Frag} {h : Heap} {mg : Str → Option Value} {n z : Str} {t : Tok} (X : K.In h) (G : h.Ns mainGlobals mg) (a : PySem.W.nsIn K mainGlobals n = some (some (.str z t))) : GV K mg n (.str z) := ⟨_, .str z, PySem.W.mg_of X G a, ⟨t, rfl⟩, fun _ => .str z⟩
theorem gv_loc {K : PySem.W.Frag} {h : Heap} {mg : Str → Option Value} {n : Str} {p : Addr} (X : K.In h) (G : h.Ns mainGlobals mg) (a : PySem.W.nsIn K mainGlobals n = some (some (.ref p))) : GV K mg n (.loc p) := ⟨_, .ref p, PySem.W.mg_of X G a, rfl, fun _ => .loc p⟩
theorem reps_strs {K : PySem.W.Frag} {H : Hp} : ∀ zs : List Str, Reps K H (zs.map V.str) (zs.map PV.str)
  | [] => .nil
  | z :: zs => .cons (.str z) (reps_strs zs)
theorem gv_strs {K : PySem.W.Frag} {h : Heap} {mg : Str → Option Value} {n : Str} {p : Addr} {zs : List Str} {its : Array Value} {m : Nat} {sl : Array (Option Value)} (X : K.In h) (G : h.Ns mainGlobals mg) (a : PySem.W.nsIn K mainGlobals n = some (some (.ref p)))
    (l : K.lookup p = some ⟨.type "tuple", none, .seq its m, sl⟩) (r : Vals (zs.map V.str) its.toList) (hz : zs.length ≤ 1000) : GV K mg n (.ktup (zs.map PV.str)) := by
  refine ⟨_, .ref p, PySem.W.mg_of X G a, rfl, fun H => .ktup (.inl ⟨_, its, m, l, rfl, rfl, rfl, ?_, r⟩) (reps_strs zs)⟩
  have := r.length
  rw [List.length_map] at this
  rw [sizeLine_eq, ← Array.length_toList, ← this]
  omega
theorem wg_sizes {K : PySem.W.Frag} {w : World} {h : Heap} {mg : Str → Option Value} {p : Addr} {es : Array DictEntry} {m : Nat} {t1 t2 t3 t4 t5 t6 : Tok} (X : K.In h) (G : h.Ns mainGlobals mg) (a : PySem.W.nsIn K mainGlobals "SIZES" = some (some (.ref p))) (l : K.lookup p = some ⟨.type "dict", none, .dict es m, #[]⟩)
    (k : PySem.W.KeysLit w.params es.toList) (low : (p == sysModules) = false) (e1 : PySem.W.nsIn K p "num" = some (some (.int 1 t1))) (e2 : PySem.W.nsIn K p "fun" = some (some (.int 3 t2))) (e3 : PySem.W.nsIn K p "rec" = some (some (.int 2 t3))) (e4 : PySem.W.nsIn K p "var" = some (some (.int 2 t4))) (e5 : PySem.W.nsIn K p "any" = some (some (.int 1 t5))) (e6 : PySem.W.nsIn K p "none" = some (some (.int 1 t6))) : WG K w mg "SIZES" sizes := by
  refine ⟨p, PySem.W.mg_of X G a, ⟨es, m, l, k⟩, low, fun z v h => ?_⟩
  unfold sizes at h
  have step : ∀ {z x : Str} {y v : Int} {r : List (Str × Int)}, List.lookup z ((x, y) :: r) = some v → (z = x ∧ v = y) ∨ List.lookup z r = some v := fun {z x y v r} h => by
    rw [List.lookup_cons] at h
    split at h
    · rename_i e
      exact .inl ⟨by simpa using e, (Option.some.inj h).symm⟩
    · exact .inr h
  rcases step h with ⟨rfl, rfl⟩ | h
  · exact ⟨_, e1⟩
  rcases step h with ⟨rfl, rfl⟩ | h
  · exact ⟨_, e2⟩
  rcases step h with ⟨rfl, rfl⟩ | h
  · exact ⟨_, e3⟩
  rcases step h with ⟨rfl, rfl⟩ | h
  · exact ⟨_, e4⟩
  rcases step h with ⟨rfl, rfl⟩ | h
  · exact ⟨_, e5⟩
  rcases step h with ⟨rfl, rfl⟩ | h
  · exact ⟨_, e6⟩
  · cases h
set_option maxHeartbeats 0 in
theorem all_mk {P : Program} {w : World} {K : PySem.W.Frag} {h : Heap} {mg : Str → Option Value} {fa C fl ft : Addr} (X : K.In h) (G : h.Ns mainGlobals mg) (hfa : mg "law" = some (.ref fa))
    (D_ones : ∃ f fd, mg "ones" = some (.ref f) ∧ Fun K "ones" "ones" s_ones f fd)
    (D_is_whole : ∃ f fd, mg "is_whole" = some (.ref f) ∧ Fun K "is_whole" "is_whole" s_is_whole f fd)
    (a_is_label : PySem.W.nsIn K mainGlobals "is_label" = some (some (.ref fl))) (D_is_label : ∃ fd, Fun K "is_label" "is_label" s_is_label fl fd)
    (a_is_tag : PySem.W.nsIn K mainGlobals "is_tag" = some (some (.ref ft))) (D_is_tag : ∃ fd, Fun K "is_tag" "is_tag" s_is_tag ft fd)
    (D_are_rising : ∃ f fd, mg "are_rising" = some (.ref f) ∧ Fun K "are_rising" "are_rising" s_are_rising f fd)
    (D_has_word : ∃ f fd, mg "has_word" = some (.ref f) ∧ Fun K "has_word" "has_word" s_has_word f fd)
    (D_are_parts : ∃ f fd, mg "are_parts" = some (.ref f) ∧ Fun K "are_parts" "are_parts" s_are_parts f fd)
    (D_is_head : ∃ f fd, mg "is_head" = some (.ref f) ∧ Fun K "is_head" "is_head" s_is_head f fd)
    (D_do_clash : ∃ f fd, mg "do_clash" = some (.ref f) ∧ Fun K "do_clash" "do_clash" s_do_clash f fd)
    (D_flows_of_heads : ∃ f fd, mg "flows_of_heads" = some (.ref f) ∧ Fun K "flows_of_heads" "flows_of_heads" s_flows_of_heads f fd)
    (D_are_heads : ∃ f fd, mg "are_heads" = some (.ref f) ∧ Fun K "are_heads" "are_heads" s_are_heads f fd)
    (D_is_pair : ∃ f fd, mg "is_pair" = some (.ref f) ∧ Fun K "is_pair" "is_pair" s_is_pair f fd)
    (D_are_pairs : ∃ f fd, mg "are_pairs" = some (.ref f) ∧ Fun K "are_pairs" "are_pairs" s_are_pairs f fd)
    (D_is_graph_value : ∃ f fd, mg "is_graph_value" = some (.ref f) ∧ Fun K "is_graph_value" "is_graph_value" s_is_graph_value f fd)
    (D_need_graph : ∃ f fd, mg "need_graph" = some (.ref f) ∧ Fun K "need_graph" "need_graph" s_need_graph f fd)
    (D_is_graph : ∃ f fd, mg "is_graph" = some (.ref f) ∧ Fun K "is_graph" "is_graph" s_is_graph f fd)
    (D_heads_by_node : ∃ f fd, mg "heads_by_node" = some (.ref f) ∧ Fun K "heads_by_node" "heads_by_node" s_heads_by_node f fd)
    (D_closing_of : ∃ f fd, mg "closing_of" = some (.ref f) ∧ Fun K "closing_of" "closing_of" s_closing_of f fd)
    (D_closed_rows : ∃ f fd, mg "closed_rows" = some (.ref f) ∧ Fun K "closed_rows" "closed_rows" s_closed_rows f fd)
    (D_flow_pairs : ∃ f fd, mg "flow_pairs" = some (.ref f) ∧ Fun K "flow_pairs" "flow_pairs" s_flow_pairs f fd)
    (D_flows : ∃ f fd, mg "flows" = some (.ref f) ∧ Fun K "flows" "flows" s_flows f fd)
    (D_clashes_in : ∃ f fd, mg "clashes_in" = some (.ref f) ∧ Fun K "clashes_in" "clashes_in" s_clashes_in f fd)
    (D_clashes : ∃ f fd, mg "clashes" = some (.ref f) ∧ Fun K "clashes" "clashes" s_clashes f fd)
    (D__law_deck : ∃ f fd, mg "_law_deck" = some (.ref f) ∧ Fun K "_law_deck" "_law_deck" s__law_deck f fd)
    (D__law_draw : ∃ f fd, mg "_law_draw" = some (.ref f) ∧ Fun K "_law_draw" "_law_draw" s__law_draw f fd)
    (D__law_pick : ∃ f fd, mg "_law_pick" = some (.ref f) ∧ Fun K "_law_pick" "_law_pick" s__law_pick f fd)
    (D__law_rising : ∃ f fd, mg "_law_rising" = some (.ref f) ∧ Fun K "_law_rising" "_law_rising" s__law_rising f fd)
    (D__law_head : ∃ f fd, mg "_law_head" = some (.ref f) ∧ Fun K "_law_head" "_law_head" s__law_head f fd)
    (D__law_graph : ∃ f fd, mg "_law_graph" = some (.ref f) ∧ Fun K "_law_graph" "_law_graph" s__law_graph f fd)
    (D__law_meeting : ∃ f fd, mg "_law_meeting" = some (.ref f) ∧ Fun K "_law_meeting" "_law_meeting" s__law_meeting f fd)
    (D__law_shared : ∃ f fd, mg "_law_shared" = some (.ref f) ∧ Fun K "_law_shared" "_law_shared" s__law_shared f fd)
    (D__law_flows : ∃ f fd, mg "_law_flows" = some (.ref f) ∧ Fun K "_law_flows" "_law_flows" s__law_flows f fd)
    (D__law_pairs : ∃ f fd, mg "_law_pairs" = some (.ref f) ∧ Fun K "_law_pairs" "_law_pairs" s__law_pairs f fd)
    (D__law_clashes : ∃ f fd, mg "_law_clashes" = some (.ref f) ∧ Fun K "_law_clashes" "_law_clashes" s__law_clashes f fd)
    (D__law_by_hand : ∃ f fd, mg "_law_by_hand" = some (.ref f) ∧ Fun K "_law_by_hand" "_law_by_hand" s__law_by_hand f fd)
    (D_law : ∃ f fd, mg "law" = some (.ref f) ∧ Fun K "law" "law" s_law f fd)
    (aC : PySem.W.nsIn K mainGlobals "Closing" = some (some (.ref C)))
    (D_Closing___init__ : ∃ f fd, Meth K C "__init__" f ∧ Fun K "__init__" "Closing.__init__" s_Closing___init__ f fd)
    (D_Closing_met : ∃ f fd, Meth K C "met" f ∧ Fun K "met" "Closing.met" s_Closing_met f fd)
    (D_Closing_joined : ∃ f fd, Meth K C "joined" f ∧ Fun K "joined" "Closing.joined" s_Closing_joined f fd)
    (D_Closing_closed : ∃ f fd, Meth K C "closed" f ∧ Fun K "closed" "Closing.closed" s_Closing_closed f fd)
    (pgC : PySem.W.plainGet K C Str.empty = true)
    (hdC : PySem.W.hasDictIn K C = true)
    (poC : PySem.W.plainOver K C = true)
    (saC : PySem.W.findIn K (.ref C) "__setattr__" = some (some (.builtin "object.__setattr__")))
    (mkC : PySem.W.makesIn K C = true)
    (kcC : PySem.W.keepIn K (.ref C) = true)
    (n_reach : PySem.W.findIn K (.ref C) "reach" = some none)
    (n_back : PySem.W.findIn K (.ref C) "back" = some none)
    (n_lowers_at : PySem.W.findIn K (.ref C) "lowers_at" = some none)
    (n_uppers_at : PySem.W.findIn K (.ref C) "uppers_at" = some none)
    (n_allowed_known : PySem.W.findIn K (.ref C) "allowed_known" = some none)
    (n_steps : PySem.W.findIn K (.ref C) "steps" = some none)
    (n_waiting : PySem.W.findIn K (.ref C) "waiting" = some none)
    (b_len : PySem.W.nsIn K mainGlobals "len" = some none)
    (b_isinstance : PySem.W.nsIn K mainGlobals "isinstance" = some none)
    (b_all : PySem.W.nsIn K mainGlobals "all" = some none)
    (b_max : PySem.W.nsIn K mainGlobals "max" = some none)
    (b_repr : PySem.W.nsIn K mainGlobals "repr" = some none)
    (b_sorted : PySem.W.nsIn K mainGlobals "sorted" = some none)
    (b_int : PySem.W.nsIn K mainGlobals "int" = some none)
    (b_bool : PySem.W.nsIn K mainGlobals "bool" = some none)
    (b_str : PySem.W.nsIn K mainGlobals "str" = some none)
    (b_tuple : PySem.W.nsIn K mainGlobals "tuple" = some none)
    (b_list : PySem.W.nsIn K mainGlobals "list" = some none)
    (b_dict : PySem.W.nsIn K mainGlobals "dict" = some none)
    (b_range : PySem.W.nsIn K mainGlobals "range" = some none)
    (b_zip : PySem.W.nsIn K mainGlobals "zip" = some none)
    (b_enumerate : PySem.W.nsIn K mainGlobals "enumerate" = some none)
    (g_LETTERS : GV K mg "LETTERS" (.str letters))
    (g_CAPITALS : GV K mg "CAPITALS" (.str capitals))
    (g_LONGEST : GV K mg "LONGEST" (.int 8))
    (g_GRAMMAR : GV K mg "GRAMMAR" (.ktup grammar))
    (g_NUM : GV K mg "NUM" (.str "num"))
    (g_FUN : GV K mg "FUN" (.str "fun"))
    (g_REC : GV K mg "REC" (.str "rec"))
    (g_VAR : GV K mg "VAR" (.str "var"))
    (g_ANY : GV K mg "ANY" (.str "any"))
    (g_NONE : GV K mg "NONE" (.str "none"))
    (g_MOST_PARTS : GV K mg "MOST_PARTS" (.int 400))
    (g_GRAPH : GV K mg "GRAPH" (.int 5))
    (g_MOST_NODES : GV K mg "MOST_NODES" (.int 1000))
    (g_MOST_ROWS : GV K mg "MOST_ROWS" (.int 1000000))
    (g_SIZES : WG K w mg "SIZES" sizes)
    (hne : ft ≠ fl)
    : ∃ fd : FuncData, (∀ (s : Shared) (v : Value), BindsTo s fd ⟨[v], []⟩ [("script", v)]) ∧ ∀ base : Heap, K.In base → base.Ns mainGlobals mg → FnG P w K mg base 8 fa fd ["script"] (spD K G_law) := by
  have T : Txt K w mg fl ft := ⟨PySem.W.mg_none_of X G b_len, PySem.W.mg_none_of X G b_isinstance, PySem.W.mg_none_of X G b_all, PySem.W.mg_none_of X G b_max, PySem.W.mg_none_of X G b_repr, PySem.W.mg_none_of X G b_sorted, PySem.W.mg_none_of X G b_int, PySem.W.mg_none_of X G b_bool, PySem.W.mg_none_of X G b_str, PySem.W.mg_none_of X G b_tuple, PySem.W.mg_none_of X G b_list, PySem.W.mg_none_of X G b_dict, PySem.W.mg_none_of X G b_range, PySem.W.mg_none_of X G b_zip, PySem.W.mg_none_of X G b_enumerate, g_LETTERS, g_CAPITALS, g_LONGEST, g_GRAMMAR, g_NUM, g_FUN, g_REC, g_VAR, g_ANY, g_NONE, g_SIZES, g_MOST_PARTS, g_GRAPH, g_MOST_NODES, g_MOST_ROWS, gv_loc X G a_is_label, gv_loc X G a_is_tag⟩
  have hC : Cls K C := ⟨pgC, hdC, poC, saC⟩
  obtain ⟨q_ones, fd_ones, m_ones, F_ones⟩ := D_ones
  obtain ⟨q_is_whole, fd_is_whole, m_is_whole, F_is_whole⟩ := D_is_whole
  obtain ⟨fd_is_label, F_is_label⟩ := D_is_label
  have m_is_label := PySem.W.mg_of X G a_is_label
  obtain ⟨fd_is_tag, F_is_tag⟩ := D_is_tag
  have m_is_tag := PySem.W.mg_of X G a_is_tag
  obtain ⟨q_are_rising, fd_are_rising, m_are_rising, F_are_rising⟩ := D_are_rising
  obtain ⟨q_has_word, fd_has_word, m_has_word, F_has_word⟩ := D_has_word
  obtain ⟨q_are_parts, fd_are_parts, m_are_parts, F_are_parts⟩ := D_are_parts
  obtain ⟨q_is_head, fd_is_head, m_is_head, F_is_head⟩ := D_is_head
  obtain ⟨q_do_clash, fd_do_clash, m_do_clash, F_do_clash⟩ := D_do_clash
  obtain ⟨q_flows_of_heads, fd_flows_of_heads, m_flows_of_heads, F_flows_of_heads⟩ := D_flows_of_heads
  obtain ⟨q_are_heads, fd_are_heads, m_are_heads, F_are_heads⟩ := D_are_heads
  obtain ⟨q_is_pair, fd_is_pair, m_is_pair, F_is_pair⟩ := D_is_pair
  obtain ⟨q_are_pairs, fd_are_pairs, m_are_pairs, F_are_pairs⟩ := D_are_pairs
  obtain ⟨q_is_graph_value, fd_is_graph_value, m_is_graph_value, F_is_graph_value⟩ := D_is_graph_value
  obtain ⟨q_need_graph, fd_need_graph, m_need_graph, F_need_graph⟩ := D_need_graph
  obtain ⟨q_is_graph, fd_is_graph, m_is_graph, F_is_graph⟩ := D_is_graph
  obtain ⟨q_heads_by_node, fd_heads_by_node, m_heads_by_node, F_heads_by_node⟩ := D_heads_by_node
  obtain ⟨q_closing_of, fd_closing_of, m_closing_of, F_closing_of⟩ := D_closing_of
  obtain ⟨q_closed_rows, fd_closed_rows, m_closed_rows, F_closed_rows⟩ := D_closed_rows
  obtain ⟨q_flow_pairs, fd_flow_pairs, m_flow_pairs, F_flow_pairs⟩ := D_flow_pairs
  obtain ⟨q_flows, fd_flows, m_flows, F_flows⟩ := D_flows
  obtain ⟨q_clashes_in, fd_clashes_in, m_clashes_in, F_clashes_in⟩ := D_clashes_in
  obtain ⟨q_clashes, fd_clashes, m_clashes, F_clashes⟩ := D_clashes
  obtain ⟨q__law_deck, fd__law_deck, m__law_deck, F__law_deck⟩ := D__law_deck
  obtain ⟨q__law_draw, fd__law_draw, m__law_draw, F__law_draw⟩ := D__law_draw
  obtain ⟨q__law_pick, fd__law_pick, m__law_pick, F__law_pick⟩ := D__law_pick
  obtain ⟨q__law_rising, fd__law_rising, m__law_rising, F__law_rising⟩ := D__law_rising
  obtain ⟨q__law_head, fd__law_head, m__law_head, F__law_head⟩ := D__law_head
  obtain ⟨q__law_graph, fd__law_graph, m__law_graph, F__law_graph⟩ := D__law_graph
  obtain ⟨q__law_meeting, fd__law_meeting, m__law_meeting, F__law_meeting⟩ := D__law_meeting
  obtain ⟨q__law_shared, fd__law_shared, m__law_shared, F__law_shared⟩ := D__law_shared
  obtain ⟨q__law_flows, fd__law_flows, m__law_flows, F__law_flows⟩ := D__law_flows
  obtain ⟨q__law_pairs, fd__law_pairs, m__law_pairs, F__law_pairs⟩ := D__law_pairs
  obtain ⟨q__law_clashes, fd__law_clashes, m__law_clashes, F__law_clashes⟩ := D__law_clashes
  obtain ⟨q__law_by_hand, fd__law_by_hand, m__law_by_hand, F__law_by_hand⟩ := D__law_by_hand
  obtain ⟨q_law, fd_law, m_law, F_law⟩ := D_law
  obtain ⟨q_Closing___init__, fd_Closing___init__, M_Closing___init__, F_Closing___init__⟩ := D_Closing___init__
  obtain ⟨q_Closing_met, fd_Closing_met, M_Closing_met, F_Closing_met⟩ := D_Closing_met
  obtain ⟨q_Closing_joined, fd_Closing_joined, M_Closing_joined, F_Closing_joined⟩ := D_Closing_joined
  obtain ⟨q_Closing_closed, fd_Closing_closed, M_Closing_closed, F_Closing_closed⟩ := D_Closing_closed
  have e := hfa.symm.trans m_law
  cases e
  have bd_ones := F_ones.binds (ps := ["number"]) fun _ _ _ _ _ _ us hl => match us, hl with | [_], _ => rfl
  have bd_is_whole := F_is_whole.binds (ps := ["thing", "low", "high"]) fun _ _ _ _ _ _ us hl => match us, hl with | [_, _, _], _ => rfl
  have bd_is_label := F_is_label.binds (ps := ["thing"]) fun _ _ _ _ _ _ us hl => match us, hl with | [_], _ => rfl
  have bd_is_tag := F_is_tag.binds (ps := ["thing"]) fun _ _ _ _ _ _ us hl => match us, hl with | [_], _ => rfl
  have bd_are_rising := F_are_rising.binds (ps := ["row"]) fun _ _ _ _ _ _ us hl => match us, hl with | [_], _ => rfl
  have bd_has_word := F_has_word.binds (ps := ["thing"]) fun _ _ _ _ _ _ us hl => match us, hl with | [_], _ => rfl
  have bd_are_parts := F_are_parts.binds (ps := ["thing", "many", "is_name"]) fun _ _ _ _ _ _ us hl => match us, hl with | [_, _, _], _ => rfl
  have bd_is_head := F_is_head.binds (ps := ["thing", "many"]) fun _ _ _ _ _ _ us hl => match us, hl with | [_, _], _ => rfl
  have bd_do_clash := F_do_clash.binds (ps := ["lower", "upper"]) fun _ _ _ _ _ _ us hl => match us, hl with | [_, _], _ => rfl
  have bd_flows_of_heads := F_flows_of_heads.binds (ps := ["lower", "upper"]) fun _ _ _ _ _ _ us hl => match us, hl with | [_, _], _ => rfl
  have bd_are_heads := F_are_heads.binds (ps := ["thing", "many", "shut"]) fun _ _ _ _ _ _ us hl => match us, hl with | [_, _, _], _ => rfl
  have bd_is_pair := F_is_pair.binds (ps := ["thing", "many"]) fun _ _ _ _ _ _ us hl => match us, hl with | [_, _], _ => rfl
  have bd_are_pairs := F_are_pairs.binds (ps := ["thing", "many"]) fun _ _ _ _ _ _ us hl => match us, hl with | [_, _], _ => rfl
  have bd_is_graph_value := F_is_graph_value.binds (ps := ["thing"]) fun _ _ _ _ _ _ us hl => match us, hl with | [_], _ => rfl
  have bd_need_graph := F_need_graph.binds (ps := ["graph"]) fun _ _ _ _ _ _ us hl => match us, hl with | [_], _ => rfl
  have bd_is_graph := F_is_graph.binds (ps := ["thing"]) fun _ _ _ _ _ _ us hl => match us, hl with | [_], _ => rfl
  have bd_heads_by_node := F_heads_by_node.binds (ps := ["rows"]) fun _ _ _ _ _ _ us hl => match us, hl with | [_], _ => rfl
  have bd_closing_of := F_closing_of.binds (ps := ["graph"]) fun _ _ _ _ _ _ us hl => match us, hl with | [_], _ => rfl
  have bd_closed_rows := F_closed_rows.binds (ps := ["graph"]) fun _ _ _ _ _ _ us hl => match us, hl with | [_], _ => rfl
  have bd_flow_pairs := F_flow_pairs.binds (ps := ["rows"]) fun _ _ _ _ _ _ us hl => match us, hl with | [_], _ => rfl
  have bd_flows := F_flows.binds (ps := ["graph"]) fun _ _ _ _ _ _ us hl => match us, hl with | [_], _ => rfl
  have bd_clashes_in := F_clashes_in.binds (ps := ["graph", "rows"]) fun _ _ _ _ _ _ us hl => match us, hl with | [_, _], _ => rfl
  have bd_clashes := F_clashes.binds (ps := ["graph"]) fun _ _ _ _ _ _ us hl => match us, hl with | [_], _ => rfl
  have bd__law_deck := F__law_deck.binds (ps := ["script"]) fun _ _ _ _ _ _ us hl => match us, hl with | [_], _ => rfl
  have bd__law_draw := F__law_draw.binds (ps := ["deck", "many"]) fun _ _ _ _ _ _ us hl => match us, hl with | [_, _], _ => rfl
  have bd__law_pick := F__law_pick.binds (ps := ["deck", "some"]) fun _ _ _ _ _ _ us hl => match us, hl with | [_, _], _ => rfl
  have bd__law_rising := F__law_rising.binds (ps := ["items"]) fun _ _ _ _ _ _ us hl => match us, hl with | [_], _ => rfl
  have bd__law_head := F__law_head.binds (ps := ["deck", "many", "is_lower"]) fun _ _ _ _ _ _ us hl => match us, hl with | [_, _, _], _ => rfl
  have bd__law_graph := F__law_graph.binds (ps := ["deck", "most"]) fun _ _ _ _ _ _ us hl => match us, hl with | [_, _], _ => rfl
  have bd__law_meeting := F__law_meeting.binds (ps := ["h", "k"]) fun _ _ _ _ _ _ us hl => match us, hl with | [_, _], _ => rfl
  have bd__law_shared := F__law_shared.binds (ps := ["h", "k"]) fun _ _ _ _ _ _ us hl => match us, hl with | [_, _], _ => rfl
  have bd__law_flows := F__law_flows.binds (ps := ["graph"]) fun _ _ _ _ _ _ us hl => match us, hl with | [_], _ => rfl
  have bd__law_pairs := F__law_pairs.binds (ps := ["rows"]) fun _ _ _ _ _ _ us hl => match us, hl with | [_], _ => rfl
  have bd__law_clashes := F__law_clashes.binds (ps := ["graph", "rows"]) fun _ _ _ _ _ _ us hl => match us, hl with | [_, _], _ => rfl
  have bd__law_by_hand := F__law_by_hand.binds (ps := []) fun _ _ _ _ _ _ us hl => match us, hl with | [], _ => rfl
  have bd_Closing___init__ := F_Closing___init__.binds (ps := ["self", "graph"]) fun _ _ _ _ _ _ us hl => match us, hl with | [_, _], _ => rfl
  have bd_Closing_met := F_Closing_met.binds (ps := ["self", "x", "y"]) fun _ _ _ _ _ _ us hl => match us, hl with | [_, _, _], _ => rfl
  have bd_Closing_joined := F_Closing_joined.binds (ps := ["self", "step"]) fun _ _ _ _ _ _ us hl => match us, hl with | [_, _], _ => rfl
  have bd_Closing_closed := F_Closing_closed.binds (ps := ["self"]) fun _ _ _ _ _ _ us hl => match us, hl with | [_], _ => rfl
  have kw1 : ∀ {x : Str} {st : Stmt} {f : Addr} {fd : FuncData} {p : Str}, Fun K x x st f fd → True := fun _ => trivial
  refine ⟨fd_law, ?_, fun base _ _ => ?_⟩
  · obtain ⟨oc, od, kV, doc, pm, an, cdv, ct, osl, rfl, lk, hcd⟩ := F_law.ex
    exact fun s v => .of_eq rfl
  have O_ones : FnOk P w K mg base CX0 1 q_ones fd_ones ["number"] (spD K G_ones) := f_ones F_ones T 
  have C_ones : C8.Cal P w K mg base 1 "ones" (spD K G_ones) [] := ⟨q_ones, fd_ones, _, [], O_ones, m_ones, F_ones.kp, bd_ones, .nil⟩
  have O_is_whole : FnOk P w K mg base CX0 1 q_is_whole fd_is_whole ["thing", "low", "high"] (spD K G_is_whole) := f_is_whole F_is_whole T 
  have C_is_whole : C8.Cal P w K mg base 1 "is_whole" (spD K G_is_whole) [] := ⟨q_is_whole, fd_is_whole, _, [], O_is_whole, m_is_whole, F_is_whole.kp, bd_is_whole, .nil⟩
  have O_is_label : FnOk P w K mg base CX0 1 fl fd_is_label ["thing"] (spD K G_is_label) := f_is_label F_is_label T 
  have C_is_label : C8.Cal P w K mg base 1 "is_label" (spD K G_is_label) [] := ⟨fl, fd_is_label, _, [], O_is_label, m_is_label, F_is_label.kp, bd_is_label, .nil⟩
  have O_is_tag : FnOk P w K mg base CX0 1 ft fd_is_tag ["thing"] (spD K G_is_tag) := f_is_tag F_is_tag T 
  have C_is_tag : C8.Cal P w K mg base 1 "is_tag" (spD K G_is_tag) [] := ⟨ft, fd_is_tag, _, [], O_is_tag, m_is_tag, F_is_tag.kp, bd_is_tag, .nil⟩
  have O_are_rising : FnOk P w K mg base CX0 1 q_are_rising fd_are_rising ["row"] (spD K G_are_rising) := f_are_rising F_are_rising T 
  have C_are_rising : C8.Cal P w K mg base 1 "are_rising" (spD K G_are_rising) [] := ⟨q_are_rising, fd_are_rising, _, [], O_are_rising, m_are_rising, F_are_rising.kp, bd_are_rising, .nil⟩
  have O_has_word : FnOk P w K mg base CX0 1 q_has_word fd_has_word ["thing"] (spD K G_has_word) := f_has_word F_has_word T 
  have C_has_word : C8.Cal P w K mg base 1 "has_word" (spD K G_has_word) [] := ⟨q_has_word, fd_has_word, _, [], O_has_word, m_has_word, F_has_word.kp, bd_has_word, .nil⟩
  have A_is_name : Hld P w K mg base 1 (nameD fl ft) := ⟨fun f F e => by
    unfold nameD at e
    split at e
    · rename_i z; subst z; cases e; exact ⟨_, _, O_is_label, F_is_label.kp, bd_is_label⟩
    · split at e
      · rename_i z; subst z; cases e; exact ⟨_, _, O_is_tag, F_is_tag.kp, bd_is_tag⟩
      · cases e⟩
  have O_are_parts : FnOk P w K mg base CX0 2 q_are_parts fd_are_parts ["thing", "many", "is_name"] (spD K (G_are_parts fl ft)) := f_are_parts F_are_parts T C_is_whole C_are_rising A_is_name
  have C_are_parts : C8.Cal P w K mg base 2 "are_parts" (spD K (G_are_parts fl ft)) [] := ⟨q_are_parts, fd_are_parts, _, [], O_are_parts, m_are_parts, F_are_parts.kp, bd_are_parts, .nil⟩
  have O_is_head : FnOk P w K mg base CX0 3 q_is_head fd_is_head ["thing", "many"] (spD K G_is_head) := f_is_head F_is_head T hne C_is_whole C_has_word C_are_parts
  have C_is_head : C8.Cal P w K mg base 3 "is_head" (spD K G_is_head) [] := ⟨q_is_head, fd_is_head, _, [], O_is_head, m_is_head, F_is_head.kp, bd_is_head, .nil⟩
  have O_do_clash : FnOk P w K mg base CX0 1 q_do_clash fd_do_clash ["lower", "upper"] (spD K G_do_clash) := f_do_clash F_do_clash T 
  have C_do_clash : C8.Cal P w K mg base 1 "do_clash" (spD K G_do_clash) [] := ⟨q_do_clash, fd_do_clash, _, [], O_do_clash, m_do_clash, F_do_clash.kp, bd_do_clash, .nil⟩
  have O_flows_of_heads : FnOk P w K mg base CX0 1 q_flows_of_heads fd_flows_of_heads ["lower", "upper"] (spD K G_flows_of_heads) := f_flows_of_heads F_flows_of_heads T 
  have C_flows_of_heads : C8.Cal P w K mg base 1 "flows_of_heads" (spD K G_flows_of_heads) [] := ⟨q_flows_of_heads, fd_flows_of_heads, _, [], O_flows_of_heads, m_flows_of_heads, F_flows_of_heads.kp, bd_flows_of_heads, .nil⟩
  have O_are_heads : FnOk P w K mg base CX0 4 q_are_heads fd_are_heads ["thing", "many", "shut"] (spD K G_are_heads) := f_are_heads F_are_heads T C_is_whole C_is_head C_are_rising
  have C_are_heads : C8.Cal P w K mg base 4 "are_heads" (spD K G_are_heads) [] := ⟨q_are_heads, fd_are_heads, _, [], O_are_heads, m_are_heads, F_are_heads.kp, bd_are_heads, .nil⟩
  have O_is_pair : FnOk P w K mg base CX0 2 q_is_pair fd_is_pair ["thing", "many"] (spD K G_is_pair) := f_is_pair F_is_pair T C_is_whole
  have C_is_pair : C8.Cal P w K mg base 2 "is_pair" (spD K G_is_pair) [] := ⟨q_is_pair, fd_is_pair, _, [], O_is_pair, m_is_pair, F_is_pair.kp, bd_is_pair, .nil⟩
  have O_are_pairs : FnOk P w K mg base CX0 3 q_are_pairs fd_are_pairs ["thing", "many"] (spD K G_are_pairs) := f_are_pairs F_are_pairs T C_is_pair C_are_rising
  have C_are_pairs : C8.Cal P w K mg base 3 "are_pairs" (spD K G_are_pairs) [] := ⟨q_are_pairs, fd_are_pairs, _, [], O_are_pairs, m_are_pairs, F_are_pairs.kp, bd_are_pairs, .nil⟩
  have O_is_graph_value : FnOk P w K mg base CX0 5 q_is_graph_value fd_is_graph_value ["thing"] (spD K (G_graph true)) := f_is_graph_value F_is_graph_value T C_is_whole C_are_heads C_are_pairs
  have C_is_graph_value : C8.Cal P w K mg base 5 "is_graph_value" (spD K (G_graph true)) [] := ⟨q_is_graph_value, fd_is_graph_value, _, [], O_is_graph_value, m_is_graph_value, F_is_graph_value.kp, bd_is_graph_value, .nil⟩
  have O_need_graph : FnOk P w K mg base CX0 6 q_need_graph fd_need_graph ["graph"] (spD K (G_graph false)) := f_need_graph F_need_graph T C_is_graph_value
  have C_need_graph : C8.Cal P w K mg base 6 "need_graph" (spD K (G_graph false)) [] := ⟨q_need_graph, fd_need_graph, _, [], O_need_graph, m_need_graph, F_need_graph.kp, bd_need_graph, .nil⟩
  have O_is_graph : FnOk P w K mg base CX0 6 q_is_graph fd_is_graph ["thing"] (spD K (G_graph true)) := f_is_graph F_is_graph T C_is_graph_value
  have C_is_graph : C8.Cal P w K mg base 6 "is_graph" (spD K (G_graph true)) [] := ⟨q_is_graph, fd_is_graph, _, [], O_is_graph, m_is_graph, F_is_graph.kp, bd_is_graph, .nil⟩
  have O_heads_by_node : FnOk P w K mg base CX0 1 q_heads_by_node fd_heads_by_node ["rows"] (spD K G_heads_by_node) := f_heads_by_node F_heads_by_node T 
  have C_heads_by_node : C8.Cal P w K mg base 1 "heads_by_node" (spD K G_heads_by_node) [] := ⟨q_heads_by_node, fd_heads_by_node, _, [], O_heads_by_node, m_heads_by_node, F_heads_by_node.kp, bd_heads_by_node, .nil⟩
  have O_Closing___init__ : FnOk P w K mg base CX0 2 q_Closing___init__ fd_Closing___init__ ["self", "graph"] (spD K (G_init w C)) := f_init F_Closing___init__ T C_heads_by_node hC n_reach n_back n_lowers_at n_uppers_at n_allowed_known n_steps n_waiting
  have C_Closing___init__ : C8.Mak P w K mg base 2 "Closing" C (spD K (G_init w C)) [] := ⟨q_Closing___init__, fd_Closing___init__, _, [], ⟨mkC, M_Closing___init__.at_, M_Closing___init__.fn, kcC⟩, O_Closing___init__, PySem.W.mg_of X G aC, bd_Closing___init__, .nil⟩
  have O_Closing_met : FnOk P w K mg base CX0 2 q_Closing_met fd_Closing_met ["self", "x", "y"] (spD K (G_met w C)) := f_met F_Closing_met T C_flows_of_heads hC n_allowed_known n_lowers_at n_uppers_at n_waiting n_steps
  have C_Closing_met : C8.Met P w K mg base 2 C "met" (spD K (G_met w C)) [] := ⟨q_Closing_met, fd_Closing_met, _, [], hC, M_Closing_met, O_Closing_met, bd_Closing_met, .nil⟩
  have O_Closing_joined : FnOk P w K mg base CX0 3 q_Closing_joined fd_Closing_joined ["self", "step"] (spD K (G_joined w C)) := f_joined F_Closing_joined T C_ones C_Closing_met hC n_reach n_back n_steps
  have C_Closing_joined : C8.Met P w K mg base 3 C "joined" (spD K (G_joined w C)) [] := ⟨q_Closing_joined, fd_Closing_joined, _, [], hC, M_Closing_joined, O_Closing_joined, bd_Closing_joined, .nil⟩
  have O_Closing_closed : FnOk P w K mg base CX0 4 q_Closing_closed fd_Closing_closed ["self"] (spD K (G_closed w C)) := f_closed F_Closing_closed T C_Closing_met C_Closing_joined hC n_lowers_at n_waiting
  have C_Closing_closed : C8.Met P w K mg base 4 C "closed" (spD K (G_closed w C)) [] := ⟨q_Closing_closed, fd_Closing_closed, _, [], hC, M_Closing_closed, O_Closing_closed, bd_Closing_closed, .nil⟩
  have O_closing_of : FnOk P w K mg base CX0 5 q_closing_of fd_closing_of ["graph"] (spD K (G_closing_of C)) := f_closing_of F_closing_of T C_Closing___init__ C_Closing_closed
  have C_closing_of : C8.Cal P w K mg base 5 "closing_of" (spD K (G_closing_of C)) [] := ⟨q_closing_of, fd_closing_of, _, [], O_closing_of, m_closing_of, F_closing_of.kp, bd_closing_of, .nil⟩
  have O_closed_rows : FnOk P w K mg base CX0 6 q_closed_rows fd_closed_rows ["graph"] (spD K G_closed_rows) := f_closed_rows F_closed_rows T C_closing_of hC n_reach
  have C_closed_rows : C8.Cal P w K mg base 6 "closed_rows" (spD K G_closed_rows) [] := ⟨q_closed_rows, fd_closed_rows, _, [], O_closed_rows, m_closed_rows, F_closed_rows.kp, bd_closed_rows, .nil⟩
  have O_flow_pairs : FnOk P w K mg base CX0 2 q_flow_pairs fd_flow_pairs ["rows"] (spD K G_flow_pairs) := f_flow_pairs F_flow_pairs T C_ones
  have C_flow_pairs : C8.Cal P w K mg base 2 "flow_pairs" (spD K G_flow_pairs) [] := ⟨q_flow_pairs, fd_flow_pairs, _, [], O_flow_pairs, m_flow_pairs, F_flow_pairs.kp, bd_flow_pairs, .nil⟩
  have O_flows : FnOk P w K mg base CX0 7 q_flows fd_flows ["graph"] (spD K G_flows) := f_flows F_flows T C_need_graph C_closed_rows C_flow_pairs
  have C_flows : C8.Cal P w K mg base 7 "flows" (spD K G_flows) [] := ⟨q_flows, fd_flows, _, [], O_flows, m_flows, F_flows.kp, bd_flows, .nil⟩
  have O_clashes_in : FnOk P w K mg base CX0 2 q_clashes_in fd_clashes_in ["graph", "rows"] (spD K G_clashes_in) := f_clashes_in F_clashes_in T C_do_clash
  have C_clashes_in : C8.Cal P w K mg base 2 "clashes_in" (spD K G_clashes_in) [] := ⟨q_clashes_in, fd_clashes_in, _, [], O_clashes_in, m_clashes_in, F_clashes_in.kp, bd_clashes_in, .nil⟩
  have O_clashes : FnOk P w K mg base CX0 7 q_clashes fd_clashes ["graph"] (spD K G_clashes) := f_clashes F_clashes T C_need_graph C_closed_rows C_clashes_in
  have C_clashes : C8.Cal P w K mg base 7 "clashes" (spD K G_clashes) [] := ⟨q_clashes, fd_clashes, _, [], O_clashes, m_clashes, F_clashes.kp, bd_clashes, .nil⟩
  have O__law_deck : FnOk P w K mg base CX0 1 q__law_deck fd__law_deck ["script"] (spD K G_law_deck) := f_law_deck F__law_deck T 
  have C__law_deck : C8.Cal P w K mg base 1 "_law_deck" (spD K G_law_deck) [] := ⟨q__law_deck, fd__law_deck, _, [], O__law_deck, m__law_deck, F__law_deck.kp, bd__law_deck, .nil⟩
  have O__law_draw : FnOk P w K mg base CX0 1 q__law_draw fd__law_draw ["deck", "many"] (spD K G_law_draw) := f_law_draw F__law_draw T 
  have C__law_draw : C8.Cal P w K mg base 1 "_law_draw" (spD K G_law_draw) [] := ⟨q__law_draw, fd__law_draw, _, [], O__law_draw, m__law_draw, F__law_draw.kp, bd__law_draw, .nil⟩
  have O__law_pick : FnOk P w K mg base CX0 2 q__law_pick fd__law_pick ["deck", "some"] (spD K G_law_pick) := f_law_pick F__law_pick T C__law_draw
  have C__law_pick : C8.Cal P w K mg base 2 "_law_pick" (spD K G_law_pick) [] := ⟨q__law_pick, fd__law_pick, _, [], O__law_pick, m__law_pick, F__law_pick.kp, bd__law_pick, .nil⟩
  have O__law_rising : FnOk P w K mg base CX0 1 q__law_rising fd__law_rising ["items"] (spD K G_law_rising) := f_law_rising F__law_rising T 
  have C__law_rising : C8.Cal P w K mg base 1 "_law_rising" (spD K G_law_rising) [] := ⟨q__law_rising, fd__law_rising, _, [], O__law_rising, m__law_rising, F__law_rising.kp, bd__law_rising, .nil⟩
  have O__law_head : FnOk P w K mg base CX0 3 q__law_head fd__law_head ["deck", "many", "is_lower"] (spD K G_law_head) := f_law_head F__law_head T C__law_draw C__law_pick
  have C__law_head : C8.Cal P w K mg base 3 "_law_head" (spD K G_law_head) [] := ⟨q__law_head, fd__law_head, _, [], O__law_head, m__law_head, F__law_head.kp, bd__law_head, .nil⟩
  have O__law_graph : FnOk P w K mg base CX0 4 q__law_graph fd__law_graph ["deck", "most"] (spD K G_law_graph) := f_law_graph F__law_graph T C__law_draw C__law_pick C__law_head C__law_rising
  have C__law_graph : C8.Cal P w K mg base 4 "_law_graph" (spD K G_law_graph) [] := ⟨q__law_graph, fd__law_graph, _, [], O__law_graph, m__law_graph, F__law_graph.kp, bd__law_graph, .nil⟩
  have O__law_meeting : FnOk P w K mg base CX0 1 q__law_meeting fd__law_meeting ["h", "k"] (spD K G_law_meeting) := f_law_meeting F__law_meeting T 
  have C__law_meeting : C8.Cal P w K mg base 1 "_law_meeting" (spD K G_law_meeting) [] := ⟨q__law_meeting, fd__law_meeting, _, [], O__law_meeting, m__law_meeting, F__law_meeting.kp, bd__law_meeting, .nil⟩
  have O__law_shared : FnOk P w K mg base CX0 2 q__law_shared fd__law_shared ["h", "k"] (spD K G_law_shared) := f_law_shared F__law_shared T C__law_meeting
  have C__law_shared : C8.Cal P w K mg base 2 "_law_shared" (spD K G_law_shared) [] := ⟨q__law_shared, fd__law_shared, _, [], O__law_shared, m__law_shared, F__law_shared.kp, bd__law_shared, .nil⟩
  have O__law_flows : FnOk P w K mg base CX0 3 q__law_flows fd__law_flows ["graph"] (spD K G_law_flows) := f_law_flows F__law_flows T C__law_shared
  have C__law_flows : C8.Cal P w K mg base 3 "_law_flows" (spD K G_law_flows) [] := ⟨q__law_flows, fd__law_flows, _, [], O__law_flows, m__law_flows, F__law_flows.kp, bd__law_flows, .nil⟩
  have O__law_pairs : FnOk P w K mg base CX0 1 q__law_pairs fd__law_pairs ["rows"] (spD K G_law_pairs) := f_law_pairs F__law_pairs T 
  have C__law_pairs : C8.Cal P w K mg base 1 "_law_pairs" (spD K G_law_pairs) [] := ⟨q__law_pairs, fd__law_pairs, _, [], O__law_pairs, m__law_pairs, F__law_pairs.kp, bd__law_pairs, .nil⟩
  have O__law_clashes : FnOk P w K mg base CX0 2 q__law_clashes fd__law_clashes ["graph", "rows"] (spD K G_law_clashes) := f_law_clashes F__law_clashes T C__law_meeting
  have C__law_clashes : C8.Cal P w K mg base 2 "_law_clashes" (spD K G_law_clashes) [] := ⟨q__law_clashes, fd__law_clashes, _, [], O__law_clashes, m__law_clashes, F__law_clashes.kp, bd__law_clashes, .nil⟩
  have O__law_by_hand : FnOk P w K mg base CX0 1 q__law_by_hand fd__law_by_hand [] (spD K G_law_by_hand) := f_law_by_hand F__law_by_hand T 
  have C__law_by_hand : C8.Cal P w K mg base 1 "_law_by_hand" (spD K G_law_by_hand) [] := ⟨q__law_by_hand, fd__law_by_hand, _, [], O__law_by_hand, m__law_by_hand, F__law_by_hand.kp, bd__law_by_hand, .nil⟩
  have W_flows : CalW P w K mg base 7 "flows" ["graph"] (spD K G_flows) := ⟨q_flows, fd_flows, O_flows, m_flows, F_flows.kp, fun s ws _ hl => by
    obtain ⟨oc, od, kV, doc, pm, an, cdv, ct, osl, rfl, lk, hcd⟩ := F_flows.ex
    match ws, hl with
    | [u], _ => exact .of_eq rfl⟩
  have W_clashes : CalW P w K mg base 7 "clashes" ["graph"] (spD K G_clashes) := ⟨q_clashes, fd_clashes, O_clashes, m_clashes, F_clashes.kp, fun s ws _ hl => by
    obtain ⟨oc, od, kV, doc, pm, an, cdv, ct, osl, rfl, lk, hcd⟩ := F_clashes.ex
    match ws, hl with
    | [u], _ => exact .of_eq rfl⟩
  exact f_law F_law T C__law_deck C__law_pick C__law_graph C__law_flows C__law_pairs C__law_clashes C__law_rising C__law_by_hand C_flows C_clashes C_is_graph W_flows W_clashes
theorem walk {l : PySem.W.OpenLaw} {n k : Nat} {q : Program} {loose : List Str} {XP : (Str → Option Value) → Heap → Prop} {YP : World → Heap → Prop} {d : DefRec} {K : Params → PySem.W.Frag} {x : Str}
    (hn : l.most = some n) (hn2 : n ≤ sizeLine) (hdf : d.params.defaults = []) (hr : Room k callerA)
    (hY : ∀ (w : World) (h : Heap), YP w h → (K w.params).In h)
    (F : ∀ (w : World) (mg : Str → Option Value) (fa : Addr) (h : Heap), (K w.params).In h → h.Ns mainGlobals mg → mg d.name = some (.ref fa) →
      ∃ fd : FuncData, (∀ (s : Shared) (u : Value), BindsTo s fd ⟨[u], []⟩ [(x, u)]) ∧
        ∀ base : Heap, (K w.params).In base → base.Ns mainGlobals mg → FnG l.prog w (K w.params) mg base k fa fd [x] (spD (K w.params) G_law)) :
    PySem.W.WalkO q loose XP YP l.row.toRowW d [] (fun f vs => PySem.call f vs) :=
  walkG (sp := fun w => spD (K w.params) G_law) hn hn2 hdf hr hY F fun w H a ns hl hO hS =>
    ⟨[.kl (ns.map PV.int)], fun _ => none, fun x _ => x = .bl true, .cons (script_rep hO hS) .nil, (fun _ _ e => by cases e), ⟨ns, rfl, fun _ => rfl⟩, fun v x H' S' _ _ r e => rep_bl (e ▸ r)⟩
end K06
open PySem PySem.W PyProof.Rows
set_option maxRecDepth 100000 in
set_option maxHeartbeats 0 in
theorem PySem.Challenge.cw_leastkind_k06_flows_and_clashes_holds : PySem.Challenge.rw_leastkind_k06_flows_and_clashes.Holds := by
  w_on; o_law; k_head; (case hw => w_witness2)
  k_fill
  refine K06.walk (l := PySem.Challenge.rw_leastkind_k06_flows_and_clashes) (n := 63) (k := 8) (x := "script") rfl (by decide) rfl ⟨rfl, by decide, by decide⟩ (fun w h Y => PySem.W.kIn_of Y) ?F
  case F =>
    intro w mg fa h KX G hmg
    refine' K06.all_mk KX G hmg ?D_ones ?D_is_whole ?a_is_label ?D_is_label ?a_is_tag ?D_is_tag ?D_are_rising ?D_has_word ?D_are_parts ?D_is_head ?D_do_clash ?D_flows_of_heads ?D_are_heads ?D_is_pair ?D_are_pairs ?D_is_graph_value ?D_need_graph ?D_is_graph ?D_heads_by_node ?D_closing_of ?D_closed_rows ?D_flow_pairs ?D_flows ?D_clashes_in ?D_clashes ?D__law_deck ?D__law_draw ?D__law_pick ?D__law_rising ?D__law_head ?D__law_graph ?D__law_meeting ?D__law_shared ?D__law_flows ?D__law_pairs ?D__law_clashes ?D__law_by_hand ?D_law ?aC ?D_Closing___init__ ?D_Closing_met ?D_Closing_joined ?D_Closing_closed ?pgC ?hdC ?poC ?saC ?mkC ?kcC ?n_reach ?n_back ?n_lowers_at ?n_uppers_at ?n_allowed_known ?n_steps ?n_waiting ?b_len ?b_isinstance ?b_all ?b_max ?b_repr ?b_sorted ?b_int ?b_bool ?b_str ?b_tuple ?b_list ?b_dict ?b_range ?b_zip ?b_enumerate ?g_LETTERS ?g_CAPITALS ?g_LONGEST ?g_GRAMMAR ?g_NUM ?g_FUN ?g_REC ?g_VAR ?g_ANY ?g_NONE ?g_MOST_PARTS ?g_GRAPH ?g_MOST_NODES ?g_MOST_ROWS ?g_SIZES ?hne
    (case D_ones => (refine' K06.dfn KX G ?a ?l ?c ?k; (case a => k_is); (case l => k_is); (case c => k_is); (case k => k_is)))
    (case D_is_whole => (refine' K06.dfn KX G ?a ?l ?c ?k; (case a => k_is); (case l => k_is); (case c => k_is); (case k => k_is)))
    (case a_is_label => k_is)
    (case D_is_label => (refine' K06.dfnAt ?l ?c ?k; (case l => k_is); (case c => k_is); (case k => k_is)))
    (case a_is_tag => k_is)
    (case D_is_tag => (refine' K06.dfnAt ?l ?c ?k; (case l => k_is); (case c => k_is); (case k => k_is)))
    (case D_are_rising => (refine' K06.dfn KX G ?a ?l ?c ?k; (case a => k_is); (case l => k_is); (case c => k_is); (case k => k_is)))
    (case D_has_word => (refine' K06.dfn KX G ?a ?l ?c ?k; (case a => k_is); (case l => k_is); (case c => k_is); (case k => k_is)))
    (case D_are_parts => (refine' K06.dfn KX G ?a ?l ?c ?k; (case a => k_is); (case l => k_is); (case c => k_is); (case k => k_is)))
    (case D_is_head => (refine' K06.dfn KX G ?a ?l ?c ?k; (case a => k_is); (case l => k_is); (case c => k_is); (case k => k_is)))
    (case D_do_clash => (refine' K06.dfn KX G ?a ?l ?c ?k; (case a => k_is); (case l => k_is); (case c => k_is); (case k => k_is)))
    (case D_flows_of_heads => (refine' K06.dfn KX G ?a ?l ?c ?k; (case a => k_is); (case l => k_is); (case c => k_is); (case k => k_is)))
    (case D_are_heads => (refine' K06.dfn KX G ?a ?l ?c ?k; (case a => k_is); (case l => k_is); (case c => k_is); (case k => k_is)))
    (case D_is_pair => (refine' K06.dfn KX G ?a ?l ?c ?k; (case a => k_is); (case l => k_is); (case c => k_is); (case k => k_is)))
    (case D_are_pairs => (refine' K06.dfn KX G ?a ?l ?c ?k; (case a => k_is); (case l => k_is); (case c => k_is); (case k => k_is)))
    (case D_is_graph_value => (refine' K06.dfn KX G ?a ?l ?c ?k; (case a => k_is); (case l => k_is); (case c => k_is); (case k => k_is)))
    (case D_need_graph => (refine' K06.dfn KX G ?a ?l ?c ?k; (case a => k_is); (case l => k_is); (case c => k_is); (case k => k_is)))
    (case D_is_graph => (refine' K06.dfn KX G ?a ?l ?c ?k; (case a => k_is); (case l => k_is); (case c => k_is); (case k => k_is)))
    (case D_heads_by_node => (refine' K06.dfn KX G ?a ?l ?c ?k; (case a => k_is); (case l => k_is); (case c => k_is); (case k => k_is)))
    (case D_closing_of => (refine' K06.dfn KX G ?a ?l ?c ?k; (case a => k_is); (case l => k_is); (case c => k_is); (case k => k_is)))
    (case D_closed_rows => (refine' K06.dfn KX G ?a ?l ?c ?k; (case a => k_is); (case l => k_is); (case c => k_is); (case k => k_is)))
    (case D_flow_pairs => (refine' K06.dfn KX G ?a ?l ?c ?k; (case a => k_is); (case l => k_is); (case c => k_is); (case k => k_is)))
    (case D_flows => (refine' K06.dfn KX G ?a ?l ?c ?k; (case a => k_is); (case l => k_is); (case c => k_is); (case k => k_is)))
    (case D_clashes_in => (refine' K06.dfn KX G ?a ?l ?c ?k; (case a => k_is); (case l => k_is); (case c => k_is); (case k => k_is)))
    (case D_clashes => (refine' K06.dfn KX G ?a ?l ?c ?k; (case a => k_is); (case l => k_is); (case c => k_is); (case k => k_is)))
    (case D__law_deck => (refine' K06.dfn KX G ?a ?l ?c ?k; (case a => k_is); (case l => k_is); (case c => k_is); (case k => k_is)))
    (case D__law_draw => (refine' K06.dfn KX G ?a ?l ?c ?k; (case a => k_is); (case l => k_is); (case c => k_is); (case k => k_is)))
    (case D__law_pick => (refine' K06.dfn KX G ?a ?l ?c ?k; (case a => k_is); (case l => k_is); (case c => k_is); (case k => k_is)))
    (case D__law_rising => (refine' K06.dfn KX G ?a ?l ?c ?k; (case a => k_is); (case l => k_is); (case c => k_is); (case k => k_is)))
    (case D__law_head => (refine' K06.dfn KX G ?a ?l ?c ?k; (case a => k_is); (case l => k_is); (case c => k_is); (case k => k_is)))
    (case D__law_graph => (refine' K06.dfn KX G ?a ?l ?c ?k; (case a => k_is); (case l => k_is); (case c => k_is); (case k => k_is)))
    (case D__law_meeting => (refine' K06.dfn KX G ?a ?l ?c ?k; (case a => k_is); (case l => k_is); (case c => k_is); (case k => k_is)))
    (case D__law_shared => (refine' K06.dfn KX G ?a ?l ?c ?k; (case a => k_is); (case l => k_is); (case c => k_is); (case k => k_is)))
    (case D__law_flows => (refine' K06.dfn KX G ?a ?l ?c ?k; (case a => k_is); (case l => k_is); (case c => k_is); (case k => k_is)))
    (case D__law_pairs => (refine' K06.dfn KX G ?a ?l ?c ?k; (case a => k_is); (case l => k_is); (case c => k_is); (case k => k_is)))
    (case D__law_clashes => (refine' K06.dfn KX G ?a ?l ?c ?k; (case a => k_is); (case l => k_is); (case c => k_is); (case k => k_is)))
    (case D__law_by_hand => (refine' K06.dfn KX G ?a ?l ?c ?k; (case a => k_is); (case l => k_is); (case c => k_is); (case k => k_is)))
    (case D_law => (refine' K06.dfn KX G ?a ?l ?c ?k; (case a => k_is); (case l => k_is); (case c => k_is); (case k => k_is)))
    (case aC => k_is)
    (case D_Closing___init__ => (refine' K06.mth ?a ?i ?l ?c ?k; (case a => k_is); (case i => k_is); (case l => k_is); (case c => k_is); (case k => k_is)))
    (case D_Closing_met => (refine' K06.mth ?a ?i ?l ?c ?k; (case a => k_is); (case i => k_is); (case l => k_is); (case c => k_is); (case k => k_is)))
    (case D_Closing_joined => (refine' K06.mth ?a ?i ?l ?c ?k; (case a => k_is); (case i => k_is); (case l => k_is); (case c => k_is); (case k => k_is)))
    (case D_Closing_closed => (refine' K06.mth ?a ?i ?l ?c ?k; (case a => k_is); (case i => k_is); (case l => k_is); (case c => k_is); (case k => k_is)))
    (case pgC => k_is)
    (case hdC => k_is)
    (case poC => k_is)
    (case saC => k_is)
    (case mkC => k_is)
    (case kcC => k_is)
    (case n_reach => k_is)
    (case n_back => k_is)
    (case n_lowers_at => k_is)
    (case n_uppers_at => k_is)
    (case n_allowed_known => k_is)
    (case n_steps => k_is)
    (case n_waiting => k_is)
    (case b_len => k_is)
    (case b_isinstance => k_is)
    (case b_all => k_is)
    (case b_max => k_is)
    (case b_repr => k_is)
    (case b_sorted => k_is)
    (case b_int => k_is)
    (case b_bool => k_is)
    (case b_str => k_is)
    (case b_tuple => k_is)
    (case b_list => k_is)
    (case b_dict => k_is)
    (case b_range => k_is)
    (case b_zip => k_is)
    (case b_enumerate => k_is)
    (case g_LETTERS => (refine' K06.gv_str KX G ?a; (case a => k_is)))
    (case g_CAPITALS => (refine' K06.gv_str KX G ?a; (case a => k_is)))
    (case g_LONGEST => (refine' K06.gv_int KX G ?a; (case a => k_is)))
    (case g_GRAMMAR => (refine' K06.gv_strs KX G ?a ?l ?r ?z; (case a => k_is); (case l => k_is); (case r => exact .cons ⟨_, rfl⟩ (.cons ⟨_, rfl⟩ (.cons ⟨_, rfl⟩ (.cons ⟨_, rfl⟩ (.cons ⟨_, rfl⟩ (.cons ⟨_, rfl⟩ (.cons ⟨_, rfl⟩ (.cons ⟨_, rfl⟩ (.cons ⟨_, rfl⟩ (.cons ⟨_, rfl⟩ (.cons ⟨_, rfl⟩ (.cons ⟨_, rfl⟩ (.nil))))))))))))); (case z => decide)))
    (case g_NUM => (refine' K06.gv_str KX G ?a; (case a => k_is)))
    (case g_FUN => (refine' K06.gv_str KX G ?a; (case a => k_is)))
    (case g_REC => (refine' K06.gv_str KX G ?a; (case a => k_is)))
    (case g_VAR => (refine' K06.gv_str KX G ?a; (case a => k_is)))
    (case g_ANY => (refine' K06.gv_str KX G ?a; (case a => k_is)))
    (case g_NONE => (refine' K06.gv_str KX G ?a; (case a => k_is)))
    (case g_MOST_PARTS => (refine' K06.gv_int KX G ?a; (case a => k_is)))
    (case g_GRAPH => (refine' K06.gv_int KX G ?a; (case a => k_is)))
    (case g_MOST_NODES => (refine' K06.gv_int KX G ?a; (case a => k_is)))
    (case g_MOST_ROWS => (refine' K06.gv_int KX G ?a; (case a => k_is)))
    (case g_SIZES => (refine' K06.wg_sizes KX G ?a ?l ?k ?low ?e1 ?e2 ?e3 ?e4 ?e5 ?e6; (case a => k_is); (case l => k_is); (case k => (repeat' (first | exact trivial | refine And.intro ⟨_, _, rfl, rfl⟩ ?_))); (case low => decide); (case e1 => k_is); (case e2 => k_is); (case e3 => k_is); (case e4 => k_is); (case e5 => k_is); (case e6 => k_is)))
    (case hne => decide)

