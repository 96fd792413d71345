import PyProof.Rows.All
import Wide.All
import OpenK.AllK
import Wide.FinOn
import HandS.ForMost
import HandS.Flow
import HandS.Rev
import HandS.Zip
import HandS.TupAny
import HandS.TupLe
import HandS.TupMul
import HandS.Gcd
import HandS.IsInst
import HandS.SortInts
import KE.KTupSum
import PySem.Challenge.RW_giftwright_k59_trips_and_shares_in_parts
set_option Elab.async false
set_option linter.all false
section
set_option maxRecDepth 100000
/-! Sim0: plain values, an indexed heap, readings by evaluation. -/
namespace Sim
open PySem PySem.Spec PyProof.Rows L2

/-- a plain value; ref: a mutable thing by its number; rom: a list that is only read -/
inductive D where
  | non | bl (b : Bool) | int (i : Int) | str (x : Str) | ty (n : String) | tup (ds : List D) | rom (ds : List D) | ref (i : Nat)
inductive O where
  | lst (ds : List D) | dct (kvs : List (D × D)) | ins (c : Str) (fs : List (Str × D))
abbrev Gp := List O
abbrev Sl := List (Option D)

/-- a list that nobody writes -/
def SqR (K : PySem.W.Frag) (H : Hp) (a : Addr) (xs : List V) : Prop :=
  (∃ o, H a = some (.frz o (.lst xs))) ∨
    ∃ (o : Obj) (its : Array Value) (n : Nat), K.lookup a = some o ∧ o.cls = .type "list" ∧ o.dict = none ∧ o.data = .seq its n ∧ its.size ≤ sizeLine ∧ Vals xs its.toList
theorem SqR.sq {K : PySem.W.Frag} {H : Hp} {a : Addr} {xs : List V} (h : SqR K H a xs) : SqL K H a xs := by
  rcases h with h | h
  · exact .inl (.inr h)
  · exact .inr h

mutual
inductive RV (K : PySem.W.Frag) (ρ : List Addr) (H : Hp) : D → V → Prop
  | non : RV K ρ H .non .non
  | bl (b : Bool) : RV K ρ H (.bl b) (.bl b)
  | int (i : Int) : RV K ρ H (.int i) (.int i)
  | str (x : Str) : RV K ρ H (.str x) (.str x)
  | ty (n : String) : RV K ρ H (.ty n) (.ty n)
  | tup {ds : List D} {a : Addr} {vs : List V} : SqT K H a vs → RVs K ρ H ds vs → RV K ρ H (.tup ds) (.ref a)
  | rom {ds : List D} {a : Addr} {vs : List V} : SqR K H a vs → RVs K ρ H ds vs → RV K ρ H (.rom ds) (.ref a)
  | ref {i : Nat} {a : Addr} : ρ[i]? = some a → RV K ρ H (.ref i) (.ref a)
inductive RVs (K : PySem.W.Frag) (ρ : List Addr) (H : Hp) : List D → List V → Prop
  | nil : RVs K ρ H [] []
  | cons {d : D} {ds : List D} {v : V} {vs : List V} : RV K ρ H d v → RVs K ρ H ds vs → RVs K ρ H (d :: ds) (v :: vs)
end

structure Step (ρ : List Addr) (H : Hp) (ρ' : List Addr) (H' : Hp) : Prop where
  pre : ∀ (i : Nat) (a : Addr), ρ[i]? = some a → ρ'[i]? = some a
  tup : ∀ a xs, H a = some (.tup xs) → H' a = some (.tup xs)
  frz : ∀ a o u, H a = some (.frz o u) → H' a = some (.frz o u)
theorem Step.refl {ρ : List Addr} {H : Hp} : Step ρ H ρ H := ⟨fun _ _ h => h, fun _ _ h => h, fun _ _ _ h => h⟩
theorem Step.trans {ρ ρ1 ρ2 : List Addr} {H H1 H2 : Hp} (a : Step ρ H ρ1 H1) (b : Step ρ1 H1 ρ2 H2) : Step ρ H ρ2 H2 :=
  ⟨fun i x h => b.pre i x (a.pre i x h), fun x xs h => b.tup x xs (a.tup x xs h), fun x o u h => b.frz x o u (a.frz x o u h)⟩
theorem Step.sqt {K : PySem.W.Frag} {ρ ρ' : List Addr} {H H' : Hp} {a : Addr} {xs : List V} (st : Step ρ H ρ' H') (h : SqT K H a xs) : SqT K H' a xs := by
  rcases h with (h | ⟨o, h⟩) | h
  · exact .inl (.inl (st.tup _ _ h))
  · exact .inl (.inr ⟨o, st.frz _ _ _ h⟩)
  · exact .inr h
theorem Step.sqr {K : PySem.W.Frag} {ρ ρ' : List Addr} {H H' : Hp} {a : Addr} {xs : List V} (st : Step ρ H ρ' H') (h : SqR K H a xs) : SqR K H' a xs := by
  rcases h with ⟨o, h⟩ | h
  · exact .inl ⟨o, st.frz _ _ _ h⟩
  · exact .inr h

mutual
theorem RV.mono {K : PySem.W.Frag} {ρ ρ' : List Addr} {H H' : Hp} (st : Step ρ H ρ' H') : ∀ {d : D} {v : V}, RV K ρ H d v → RV K ρ' H' d v
  | _, _, .non => .non
  | _, _, .bl b => .bl b
  | _, _, .int i => .int i
  | _, _, .str x => .str x
  | _, _, .ty n => .ty n
  | _, _, .tup h r => .tup (st.sqt h) (RVs.mono st r)
  | _, _, .rom h r => .rom (st.sqr h) (RVs.mono st r)
  | _, _, .ref h => .ref (st.pre _ _ h)
theorem RVs.mono {K : PySem.W.Frag} {ρ ρ' : List Addr} {H H' : Hp} (st : Step ρ H ρ' H') : ∀ {ds : List D} {vs : List V}, RVs K ρ H ds vs → RVs K ρ' H' ds vs
  | _, _, .nil => .nil
  | _, _, .cons h r => .cons (RV.mono st h) (RVs.mono st r)
end

section
variable {K : PySem.W.Frag} {ρ ρ' : List Addr} {H H' : Hp}
theorem RVs.length : ∀ {ds : List D} {vs : List V}, RVs K ρ H ds vs → ds.length = vs.length
  | _, _, .nil => rfl
  | _, _, .cons _ r => by simp [RVs.length r]
theorem RVs.get : ∀ {ds : List D} {vs : List V} {i : Nat} {d : D}, RVs K ρ H ds vs → ds[i]? = some d → ∃ v, vs[i]? = some v ∧ RV K ρ H d v
  | _, _, _, _, .nil, e => by simp at e
  | _, _, 0, _, .cons h _, e => by simp at e; subst e; exact ⟨_, rfl, h⟩
  | _, _, i + 1, _, .cons _ r, e => by
    obtain ⟨v, h1, h2⟩ := RVs.get (i := i) r (by simpa using e)
    exact ⟨v, by simpa using h1, h2⟩
theorem RVs.append : ∀ {ds es : List D} {vs ws : List V}, RVs K ρ H ds vs → RVs K ρ H es ws → RVs K ρ H (ds ++ es) (vs ++ ws)
  | _, _, _, _, .nil, r => r
  | _, _, _, _, .cons h t, r => .cons h (RVs.append t r)
theorem RVs.set {d : D} {v : V} (h : RV K ρ H d v) : ∀ {ds : List D} {vs : List V} (i : Nat), RVs K ρ H ds vs → RVs K ρ H (ds.set i d) (vs.set i v)
  | _, _, _, .nil => .nil
  | _, _, 0, .cons _ t => .cons h t
  | _, _, i + 1, .cons q t => .cons q (RVs.set h i t)
theorem RVs.take : ∀ {ds : List D} {vs : List V} (n : Nat), RVs K ρ H ds vs → RVs K ρ H (ds.take n) (vs.take n)
  | _, _, 0, _ => .nil
  | _, _, _ + 1, .nil => .nil
  | _, _, n + 1, .cons h t => .cons h (RVs.take n t)
theorem RVs.drop : ∀ {ds : List D} {vs : List V} (n : Nat), RVs K ρ H ds vs → RVs K ρ H (ds.drop n) (vs.drop n)
  | _, _, 0, r => r
  | _, _, _ + 1, .nil => .nil
  | _, _, n + 1, .cons _ t => RVs.drop n t
theorem RVs.reverse : ∀ {ds : List D} {vs : List V}, RVs K ρ H ds vs → RVs K ρ H ds.reverse vs.reverse
  | _, _, .nil => .nil
  | _, _, .cons h t => by
    rw [List.reverse_cons, List.reverse_cons]
    exact RVs.append (RVs.reverse t) (.cons h .nil)
theorem RVs.flat : ∀ {ds : List D} {vs : List V} (n : Nat), RVs K ρ H ds vs → RVs K ρ H (List.replicate n ds).flatten (List.replicate n vs).flatten
  | _, _, 0, _ => .nil
  | _, _, n + 1, r => by
    rw [List.replicate_succ, List.replicate_succ, List.flatten_cons, List.flatten_cons]
    exact RVs.append r (RVs.flat n r)
theorem RVs.ints : ∀ (ns : List Int), RVs K ρ H (ns.map D.int) (ns.map V.int)
  | [] => .nil
  | n :: ns => .cons (.int n) (RVs.ints ns)
theorem RVs.of_ints : ∀ {ns : List Int} {vs : List V}, RVs K ρ H (ns.map D.int) vs → vs = ns.map V.int
  | [], _, .nil => rfl
  | n :: ns, _, .cons (.int _) r => by rw [RVs.of_ints r]; rfl
theorem RVs.of_bls : ∀ {ns : List Bool} {vs : List V}, RVs K ρ H (ns.map D.bl) vs → vs = ns.map V.bl
  | [], _, .nil => rfl
  | n :: ns, _, .cons (.bl _) r => by rw [RVs.of_bls r]; rfl
theorem RVs.of_strs : ∀ {ns : List Str} {vs : List V}, RVs K ρ H (ns.map D.str) vs → vs = ns.map V.str
  | [], _, .nil => rfl
  | n :: ns, _, .cons (.str _) r => by rw [RVs.of_strs r]; rfl
theorem RVs.strs : ∀ (ns : List Str), RVs K ρ H (ns.map D.str) (ns.map V.str)
  | [] => .nil
  | n :: ns => .cons (.str n) (RVs.strs ns)
theorem RV.non_iff {d : D} {v : V} (r : RV K ρ H d v) : (v = .non ↔ d = .non) := by
  cases r <;> simp
end

/-! all references under n -/
mutual
def D.under (n : Nat) : D → Bool
  | .tup ds => D.unders n ds
  | .rom ds => D.unders n ds
  | .ref i => decide (i < n)
  | .non => true
  | .bl _ => true
  | .int _ => true
  | .str _ => true
  | .ty _ => true
def D.unders (n : Nat) : List D → Bool
  | [] => true
  | d :: ds => D.under n d && D.unders n ds
end
mutual
theorem RV.strip {K : PySem.W.Frag} {ρ ρ' : List Addr} {H : Hp} {n : Nat} (e : ∀ (i : Nat) (a : Addr), i < n → ρ[i]? = some a → ρ'[i]? = some a) : ∀ {d : D} {v : V}, d.under n = true → RV K ρ H d v → RV K ρ' H d v
  | _, _, _, .non => .non
  | _, _, _, .bl b => .bl b
  | _, _, _, .int i => .int i
  | _, _, _, .str x => .str x
  | _, _, _, .ty n => .ty n
  | _, _, c, .tup h r => .tup h (RVs.strip e (by simpa [D.under] using c) r)
  | _, _, c, .rom h r => .rom h (RVs.strip e (by simpa [D.under] using c) r)
  | _, _, c, .ref h => .ref (e _ _ (by simpa [D.under] using c) h)
theorem RVs.strip {K : PySem.W.Frag} {ρ ρ' : List Addr} {H : Hp} {n : Nat} (e : ∀ (i : Nat) (a : Addr), i < n → ρ[i]? = some a → ρ'[i]? = some a) : ∀ {ds : List D} {vs : List V}, D.unders n ds = true → RVs K ρ H ds vs → RVs K ρ' H ds vs
  | _, _, _, .nil => .nil
  | _, _, c, .cons h r => by
    simp only [D.unders, Bool.and_eq_true] at c
    exact .cons (RV.strip e c.1 h) (RVs.strip e c.2 r)
end
mutual
theorem RV.bound {K : PySem.W.Frag} {ρ : List Addr} {H : Hp} : ∀ {d : D} {v : V}, RV K ρ H d v → d.under ρ.length = true
  | _, _, .non => rfl
  | _, _, .bl b => rfl
  | _, _, .int i => rfl
  | _, _, .str x => rfl
  | _, _, .ty n => rfl
  | _, _, .tup h r => by rw [D.under]; exact RVs.bound r
  | _, _, .rom h r => by rw [D.under]; exact RVs.bound r
  | _, _, .ref h => by rw [D.under]; exact decide_eq_true (List.getElem?_eq_some_iff.mp h).1
theorem RVs.bound {K : PySem.W.Frag} {ρ : List Addr} {H : Hp} : ∀ {ds : List D} {vs : List V}, RVs K ρ H ds vs → D.unders ρ.length ds = true
  | _, _, .nil => rfl
  | _, _, .cons h r => by
    rw [D.unders, RV.bound h, RVs.bound r]; rfl
end

/-! ### keys of dicts -/
def keyD : D → Option Key
  | .int i => some (.inl i)
  | .str x => some (.inr x)
  | _ => none
def keysD : List D → Option (List Key)
  | [] => some []
  | d :: ds => match keyD d, keysD ds with
    | some k, some ks => some (k :: ks)
    | _, _ => none
def keyT : D → Option (List Key)
  | .tup ds => keysD ds
  | _ => none

inductive RO (K : PySem.W.Frag) (mg : Str → Option Value) (ρ : List Addr) (H : Hp) : O → Addr → Prop
  | lst {ds : List D} {vs : List V} {a : Addr} : H a = some (.lst vs) → RVs K ρ H ds vs → RO K mg ρ H (.lst ds) a
  | dK {kvs : List (D × D)} {ws : List (Key × V)} {a : Addr} : H a = some (.dK ws) → Paired (fun p q => keyD p.1 = some q.1 ∧ RV K ρ H p.2 q.2) kvs ws → RO K mg ρ H (.dct kvs) a
  | dT {kvs : List (D × D)} {ws : List (List Key × V)} {a : Addr} : H a = some (.dT ws) → Paired (fun p q => keyT p.1 = some q.1 ∧ RV K ρ H p.2 q.2) kvs ws → RO K mg ρ H (.dct kvs) a
  | ins {c : Str} {fs : List (Str × D)} {C dx : Addr} {ws : List (Str × V)} {a : Addr} : H a = some (.ins C dx ws) → mg c = some (.ref C) → Paired (fun p q => p.1 = q.1 ∧ RV K ρ H p.2 q.2) fs ws → RO K mg ρ H (.ins c fs) a

theorem RO.held {K : PySem.W.Frag} {mg : Str → Option Value} {ρ : List Addr} {H : Hp} {o : O} {a : Addr} (h : RO K mg ρ H o a) : ∃ u, H a = some u ∧ (∀ xs, u ≠ .tup xs) ∧ ∀ ob v, u ≠ .frz ob v := by
  cases h with
  | lst e _ => exact ⟨_, e, (fun _ z => nomatch z), fun _ _ z => nomatch z⟩
  | dK e _ => exact ⟨_, e, (fun _ z => nomatch z), fun _ _ z => nomatch z⟩
  | dT e _ => exact ⟨_, e, (fun _ z => nomatch z), fun _ _ z => nomatch z⟩
  | ins e _ _ => exact ⟨_, e, (fun _ z => nomatch z), fun _ _ z => nomatch z⟩
/-- an object that stands where it stood -/
theorem RO.mono {K : PySem.W.Frag} {mg : Str → Option Value} {ρ ρ' : List Addr} {H H' : Hp} {o : O} {a : Addr} (st : Step ρ H ρ' H') (e : H' a = H a) (h : RO K mg ρ H o a) : RO K mg ρ' H' o a := by
  cases h with
  | lst h r => exact .lst (e.trans h) (r.mono st)
  | dK h r => exact .dK (e.trans h) (L2.Paired.mapP r fun _ _ q => ⟨q.1, q.2.mono st⟩)
  | dT h r => exact .dT (e.trans h) (L2.Paired.mapP r fun _ _ q => ⟨q.1, q.2.mono st⟩)
  | ins h m r => exact .ins (e.trans h) m (L2.Paired.mapP r fun _ _ q => ⟨q.1, q.2.mono st⟩)

structure RG (K : PySem.W.Frag) (mg : Str → Option Value) (ρ : List Addr) (g : Gp) (H : Hp) : Prop where
  len : ρ.length = g.length
  inj : ∀ (i j : Nat) (a : Addr), ρ[i]? = some a → ρ[j]? = some a → i = j
  obj : ∀ (i : Nat) (o : O) (a : Addr), g[i]? = some o → ρ[i]? = some a → RO K mg ρ H o a

section
variable {K : PySem.W.Frag} {mg : Str → Option Value} {ρ ρ' : List Addr} {H H' : Hp} {g : Gp}
theorem RG.addr (r : RG K mg ρ g H) {i : Nat} {o : O} (e : g[i]? = some o) : ∃ a, ρ[i]? = some a := by
  obtain ⟨h, _⟩ := List.getElem?_eq_some_iff.mp e
  exact ⟨ρ[i]'(by rw [r.len]; exact h), List.getElem?_eq_getElem (by rw [r.len]; exact h)⟩
theorem RG.at (r : RG K mg ρ g H) {i : Nat} {a : Addr} (e : ρ[i]? = some a) : ∃ o, g[i]? = some o ∧ RO K mg ρ H o a := by
  obtain ⟨h, _⟩ := List.getElem?_eq_some_iff.mp e
  have h' : i < g.length := by rw [← r.len]; exact h
  exact ⟨g[i], List.getElem?_eq_getElem h', r.obj i _ a (List.getElem?_eq_getElem h') e⟩
theorem RG.fresh (r : RG K mg ρ g H) {p : Addr} (hp : H p = none) {i : Nat} {a : Addr} (e : ρ[i]? = some a) : a ≠ p := by
  obtain ⟨o, _, h⟩ := r.at e
  obtain ⟨u, h, _⟩ := h.held
  intro z
  rw [z, hp] at h
  cases h
/-- a new tuple, a new thing that is not kept -/
theorem Step.new {p : Addr} {u : HO} (hp : H p = none) : Step ρ H ρ (upd H p u) :=
  ⟨fun _ _ h => h, fun a xs h => by rw [upd_ne (ne_of_none h hp)]; exact h, fun a o v h => by rw [upd_ne (ne_of_none h hp)]; exact h⟩
theorem RG.new (r : RG K mg ρ g H) {p : Addr} {u : HO} (hp : H p = none) : RG K mg ρ g (upd H p u) :=
  ⟨r.len, r.inj, fun i o a h e => (r.obj i o a h e).mono (Step.new hp) (upd_ne (r.fresh hp e))⟩
/-- a new thing that is kept -/
theorem get_app {α : Type} {l : List α} {x : α} : (l ++ [x])[l.length]? = some x := by simp
theorem Step.add {p : Addr} {u : HO} (hp : H p = none) : Step ρ H (ρ ++ [p]) (upd H p u) :=
  ⟨fun i a h => by rw [List.getElem?_append_left (List.getElem?_eq_some_iff.mp h).1]; exact h, (Step.new (ρ := ρ) hp).tup, (Step.new (ρ := ρ) hp).frz⟩
theorem get_snoc {α : Type} {l : List α} {x y : α} {i : Nat} (e : (l ++ [x])[i]? = some y) : (i < l.length ∧ l[i]? = some y) ∨ (i = l.length ∧ y = x) := by
  rcases Nat.lt_trichotomy i l.length with h | h | h
  · rw [List.getElem?_append_left h] at e; exact .inl ⟨h, e⟩
  · subst h; rw [get_app] at e; exact .inr ⟨rfl, (Option.some.inj e).symm⟩
  · rw [List.getElem?_eq_none (by simp; omega)] at e; cases e
theorem RG.add (r : RG K mg ρ g H) {p : Addr} {u : HO} {o : O} (hp : H p = none) (ho : RO K mg (ρ ++ [p]) (upd H p u) o p) : RG K mg (ρ ++ [p]) (g ++ [o]) (upd H p u) := by
  refine ⟨by simp [r.len], fun i j a h1 h2 => ?_, fun i o' a h e => ?_⟩
  · rcases get_snoc h1 with ⟨_, e1⟩ | ⟨e1, z⟩
    · rcases get_snoc h2 with ⟨_, e2⟩ | ⟨e2, z⟩
      · exact r.inj i j a e1 e2
      · exact absurd z (r.fresh hp e1)
    · rcases get_snoc h2 with ⟨_, e2⟩ | ⟨e2, z'⟩
      · exact absurd z (r.fresh hp e2)
      · rw [e1, e2]
  · rcases get_snoc e with ⟨hl, e1⟩ | ⟨e1, z⟩
    · rw [List.getElem?_append_left (by rw [← r.len]; exact hl)] at h
      exact (r.obj i o' a h e1).mono (Step.add hp) (upd_ne (r.fresh hp e1))
    · subst z
      rw [e1, r.len, get_app] at h
      cases h
      exact ho
/-- a kept thing is changed -/
theorem Step.put {a : Addr} {u : HO} {i : Nat} (r : RG K mg ρ g H) (e : ρ[i]? = some a) : Step ρ H ρ (upd H a u) := by
  obtain ⟨o, _, h⟩ := r.at e
  obtain ⟨v, hv, n1, n2⟩ := h.held
  refine ⟨fun _ _ h => h, fun b xs q => ?_, fun b ob w q => ?_⟩
  · rw [upd_ne]
    · exact q
    · intro z; rw [z, hv] at q; exact n1 xs (Option.some.inj q)
  · rw [upd_ne]
    · exact q
    · intro z; rw [z, hv] at q; exact n2 ob w (Option.some.inj q)
theorem RG.put (r : RG K mg ρ g H) {a : Addr} {u : HO} {i : Nat} {o : O} (e : ρ[i]? = some a) (ho : RO K mg ρ (upd H a u) o a) : RG K mg ρ (g.set i o) (upd H a u) := by
  refine ⟨by simp [r.len], r.inj, fun j o' b h q => ?_⟩
  by_cases hj : i = j
  · subst hj
    rw [e] at q; cases q
    have hl : i < g.length := by rw [← r.len]; exact (List.getElem?_eq_some_iff.mp e).1
    rw [List.getElem?_set_self hl] at h; cases h
    exact ho
  · rw [List.getElem?_set_ne hj] at h
    refine (r.obj j o' b h q).mono (Step.put r e) (upd_ne ?_)
    intro z; subst z
    exact hj (r.inj i j _ e q)
/-- a thing that had its place ahead, under fewer addresses -/
theorem RO.strip {o : O} {a b : Addr} {H0 : Hp} (h0 : RO K mg ρ H0 o b) (e : ∀ (i : Nat) (a : Addr), i < ρ.length → ρ'[i]? = some a → ρ[i]? = some a) (h : RO K mg ρ' H o a) : RO K mg ρ H o a := by
  have pr : ∀ {α β γ : Type} {f : α → β → Prop} {kvs : List (α × D)} {ws : List (β × V)} {us : List (γ × V)} {f' : α → γ → Prop}, Paired (fun p q => f' p.1 q.1 ∧ RV K ρ H0 p.2 q.2) kvs us →
      Paired (fun p q => f p.1 q.1 ∧ RV K ρ' H p.2 q.2) kvs ws → Paired (fun p q => f p.1 q.1 ∧ RV K ρ H p.2 q.2) kvs ws := by
    intro α β γ f kvs
    induction kvs with
    | nil => intro ws us f' _ h; cases h; exact .nil
    | cons p r ih =>
      intro ws us f' h1 h2
      cases h1 with
      | cons q1 t1 => cases h2 with
        | cons q2 t2 => exact .cons ⟨q2.1, q2.2.strip e q1.2.bound⟩ (ih t1 t2)
  cases h with
  | lst h r => cases h0 with
    | lst h1 r1 => exact .lst h (RVs.strip e r1.bound r)
  | dK h r => cases h0 with
    | dK h1 r1 => exact .dK h (pr (f := fun a b => keyD a = some b) (f' := fun a b => keyD a = some b) r1 r)
    | dT h1 r1 => exact .dK h (pr (f := fun a b => keyD a = some b) (f' := fun a b => keyT a = some b) r1 r)
  | dT h r => cases h0 with
    | dK h1 r1 => exact .dT h (pr (f := fun a b => keyT a = some b) (f' := fun a b => keyD a = some b) r1 r)
    | dT h1 r1 => exact .dT h (pr (f := fun a b => keyT a = some b) (f' := fun a b => keyT a = some b) r1 r)
  | ins h m r => cases h0 with
    | ins h1 m1 r1 => exact .ins h m (pr (f := fun a b => a = b) (f' := fun a b => a = b) r1 r)
/-- forgetting all things that are new, where the old ones stand as they stood -/
theorem RG.cut {g' : Gp} (r : RG K mg ρ g H) (st : Step ρ H ρ' H') (r' : RG K mg ρ' g' H') (h : ∀ (i : Nat) (o : O), g[i]? = some o → g'[i]? = some o) : RG K mg ρ g H' :=
  ⟨r.len, r.inj, fun i o a h1 h2 => (r.obj i o a h1 h2).strip (fun j b hj e => by
    obtain ⟨c, hc⟩ : ∃ c, ρ[j]? = some c := ⟨_, List.getElem?_eq_getElem hj⟩
    have := st.pre j c hc
    rw [this] at e; cases e; exact hc) (r'.obj i o a (h i o h1) (st.pre i a h2))⟩
theorem Step.cut (st : Step ρ H ρ' H') : Step ρ H ρ H' := ⟨fun _ _ h => h, st.tup, st.frz⟩
end

/-- slots -/
def RS (K : PySem.W.Frag) (ρ : List Addr) (H : Hp) (s : Sl) (σ : L2.St) : Prop :=
  s.length = σ.length ∧ ∀ (i : Nat) (d : D), s[i]? = some (some d) → ∃ v, σ[i]? = some (some v) ∧ RV K ρ H d v
section
variable {K : PySem.W.Frag} {mg : Str → Option Value} {ρ ρ' : List Addr} {H H' : Hp} {s : Sl} {σ : L2.St}
theorem RS.mono (st : Step ρ H ρ' H') (h : RS K ρ H s σ) : RS K ρ' H' s σ := ⟨h.1, fun i d e => by
  obtain ⟨v, h1, h2⟩ := h.2 i d e
  exact ⟨v, h1, h2.mono st⟩⟩
theorem RS.set {d : D} {v : V} (h : RS K ρ H s σ) (r : RV K ρ H d v) (i : Nat) : RS K ρ H (s.set i (some d)) (σ.set i (some v)) := by
  refine ⟨by simp [h.1], fun j e q => ?_⟩
  by_cases hj : i = j
  · subst hj
    by_cases hl : i < s.length
    · rw [List.getElem?_set_self hl] at q; cases q
      exact ⟨v, List.getElem?_set_self (by rw [← h.1]; exact hl), r⟩
    · rw [List.getElem?_eq_none (by simpa using hl)] at q; cases q
  · rw [List.getElem?_set_ne hj] at q ⊢
    exact h.2 j e q
theorem RS.clear (h : RS K ρ H s σ) (i : Nat) : RS K ρ H (s.set i none) (σ.set i none) := by
  refine ⟨by simp [h.1], fun j e q => ?_⟩
  by_cases hj : i = j
  · subst hj
    by_cases hl : i < s.length
    · rw [List.getElem?_set_self hl] at q; cases q
    · rw [List.getElem?_eq_none (by simpa using hl)] at q; cases q
  · rw [List.getElem?_set_ne hj] at q ⊢
    exact h.2 j e q
/-- the slots of a comprehension's own names forgotten -/
def wipeD (s : Sl) : List Nat → Sl
  | [] => s
  | v :: vs => (wipeD s vs).set v none
theorem RS.wipe (h : RS K ρ H s σ) : ∀ vs : List Nat, RS K ρ H (wipeD s vs) (L2.wipe σ vs)
  | [] => h
  | v :: vs => (RS.wipe h vs).clear v
end
end Sim

end
section
set_option maxRecDepth 100000
set_option maxHeartbeats 1000000
/-! Sim1: results, readings, expressions. -/
namespace Sim
open PySem PySem.Spec PyProof.Rows L2

inductive R (α : Type) where
  | ok (a : α) (g : Gp) | exc (c : Str) (d : D) (g : Gp) | bad
def R.bind {α β : Type} : R α → (α → Gp → R β) → R β
  | .ok a g, k => k a g
  | .exc c d g, _ => .exc c d g
  | .bad, _ => .bad
theorem R.bind_ok {α β : Type} (a : α) (g : Gp) (k : α → Gp → R β) : R.bind (.ok a g) k = k a g := rfl
theorem R.bind_exc {α β : Type} (c : Str) (d : D) (g : Gp) (k : α → Gp → R β) : R.bind (.exc c d g) k = .exc c d g := rfl
theorem R.bind_bad {α β : Type} (k : α → Gp → R β) : R.bind (.bad : R α) k = .bad := rfl

abbrev Wt := Str → V → Hp → Prop
abbrev w0 : Wt := fun _ _ _ => False
abbrev RelT (α β : Type) := List Addr → Hp → α → β → Prop

section
variable (K : PySem.W.Frag) (mg : Str → Option Value)
def out {α β : Type} (Rel : RelT α β) (W : Wt) (r : R α) (ρ : List Addr) (H : Hp) (Q : β → Hp → Prop) : Prop :=
  match r with
  | .ok a g => ∀ ρ' H' b, Step ρ H ρ' H' → RG K mg ρ' g H' → Rel ρ' H' a b → Q b H'
  | .exc c d g => ∀ ρ' H' v, Step ρ H ρ' H' → RG K mg ρ' g H' → RV K ρ' H' d v → W c v H'
  | .bad => False
/-- the reading of a meaning -/
def rdX {α β : Type} (Rel : RelT α β) (W : Wt) (m : Sl → Gp → R α) : L2.St → Hp → (β → Hp → Prop) → Prop := fun σ H Q =>
  ∃ ρ g s, RS K ρ H s σ ∧ RG K mg ρ g H ∧ out K mg Rel W (m s g) ρ H Q
abbrev RelB : RelT Bool Bool := fun _ _ b c => b = c
abbrev RelO : RelT (Option Int) (Option Int) := fun _ _ b c => b = c
abbrev rd (W : Wt) (m : Sl → Gp → R D) : TE := rdX K mg (RV K) W m
abbrev rdT (W : Wt) (m : Sl → Gp → R Bool) : TT := rdX K mg RelB W m
abbrev rdA (W : Wt) (m : Sl → Gp → R (List D)) : TA := rdX K mg (RVs K) W m
abbrev rdO (W : Wt) (m : Sl → Gp → R (Option Int)) : TO := rdX K mg RelO W m
end
section
variable {K : PySem.W.Frag} {mg : Str → Option Value} {α β γ δ : Type} {R1 : RelT α β} {R2 : RelT γ δ} {W : Wt} {ρ ρ1 : List Addr} {H H1 : Hp} {g g1 : Gp} {s : Sl} {σ : L2.St}
theorem out.step {r : R α} {Q : β → Hp → Prop} (st : Step ρ H ρ1 H1) (h : out K mg R1 W r ρ H Q) : out K mg R1 W r ρ1 H1 Q := by
  cases r with
  | ok a g => exact fun ρ' H' b s' => h ρ' H' b (st.trans s')
  | exc c d g => exact fun ρ' H' b s' => h ρ' H' b (st.trans s')
  | bad => exact h
theorem out.now {a : α} {b : β} {Q : β → Hp → Prop} (h : out K mg R1 W (.ok a g) ρ H Q) (hg : RG K mg ρ g H) (r : R1 ρ H a b) : Q b H := h ρ H b Step.refl hg r
theorem out.imp {r : R α} {Q Q' : β → Hp → Prop} (h : out K mg R1 W r ρ H Q) (q : ∀ b H', Q b H' → Q' b H') : out K mg R1 W r ρ H Q' := by
  cases r with
  | ok a g => exact fun ρ' H' b s' h1 h2 => q _ _ (h ρ' H' b s' h1 h2)
  | exc c d g => exact h
  | bad => exact h
/-- one part first -/
theorem rd_in {m : Sl → Gp → R α} {k : α → Gp → R γ} {Q : δ → Hp → Prop} {T : β → Hp → Prop} (hs : RS K ρ H s σ) (hg : RG K mg ρ g H) (h : out K mg R2 W ((m s g).bind k) ρ H Q)
    (hk : ∀ x x' g1 ρ1 H1, Step ρ H ρ1 H1 → RG K mg ρ1 g1 H1 → R1 ρ1 H1 x x' → RS K ρ1 H1 s σ → out K mg R2 W (k x g1) ρ1 H1 Q → T x' H1) : rdX K mg R1 W m σ H T := by
  refine ⟨ρ, g, s, hs, hg, ?_⟩
  cases e : m s g with
  | ok a g1 =>
    rw [e] at h
    exact fun ρ' H' b st h1 h2 => hk a b g1 ρ' H' st h1 h2 (hs.mono st) (out.step st h)
  | exc c d g1 => rw [e] at h; exact h
  | bad => rw [e] at h; exact h
theorem rd_out {m : Sl → Gp → R α} {T : β → Hp → Prop} (hs : RS K ρ H s σ) (hg : RG K mg ρ g H) (h : out K mg R1 W (m s g) ρ H T) : rdX K mg R1 W m σ H T := ⟨ρ, g, s, hs, hg, h⟩
end

abbrev ME := Sl → Gp → R D
abbrev MT := Sl → Gp → R Bool
abbrev MA := Sl → Gp → R (List D)
abbrev MO := Sl → Gp → R (Option Int)

/-! ### judgements may be weakened -/
theorem pe_imp {X : Cx} {e : Expr} {t t' : TE} (h : PE X e t) (i : ∀ σ H Q, t' σ H Q → t σ H Q) : PE X e t' := ⟨fun pins s σ H Q I q => h.run pins s σ H Q I (i σ H Q q)⟩
theorem pt_imp {X : Cx} {e : Expr} {t t' : TT} (h : PT X e t) (i : ∀ σ H Q, t' σ H Q → t σ H Q) : PT X e t' := ⟨fun pins s σ H Q I q => h.run pins s σ H Q I (i σ H Q q)⟩
theorem pw_imp {X : Cx} {e : Expr} {t t' : TT} (h : PW X e t) (i : ∀ σ H Q, t' σ H Q → t σ H Q) : PW X e t' := ⟨fun w pins s σ H Q I q => h.run w pins s σ H Q I (i σ H Q q)⟩
theorem pa_imp {X : Cx} {es : List Expr} {t t' : TA} (h : PA X es t) (i : ∀ σ H Q, t' σ H Q → t σ H Q) : PA X es t' := ⟨fun p pins s σ H Q I q => h.run p pins s σ H Q I (i σ H Q q)⟩
theorem po_imp {X : Cx} {e : Option Expr} {t t' : TO} (h : PO X e t) (i : ∀ σ H Q, t' σ H Q → t σ H Q) : PO X e t' := ⟨fun pins s σ H Q I q => h.run pins s σ H Q I (i σ H Q q)⟩
theorem ps_imp {X : Cx} {st : Stmt} {t t' : TS} (h : PS X st t) (i : ∀ D σ H, t' D σ H → t D σ H) : PS X st t' := ⟨fun pins s σ H D I q => h.run pins s σ H D I (i D σ H q)⟩
theorem pss_imp {X : Cx} {st : List Stmt} {t t' : TS} (h : PSs X st t) (i : ∀ D σ H, t' D σ H → t D σ H) : PSs X st t' := ⟨fun pins s σ H D I q => h.run pins s σ H D I (i D σ H q)⟩
theorem pg_imp {X : Cx} {e : Expr} {t t' : TG} (h : PG X e t) (i : ∀ v σ H Q, t' v σ H Q → t v σ H Q) : PG X e t' := ⟨fun pins s σ H v u Q I r q => h.run pins s σ H v u Q I r (i v σ H Q q)⟩
theorem pi_imp {X : Cx} {tg e : Expr} {t t' : TI} (h : PI X tg e t) (i : ∀ σ H R, t' σ H R → t σ H R) : PI X tg e t' := ⟨fun pins s σ H R I q => h.run pins s σ H R I (i σ H R q)⟩
theorem opr_imp {X : Cx} {f : Value → Value → Sem Value} {r r' : R2} (h : OpR X f r) (i : ∀ x y H Q, r' x y H Q → r x y H Q) : OpR X f r' := fun pins s σ H x y v u Q I rx ry q => h pins s σ H x y v u Q I rx ry (i x y H Q q)
theorem unr_imp {X : Cx} {f : Value → Sem Value} {r r' : V → Hp → VK → Prop} (h : UnR X f r) (i : ∀ x H Q, r' x H Q → r x H Q) : UnR X f r' := fun pins s σ H x v Q I rx q => h pins s σ H x v Q I rx (i x H Q q)
theorem callr_imp {X : Cx} {f : Value} {r r' : List V → Hp → VK → Prop} (h : CallR X f r) (i : ∀ xs H Q, r' xs H Q → r xs H Q) : CallR X f r' := fun pins s σ H xs us Q I rx q => h pins s σ H xs us Q I rx (i xs H Q q)
theorem callr_or {X : Cx} {f : Value} {r r' : List V → Hp → VK → Prop} (h : CallR X f r) (h' : CallR X f r') : CallR X f (fun xs H Q => r xs H Q ∨ r' xs H Q) := fun pins s σ H xs us Q I rx q => by
  rcases q with q | q
  · exact h pins s σ H xs us Q I rx q
  · exact h' pins s σ H xs us Q I rx q
theorem mtr_imp {X : Cx} {f : String} {r r' : V → List V → Hp → VK → Prop} (h : MtR X f r) (i : ∀ x xs H Q, r' x xs H Q → r x xs H Q) : MtR X f r' := fun pins s σ H x xs v us Q I rx rs q => h pins s σ H x xs v us Q I rx rs (i x xs H Q q)
theorem ixr_or {X : Cx} {r r' : R2} (h : IxR X r) (h' : IxR X r') : IxR X (fun x y H Q => r x y H Q ∨ r' x y H Q) := fun a b pins s σ H x y v u Q I rx ry q e => by
  rcases q with q | q
  · exact h a b pins s σ H x y v u Q I rx ry q e
  · exact h' a b pins s σ H x y v u Q I rx ry q e
theorem ixr_imp {X : Cx} {r r' : R2} (h : IxR X r) (i : ∀ x y H Q, r' x y H Q → r x y H Q) : IxR X r' := fun a b pins s σ H x y v u Q I rx ry q e => h a b pins s σ H x y v u Q I rx ry (i x y H Q q) e
theorem slr_imp {X : Cx} {r r' : V → Option Int → Option Int → Hp → VK → Prop} (h : SlR X r) (i : ∀ x a b H Q, r' x a b H Q → r x a b H Q) : SlR X r' := fun pins s σ H x v vl vu lo hi sl Q I rx hs pl pu q => h pins s σ H x v vl vu lo hi sl Q I rx hs pl pu (i x lo hi H Q q)

/-! ### names and constants -/
def mVar (i : Nat) : ME := fun s g => match s[i]? with
  | some (some d) => .ok d g
  | _ => .bad
def mC (d : D) : ME := fun _ g => .ok d g
section
variable {X : Cx} {W : Wt} {pos : Pos}
theorem e_var {x : Str} (i : Nat) (hN : X.N[i]? = some x := by rfl) (hv : Vis X.env.scope x := by first | exact Or.inl rfl | exact Or.inr (Or.inl rfl) | exact Or.inr (Or.inr rfl)) (hd : (x == ("__debug__" : Str)) = false := by decide)
    (hcd : (x == ("__classdict__" : Str)) = false := by decide) : PE X (.Name x pos) (rd X.K X.mg W (mVar i)) := by
  refine pe_imp (pe_var hN hv hd hcd) fun σ H Q ⟨ρ, g, s, hs, hg, h⟩ => ?_
  unfold mVar at h
  split at h
  · rename_i d e
    obtain ⟨v, h1, h2⟩ := hs.2 i d e
    exact ⟨v, h1, h.now hg h2⟩
  · exact h.elim
theorem rd_c {d : D} {v : V} (r : ∀ ρ H, RV X.K ρ H d v) {e : Expr} (h : PE X e (tC v)) : PE X e (rd X.K X.mg W (mC d)) :=
  pe_imp h fun σ H Q ⟨ρ, g, s, hs, hg, q⟩ => out.now (R1 := RV X.K) q hg (r ρ H)
theorem e_int {i : Int} {j : Nat} : PE X (.Constant (.int i) j pos) (rd X.K X.mg W (mC (.int i))) := rd_c (fun _ _ => .int i) pe_int
theorem e_bl {b : Bool} {j : Nat} : PE X (.Constant (.bool b) j pos) (rd X.K X.mg W (mC (.bl b))) := rd_c (fun _ _ => .bl b) pe_bl
theorem e_non {j : Nat} : PE X (.Constant .none j pos) (rd X.K X.mg W (mC .non)) := rd_c (fun _ _ => .non) pe_non
theorem e_str {x : Str} {j : Nat} : PE X (.Constant (.str x) j pos) (rd X.K X.mg W (mC (.str x))) := rd_c (fun _ _ => .str x) pe_str
theorem e_globI {x : Str} {i : Int} {t : Tok} (hm : X.mg x = some (.int i t)) (hg : Gl X x := by rfl) (hd : (x == ("__debug__" : Str)) = false := by decide) : PE X (.Name x pos) (rd X.K X.mg W (mC (.int i))) :=
  rd_c (fun _ _ => .int i) (pe_glob hg hm ⟨t, rfl⟩ hd)
theorem e_globS {x : Str} {i : Str} {t : Tok} (hm : X.mg x = some (.str i t)) (hg : Gl X x := by rfl) (hd : (x == ("__debug__" : Str)) = false := by decide) : PE X (.Name x pos) (rd X.K X.mg W (mC (.str i))) :=
  rd_c (fun _ _ => .str i) (pe_glob hg hm ⟨t, rfl⟩ hd)
/-- a constant of the top that is a tuple -/
def FixT (K : PySem.W.Frag) (v : Value) (d : D) : Prop := ∃ a, v = .ref a ∧ ∀ ρ H, RV K ρ H d (.ref a)
theorem e_globT {x : Str} {u : Value} {d : D} (hm : X.mg x = some u) (f : FixT X.K u d) (hg : Gl X x := by rfl) (hd : (x == ("__debug__" : Str)) = false := by decide) : PE X (.Name x pos) (rd X.K X.mg W (mC d)) := by
  obtain ⟨a, rfl, r⟩ := f
  exact rd_c r (pe_glob hg hm rfl hd)
theorem e_ty {x : Str} {n : String} (hm : X.mg x = none) (hv : bootBuiltins x = some (.type n) := by decide +kernel) (hg : Gl X x := by rfl) (hn : x ≠ "__name__" := by decide) (hd : (x == ("__debug__" : Str)) = false := by decide) : PE X (.Name x pos) (rd X.K X.mg W (mC (.ty n))) :=
  rd_c (fun _ _ => .ty n) (pe_bltn hg hm hv rfl hn hd)
end

/-! ### two-place operations -/
def mOp (f : D → D → Gp → R D) (a b : ME) : ME := fun s g => (a s g).bind fun x g1 => (b s g1).bind fun y g2 => f x y g2
def mUn (f : D → Gp → R D) (a : ME) : ME := fun s g => (a s g).bind f
def rOp (K : PySem.W.Frag) (mg : Str → Option Value) (W : Wt) (f : D → D → Gp → R D) : R2 := fun x y H Q => ∃ ρ g d e, RV K ρ H d x ∧ RV K ρ H e y ∧ RG K mg ρ g H ∧ out K mg (RV K) W (f d e g) ρ H Q
def rUn (K : PySem.W.Frag) (mg : Str → Option Value) (W : Wt) (f : D → Gp → R D) : V → Hp → VK → Prop := fun x H Q => ∃ ρ g d, RV K ρ H d x ∧ RG K mg ρ g H ∧ out K mg (RV K) W (f d g) ρ H Q
def OpS (X : Cx) (W : Wt) (F : Value → Value → Sem Value) (f : D → D → Gp → R D) : Prop := OpR X F (rOp X.K X.mg W f)
def IxS (X : Cx) (W : Wt) (f : D → D → Gp → R D) : Prop := IxR X (rOp X.K X.mg W f)
def UnS (X : Cx) (W : Wt) (F : Value → Sem Value) (f : D → Gp → R D) : Prop := UnR X F (rUn X.K X.mg W f)
section
variable {X : Cx} {W : Wt} {pos : Pos} {a b c : Expr} {ma mb mc : ME} {f f' : D → D → Gp → R D}
theorem rd_op {K : PySem.W.Frag} {mg : Str → Option Value} {σ : L2.St} {H : Hp} {Q : VK} (h : rd K mg W (mOp f ma mb) σ H Q) : tOp (rOp K mg W f) (rd K mg W ma) (rd K mg W mb) σ H Q := by
  obtain ⟨ρ, g, s, hs, hg, h⟩ := h
  refine rd_in hs hg h fun x x' g1 ρ1 H1 st1 hg1 rx hs1 h1 => rd_in hs1 hg1 h1 fun y y' g2 ρ2 H2 st2 hg2 ry hs2 h2 => ?_
  exact ⟨ρ2, g2, x, y, rx.mono st2, ry, hg2, h2⟩
theorem e_op {op : Operator} (ho : OpS X W (binaryOp op) f) (ha : PE X a (rd X.K X.mg W ma)) (hb : PE X b (rd X.K X.mg W mb)) : PE X (.BinOp a op b pos) (rd X.K X.mg W (mOp f ma mb)) :=
  pe_imp (pe_op ho ha hb) fun _ _ _ h => rd_op h
theorem e_cmp {op : CmpOp} (ho : OpS X W (compareOp op) f) (ha : PE X a (rd X.K X.mg W ma)) (hb : PE X b (rd X.K X.mg W mb)) (hm : behindInMarks op b = false := by first | exact nomark _ | rfl) : PE X (.Compare a [op] [b] pos) (rd X.K X.mg W (mOp f ma mb)) :=
  pe_imp (pe_cmpR ho ha hb hm) fun _ _ _ h => rd_op h
/-- the bool that a value is -/
def isB (m : ME) : MT := fun s g => (m s g).bind fun x g1 => match x with
  | .bl b => .ok b g1
  | _ => .bad
theorem rd_isB {K : PySem.W.Frag} {mg : Str → Option Value} {m : ME} {σ : L2.St} {H : Hp} {Q : Bool → Hp → Prop} (h : rdT K mg W (isB m) σ H Q) : tTest (rd K mg W m) σ H Q := by
  obtain ⟨ρ, g, s, hs, hg, h⟩ := h
  refine rd_in hs hg h fun x x' g1 ρ1 H1 st1 hg1 rx hs1 h1 => ?_
  cases rx with
  | bl b => exact ⟨b, rfl, out.now (R1 := RelB) h1 hg1 rfl⟩
  | _ => exact h1.elim
theorem test_mono {t t' : TE} (i : ∀ σ H Q, t' σ H Q → t σ H Q) {σ : L2.St} {H : Hp} {Q : Bool → Hp → Prop} (h : tTest t' σ H Q) : tTest t σ H Q := i _ _ _ h
theorem t_cmp {op : CmpOp} (ho : OpS X W (compareOp op) f) (ha : PE X a (rd X.K X.mg W ma)) (hb : PE X b (rd X.K X.mg W mb)) (hm : behindInMarks op b = false := by first | exact nomark _ | rfl) : PT X (.Compare a [op] [b] pos) (rdT X.K X.mg W (isB (mOp f ma mb))) :=
  pt_imp (pt_cmpR ho ha hb hm) fun _ _ _ h => test_mono (fun _ _ _ q => rd_op q) (rd_isB h)
/-- a op b op' c -/
def mChain (f f' : D → D → Gp → R D) (a b c : ME) : ME := fun s g => (a s g).bind fun x g1 => (b s g1).bind fun y g2 => (f x y g2).bind fun z g3 => match z with
  | .bl true => (c s g3).bind fun w g4 => f' y w g4
  | .bl false => .ok (.bl false) g3
  | _ => .bad
theorem rd_chain {K : PySem.W.Frag} {mg : Str → Option Value} {σ : L2.St} {H : Hp} {Q : VK} (h : rd K mg W (mChain f f' ma mb mc) σ H Q) : tChain (rOp K mg W f) (rOp K mg W f') (rd K mg W ma) (rd K mg W mb) (rd K mg W mc) σ H Q := by
  obtain ⟨ρ, g, s, hs, hg, h⟩ := h
  refine rd_in hs hg h fun x x' g1 ρ1 H1 st1 hg1 rx hs1 h1 => rd_in hs1 hg1 h1 fun y y' g2 ρ2 H2 st2 hg2 ry hs2 h2 => ?_
  refine ⟨ρ2, g2, x, y, rx.mono st2, ry, hg2, ?_⟩
  cases e : f x y g2 with
  | bad => rw [e] at h2; exact h2
  | exc c d g3 => rw [e] at h2; exact h2
  | ok z g3 =>
    rw [e, R.bind_ok] at h2
    intro ρ3 H3 z' st3 hg3 rz
    have h3 := out.step st3 h2
    cases rz with
    | bl k =>
      refine ⟨k, rfl, ?_⟩
      cases k with
      | true =>
        rw [if_pos rfl]
        refine rd_in (hs2.mono st3) hg3 h3 fun w w' g4 ρ4 H4 st4 hg4 rw' hs4 h4 => ?_
        exact ⟨ρ4, g4, y, w, (ry.mono st3).mono st4, rw', hg4, h4⟩
      | false =>
        rw [if_neg Bool.false_ne_true]
        exact out.now (R1 := RV K) h3 hg3 (.bl false)
    | _ => exact h3.elim
theorem e_chain {op op' : CmpOp} (ho : OpS X W (compareOp op) f) (ho' : OpS X W (compareOp op') f') (ha : PE X a (rd X.K X.mg W ma)) (hb : PE X b (rd X.K X.mg W mb)) (hc : PE X c (rd X.K X.mg W mc))
    (hm : lastMarks [op, op'] [b, c] = false := by with_unfolding_all rfl) : PE X (.Compare a [op, op'] [b, c] pos) (rd X.K X.mg W (mChain f f' ma mb mc)) :=
  pe_imp (pe_chain ho ho' ha hb hc hm) fun _ _ _ h => rd_chain h
theorem t_chain {op op' : CmpOp} (ho : OpS X W (compareOp op) f) (ho' : OpS X W (compareOp op') f') (ha : PE X a (rd X.K X.mg W ma)) (hb : PE X b (rd X.K X.mg W mb)) (hc : PE X c (rd X.K X.mg W mc))
    (hm : lastMarks [op, op'] [b, c] = false := by with_unfolding_all rfl) : PT X (.Compare a [op, op'] [b, c] pos) (rdT X.K X.mg W (isB (mChain f f' ma mb mc))) :=
  pt_imp (pt_chain ho ho' ha hb hc hm) fun _ _ _ h => test_mono (fun _ _ _ q => rd_chain q) (rd_isB h)
theorem e_un {op : UnaryOp} {f : D → Gp → R D} (ho : UnS X W (unaryOp op) f) (ha : PE X a (rd X.K X.mg W ma)) : PE X (.UnaryOp op a pos) (rd X.K X.mg W (mUn f ma)) :=
  pe_imp (pe_un ho ha) fun σ H Q h => by
    obtain ⟨ρ, g, s, hs, hg, h⟩ := h
    refine rd_in hs hg h fun x x' g1 ρ1 H1 st1 hg1 rx hs1 h1 => ?_
    exact ⟨ρ1, g1, x, rx, hg1, h1⟩
theorem e_ix (ho : IxS X W f) (ha : PE X a (rd X.K X.mg W ma)) (hb : PE X b (rd X.K X.mg W mb)) (hs : PlainIx b := by exact fun _ _ => rfl) : PE X (.Subscript a b pos) (rd X.K X.mg W (mOp f ma mb)) :=
  pe_imp (pe_ix ho ha hb hs) fun _ _ _ h => rd_op h
end

/-! ### and, or, not, if; tests -/
def mAnd (a b : ME) : ME := fun s g => (a s g).bind fun x g1 => match x with
  | .bl true => b s g1
  | .bl false => .ok (.bl false) g1
  | _ => .bad
def mOr (a b : ME) : ME := fun s g => (a s g).bind fun x g1 => match x with
  | .bl false => b s g1
  | .bl true => .ok (.bl true) g1
  | _ => .bad
def mNot (a : ME) : ME := fun s g => (a s g).bind fun x g1 => match x with
  | .bl b => .ok (.bl !b) g1
  | _ => .bad
def tAnd' (a b : MT) : MT := fun s g => (a s g).bind fun x g1 => if x = true then b s g1 else .ok false g1
def tOr' (a b : MT) : MT := fun s g => (a s g).bind fun x g1 => if x = true then .ok true g1 else b s g1
def tNot' (a : MT) : MT := fun s g => (a s g).bind fun x g1 => .ok (!x) g1
def mIf (t : MT) (a b : ME) : ME := fun s g => (t s g).bind fun x g1 => if x = true then a s g1 else b s g1
/-- a value's truth -/
def truD (x : D) (g : Gp) : R Bool := match x with
  | .non => .ok false g
  | .bl b => .ok b g
  | .int i => .ok (i != 0) g
  | .str y => if y.length ≤ 1000000 then .ok ((y.length : Int) != 0) g else .bad
  | .tup ds => .ok (!ds.isEmpty) g
  | .rom ds => .ok (!ds.isEmpty) g
  | .ref i => match g[i]? with
    | some (.lst ds) => .ok (!ds.isEmpty) g
    | _ => .bad
  | _ => .bad
def tTru (m : ME) : MT := fun s g => (m s g).bind truD
theorem sz_lim {n : Nat} (h : n ≤ 1000000) : n ≤ sizeLine := Nat.le_trans h (by rw [sizeLine_eq]; decide)
theorem RVs.empty {K : PySem.W.Frag} {ρ : List Addr} {H : Hp} {ds : List D} {vs : List V} (r : RVs K ρ H ds vs) : (!vs.isEmpty) = !ds.isEmpty := by
  cases r <;> rfl
section
variable {X : Cx} {W : Wt} {pos : Pos} {a b c : Expr} {ma mb mc : ME} {ta tb : MT} {rest : List Expr}
theorem e_one {op : BoolOp} (ha : PE X a (rd X.K X.mg W ma)) : PE X (.BoolOp op [a] pos) (rd X.K X.mg W ma) := pe_one ha
theorem e_and (ha : PE X a (rd X.K X.mg W ma)) (hb : PE X (.BoolOp .And (b :: rest) pos) (rd X.K X.mg W mb)) : PE X (.BoolOp .And (a :: b :: rest) pos) (rd X.K X.mg W (mAnd ma mb)) :=
  pe_imp (pe_and ha hb) fun σ H Q h => by
    obtain ⟨ρ, g, s, hs, hg, h⟩ := h
    refine rd_in hs hg h fun x x' g1 ρ1 H1 st1 hg1 rx hs1 h1 => ?_
    cases rx with
    | bl k =>
      refine ⟨k, rfl, ?_⟩
      cases k with
      | true => exact iteT (rd_out hs1 hg1 h1)
      | false => exact iteF (out.now (R1 := RV X.K) h1 hg1 (.bl false))
    | _ => exact h1.elim
theorem e_or (ha : PE X a (rd X.K X.mg W ma)) (hb : PE X (.BoolOp .Or (b :: rest) pos) (rd X.K X.mg W mb)) : PE X (.BoolOp .Or (a :: b :: rest) pos) (rd X.K X.mg W (mOr ma mb)) :=
  pe_imp (pe_or ha hb) fun σ H Q h => by
    obtain ⟨ρ, g, s, hs, hg, h⟩ := h
    refine rd_in hs hg h fun x x' g1 ρ1 H1 st1 hg1 rx hs1 h1 => ?_
    cases rx with
    | bl k =>
      refine ⟨k, rfl, ?_⟩
      cases k with
      | false => exact iteF (rd_out hs1 hg1 h1)
      | true => exact iteT (out.now (R1 := RV X.K) h1 hg1 (.bl true))
    | _ => exact h1.elim
theorem e_not (ha : PE X a (rd X.K X.mg W ma)) : PE X (.UnaryOp .Not a pos) (rd X.K X.mg W (mNot ma)) :=
  pe_imp (pe_not ha) fun σ H Q h => by
    obtain ⟨ρ, g, s, hs, hg, h⟩ := h
    refine rd_in hs hg h fun x x' g1 ρ1 H1 st1 hg1 rx hs1 h1 => ?_
    cases rx with
    | bl k => exact ⟨k, rfl, out.now (R1 := RV X.K) h1 hg1 (.bl _)⟩
    | _ => exact h1.elim
theorem t_not (ha : PT X a (rdT X.K X.mg W ta)) : PT X (.UnaryOp .Not a pos) (rdT X.K X.mg W (tNot' ta)) :=
  pt_imp (pt_not ha) fun σ H Q h => by
    obtain ⟨ρ, g, s, hs, hg, h⟩ := h
    refine rd_in hs hg h fun x x' g1 ρ1 H1 st1 hg1 rx hs1 h1 => ?_
    obtain rfl : x = x' := rx
    exact out.now (R1 := RelB) h1 hg1 rfl
theorem w_one {op : BoolOp} (h : op = .And ∨ op = .Or) (ha : PT X a (rdT X.K X.mg W ta)) : PW X (.BoolOp op [a] pos) (rdT X.K X.mg W ta) := by
  rcases h with rfl | rfl
  · exact pw_and1 ha
  · exact pw_or1 ha
theorem w_and (ha : PT X a (rdT X.K X.mg W ta)) (hb : PW X (.BoolOp .And (b :: rest) pos) (rdT X.K X.mg W tb)) : PW X (.BoolOp .And (a :: b :: rest) pos) (rdT X.K X.mg W (tAnd' ta tb)) :=
  pw_imp (pw_and ha hb) fun σ H Q h => by
    obtain ⟨ρ, g, s, hs, hg, h⟩ := h
    refine rd_in hs hg h fun x x' g1 ρ1 H1 st1 hg1 rx hs1 h1 => ?_
    obtain rfl : x = x' := rx
    cases x with
    | true => exact iteT (rd_out hs1 hg1 h1)
    | false => exact iteF (out.now (R1 := RelB) h1 hg1 rfl)
theorem w_or (ha : PT X a (rdT X.K X.mg W ta)) (hb : PW X (.BoolOp .Or (b :: rest) pos) (rdT X.K X.mg W tb)) : PW X (.BoolOp .Or (a :: b :: rest) pos) (rdT X.K X.mg W (tOr' ta tb)) :=
  pw_imp (pw_or ha hb) fun σ H Q h => by
    obtain ⟨ρ, g, s, hs, hg, h⟩ := h
    refine rd_in hs hg h fun x x' g1 ρ1 H1 st1 hg1 rx hs1 h1 => ?_
    obtain rfl : x = x' := rx
    cases x with
    | false => exact iteF (rd_out hs1 hg1 h1)
    | true => exact iteT (out.now (R1 := RelB) h1 hg1 rfl)
theorem t_w {e : Expr} (h : PW X e (rdT X.K X.mg W ta)) : PT X e (rdT X.K X.mg W ta) := h.pt
theorem e_if {c : Expr} (hc : PT X c (rdT X.K X.mg W ta)) (ha : PE X a (rd X.K X.mg W ma)) (hb : PE X b (rd X.K X.mg W mb)) : PE X (.IfExp c a b pos) (rd X.K X.mg W (mIf ta ma mb)) :=
  pe_imp (pe_ifExp hc ha hb) fun σ H Q h => by
    obtain ⟨ρ, g, s, hs, hg, h⟩ := h
    refine rd_in hs hg h fun x x' g1 ρ1 H1 st1 hg1 rx hs1 h1 => ?_
    obtain rfl : x = x' := rx
    cases x with
    | true => exact iteT (rd_out hs1 hg1 h1)
    | false => exact iteF (rd_out hs1 hg1 h1)
theorem t_tru {e : Expr} (ha : PE X e (rd X.K X.mg W ma)) (he : ∀ whole, isTrue e X.env whole = (do let v ← whole; standAt e.pos; holding [v] (truthy v)) := by intro _; rfl) : PT X e (rdT X.K X.mg W (tTru ma)) :=
  pt_imp (pt_truth ha he) fun σ H Q h => by
    obtain ⟨ρ, g, s, hs, hg, h⟩ := h
    refine rd_in hs hg h fun x x' g1 ρ1 H1 st1 hg1 rx hs1 h1 => ?_
    cases rx with
    | non => exact ⟨false, rfl, out.now (R1 := RelB) h1 hg1 rfl⟩
    | bl b => exact ⟨b, rfl, out.now (R1 := RelB) h1 hg1 rfl⟩
    | int i => exact ⟨i != 0, rfl, out.now (R1 := RelB) h1 hg1 rfl⟩
    | str y =>
      simp only [truD] at h1
      split at h1
      · rename_i hz
        exact ⟨_, ⟨sz_lim hz, rfl⟩, out.now (R1 := RelB) h1 hg1 rfl⟩
      · exact False.elim h1
    | tup h r => exact ⟨_, .inr (.inl ⟨_, h, rfl⟩), out.now (R1 := RelB) h1 hg1 r.empty.symm⟩
    | rom h r => exact ⟨_, .inl ⟨_, h.sq, rfl⟩, out.now (R1 := RelB) h1 hg1 r.empty.symm⟩
    | ref h =>
      simp only [truD] at h1
      split at h1
      · rename_i ds e
        obtain ⟨o, ho, ro⟩ := hg1.at h
        rw [e] at ho; cases ho
        cases ro with
        | lst hl r => exact ⟨_, .inl ⟨_, .of hl, rfl⟩, out.now (R1 := RelB) h1 hg1 r.empty.symm⟩
      · exact False.elim h1
    | ty n => exact h1.elim
end
end Sim

end
section
set_option maxRecDepth 100000
set_option maxHeartbeats 1000000
/-! Sim2: arguments, displays, calls, loops, comprehensions, statements, defs. -/
namespace Sim
open PySem PySem.Spec PyProof.Rows L2

/-! ### arguments, displays -/
def mNil : MA := fun _ g => .ok [] g
def mCons (a : ME) (r : MA) : MA := fun s g => (a s g).bind fun x g1 => (r s g1).bind fun xs g2 => .ok (x :: xs) g2
def mTup (a : MA) : ME := fun s g => (a s g).bind fun xs g1 => if xs.length ≤ 1000000 then .ok (.tup xs) g1 else .bad
def mLst (a : MA) : ME := fun s g => (a s g).bind fun xs g1 => if xs.length ≤ 1000000 then .ok (.ref g1.length) (g1 ++ [.lst xs]) else .bad
section
variable {X : Cx} {W : Wt} {pos : Pos} {e : Expr} {es : List Expr} {ma : ME} {mr : MA}
theorem a_nil : PA X [] (rdA X.K X.mg W mNil) := pa_imp pa_nil fun σ H Q h => by
  obtain ⟨ρ, g, s, hs, hg, h⟩ := h
  exact out.now (R1 := RVs X.K) h hg .nil
theorem a_cons (ha : PE X e (rd X.K X.mg W ma)) (hr : PA X es (rdA X.K X.mg W mr)) (hs : starEach (e :: es) X.env = (false, eval e X.env) :: starEach es X.env := by rfl) : PA X (e :: es) (rdA X.K X.mg W (mCons ma mr)) :=
  pa_imp (pa_cons ha hr hs) fun σ H Q h => by
    obtain ⟨ρ, g, s, hs, hg, h⟩ := h
    refine rd_in hs hg h fun x x' g1 ρ1 H1 st1 hg1 rx hs1 h1 => rd_in hs1 hg1 h1 fun y y' g2 ρ2 H2 st2 hg2 ry hs2 h2 => ?_
    exact out.now (R1 := RVs X.K) h2 hg2 (.cons (rx.mono st2) ry)
theorem e_tup {x1 : Nat} (h : PA X es (rdA X.K X.mg W mr)) : PE X (.Tuple es x1 pos) (rd X.K X.mg W (mTup mr)) :=
  pe_imp (pe_tup h) fun σ H Q h => by
    obtain ⟨ρ, g, s, hs, hg, h⟩ := h
    refine rd_in hs hg h fun x x' g1 ρ1 H1 st1 hg1 rx hs1 h1 => ?_
    split at h1
    · rename_i hz
      refine ⟨by rw [← rx.length]; exact sz_lim hz, fun p hp => ?_⟩
      exact h1 ρ1 _ _ (Step.new hp) (hg1.new hp) (.tup (.of upd_same) (rx.mono (Step.new hp)))
    · exact h1.elim
theorem e_lst (h : PA X es (rdA X.K X.mg W mr)) : PE X (.List es pos) (rd X.K X.mg W (mLst mr)) :=
  pe_imp (pe_lst h) fun σ H Q h => by
    obtain ⟨ρ, g, s, hs, hg, h⟩ := h
    refine rd_in hs hg h fun x x' g1 ρ1 H1 st1 hg1 rx hs1 h1 => ?_
    split at h1
    · rename_i hz
      refine ⟨by rw [← rx.length]; exact sz_lim hz, fun p hp => ?_⟩
      exact h1 _ _ _ (Step.add hp) (hg1.add hp (.lst upd_same (rx.mono (Step.add hp)))) (.ref (by rw [← hg1.len]; exact get_app))
    · exact h1.elim
end

/-! ### calls -/
abbrev MF := List D → Gp → R D
def mCall (f : MF) (a : MA) : ME := fun s g => (a s g).bind f
/-- the promise of a def by its meaning -/
def spD (K : PySem.W.Frag) (mg : Str → Option Value) (n : Nat) (m : MF) (wE : XK → Wt) : Sp := fun vs H Q E =>
  vs.length = n ∧ ∃ ρ g ds, RVs K ρ H ds vs ∧ RG K mg ρ g H ∧ out K mg (RV K) (wE E) (m ds g) ρ H Q
def rCall (K : PySem.W.Frag) (mg : Str → Option Value) (W : Wt) (f : MF) : List V → Hp → VK → Prop := fun vs H Q =>
  ∃ ρ g ds, RVs K ρ H ds vs ∧ RG K mg ρ g H ∧ out K mg (RV K) W (f ds g) ρ H Q
def CallS (X : Cx) (W : Wt) (F : Value) (f : MF) : Prop := CallR X F (rCall X.K X.mg W f)
theorem out.wmono {K : PySem.W.Frag} {mg : Str → Option Value} {α β : Type} {R1 : RelT α β} {W W' : Wt} {r : R α} {ρ : List Addr} {H : Hp} {Q : β → Hp → Prop} (w : ∀ c v H, W c v H → W' c v H) (h : out K mg R1 W r ρ H Q) : out K mg R1 W' r ρ H Q := by
  cases r with
  | ok a g => exact h
  | exc c d g => exact fun ρ' H' v st hg r => w _ _ _ (h ρ' H' v st hg r)
  | bad => exact h
section
variable {X : Cx} {W : Wt} {pos p : Pos} {e : Expr} {es : List Expr} {ma : ME} {mr : MA} {x : Str}
theorem e_call {CX : CXT} {k : Nat} {f : Addr} {fd : FuncData} {ps : List Str} {m : MF} {wE : XK → Wt} {E : XK} (F : FnOk X.prog X.w X.K X.mg X.base CX k f fd ps (spD X.K X.mg (es.length + 1) m wE)) (hr : Room k X.A) (hm : X.mg x = some (.ref f))
    (hk : PySem.W.keepIn X.K (.ref f) = true) (hb : Binds X.K fd ps []) (hx : Passes CX X E) (hW : ∀ c v H, W c v H → wE E c v H) (ha : PA X (e :: es) (rdA X.K X.mg W mr)) (hlen : ∀ s g xs g', mr s g = .ok xs g' → xs.length = es.length + 1)
    (hg : Gl X x := by rfl) (hdb : (x == ("__debug__" : Str)) = false := by decide) (he : starEach (e :: es) X.env = (false, eval e X.env) :: starEach es X.env := by rfl) (hpl : (backTo pos (starEach es X.env)).any (·.1) = false := by rfl) :
    PE X (.Call (.Name x p) (e :: es) [] pos) (rd X.K X.mg W (mCall m mr)) :=
  pe_imp (pe_call F hr hg hm hk hb .nil hx ha hdb he hpl) fun σ H Q h => by
    obtain ⟨ρ, g, s, hs, hg, h⟩ := h
    refine ⟨ρ, g, s, hs, hg, ?_⟩
    unfold mCall at h
    cases e1 : mr s g with
    | bad => rw [e1] at h; exact h
    | exc c d g1 => rw [e1] at h; exact h
    | ok xs g1 =>
      rw [e1] at h
      intro ρ1 H1 vs st1 hg1 rx
      have hl := hlen s g xs g1 e1
      rw [List.append_nil]
      exact ⟨by rw [← rx.length]; exact hl, ρ1, g1, xs, rx, hg1, (out.step st1 h).wmono hW⟩
theorem rd_call {K : PySem.W.Frag} {mg : Str → Option Value} {f : MF} {σ : L2.St} {H : Hp} {Q : VK} (h : rd K mg W (mCall f mr) σ H Q) : rdA K mg W mr σ H fun vs H1 => rCall K mg W f vs H1 Q := by
  obtain ⟨ρ, g, s, hs, hg, h⟩ := h
  exact rd_in hs hg h fun xs vs g1 ρ1 H1 st1 hg1 rx hs1 h1 => ⟨ρ1, g1, xs, rx, hg1, h1⟩
theorem e_callB {id : String} {f : MF} (hc : CallS X W (.builtin id) f) (hm : X.mg x = none) (ha : PA X (e :: es) (rdA X.K X.mg W mr)) (hv : bootBuiltins x = some (.builtin id) := by decide +kernel) (hg : Gl X x := by rfl)
    (hn : x ≠ "__name__" := by decide) (hdb : (x == ("__debug__" : Str)) = false := by decide) (he : starEach (e :: es) X.env = (false, eval e X.env) :: starEach es X.env := by rfl) (hpl : (backTo pos (starEach es X.env)).any (·.1) = false := by rfl) :
    PE X (.Call (.Name x p) (e :: es) [] pos) (rd X.K X.mg W (mCall f mr)) :=
  pe_imp (pe_callB hc hg hm hv ha hn hdb he hpl) fun _ _ _ h => rd_call h
theorem e_callTy {id : String} {f : MF} (hc : CallS X W (.type id) f) (hm : X.mg x = none) (ha : PA X (e :: es) (rdA X.K X.mg W mr)) (hv : bootBuiltins x = some (.type id) := by decide +kernel) (hg : Gl X x := by rfl)
    (hn : x ≠ "__name__" := by decide) (hdb : (x == ("__debug__" : Str)) = false := by decide) (he : starEach (e :: es) X.env = (false, eval e X.env) :: starEach es X.env := by rfl) (hpl : (backTo pos (starEach es X.env)).any (·.1) = false := by rfl) :
    PE X (.Call (.Name x p) (e :: es) [] pos) (rd X.K X.mg W (mCall f mr)) :=
  pe_imp (pe_callTy hc hg hm hv ha hn hdb he hpl) fun _ _ _ h => rd_call h
end

/-! ### targets -/
abbrev MG := D → Sl → Option Sl
abbrev MGs := List D → Sl → Option Sl
def gN (i : Nat) : MG := fun d s => some (s.set i (some d))
def gNil' : MGs := fun ds s => match ds with
  | [] => some s
  | _ => none
def gCons' (a : MG) (r : MGs) : MGs := fun ds s => match ds with
  | d :: ds => (a d s).bind fun s1 => r ds s1
  | [] => none
def gT (n : Nat) (r : MGs) : MG := fun d s => match d with
  | .tup ds => if ds.length = n then r ds s else none
  | _ => none
/-- outside vs nothing changes -/
def SameOut (vs : List Nat) (σ σ' : L2.St) : Prop := σ'.length = σ.length ∧ ∀ i, i ∉ vs → σ'[i]? = σ[i]?
def rdG (K : PySem.W.Frag) (vs : List Nat) (m : MG) : TG := fun v σ H Q => ∃ ρ s d s', RS K ρ H s σ ∧ RV K ρ H d v ∧ m d s = some s' ∧ ∀ σ', RS K ρ H s' σ' → SameOut vs σ σ' → Q σ' H
def rdGs (K : PySem.W.Frag) (vs : List Nat) (m : MGs) : TGs := fun xs σ H Q => ∃ ρ s ds s', RS K ρ H s σ ∧ RVs K ρ H ds xs ∧ m ds s = some s' ∧ ∀ σ', RS K ρ H s' σ' → SameOut vs σ σ' → Q σ' H
theorem SameOut.refl {vs : List Nat} {σ : L2.St} : SameOut vs σ σ := ⟨rfl, fun _ _ => rfl⟩
theorem SameOut.trans {vs : List Nat} {σ σ1 σ2 : L2.St} (a : SameOut vs σ σ1) (b : SameOut vs σ1 σ2) : SameOut vs σ σ2 := ⟨b.1.trans a.1, fun i h => (b.2 i h).trans (a.2 i h)⟩
theorem SameOut.set {vs : List Nat} {σ : L2.St} {i : Nat} {v : V} (h : i ∈ vs) : SameOut vs σ (σ.set i (some v)) := ⟨by simp, fun j hj => by
  rw [List.getElem?_set_ne]
  intro e; subst e; exact hj h⟩
theorem wipe_get (σ : L2.St) : ∀ (vs : List Nat) (i : Nat), (L2.wipe σ vs)[i]? = if i ∈ vs ∧ i < σ.length then some none else σ[i]?
  | [], i => by simp [L2.wipe]
  | v :: vs, i => by
    unfold L2.wipe
    by_cases hv : v = i
    · subst hv
      by_cases hl : v < σ.length
      · rw [List.getElem?_set_self (by rw [L2.wipe_length]; exact hl), if_pos ⟨by simp, hl⟩]
      · rw [List.getElem?_eq_none (by rw [List.length_set, L2.wipe_length]; omega), if_neg (fun z => hl z.2), List.getElem?_eq_none (by omega)]
    · rw [List.getElem?_set_ne hv, wipe_get σ vs i]
      have : (i ∈ v :: vs) ↔ (i ∈ vs) := by
        rw [List.mem_cons]
        exact ⟨fun h => h.resolve_left (fun z => hv z.symm), .inr⟩
      simp only [this]
theorem SameOut.wipe {vs : List Nat} {σ σ' : L2.St} (h : SameOut vs σ σ') : L2.wipe σ' vs = L2.wipe σ vs := by
  apply List.ext_getElem?
  intro i
  rw [wipe_get, wipe_get, h.1]
  by_cases hi : i ∈ vs
  · by_cases hl : i < σ.length
    · rw [if_pos ⟨hi, hl⟩, if_pos ⟨hi, hl⟩]
    · have hl' : ¬ i < σ'.length := by rw [h.1]; exact hl
      rw [if_neg (fun z => hl z.2), if_neg (fun z => hl z.2), List.getElem?_eq_none (Nat.not_lt.mp hl), List.getElem?_eq_none (Nat.not_lt.mp hl')]
  · rw [if_neg (fun z => hi z.1), if_neg (fun z => hi z.1), h.2 i hi]
section
variable {X : Cx} {pos : Pos} {vs : List Nat} {e : Expr} {es : List Expr}
theorem g_name {x : Str} (i : Nat) (hN : X.N.Nodup) (hv : i ∈ vs := by decide) (hi : X.N[i]? = some x := by rfl) (hx : Loc X.env.scope x := by first | exact Or.inl rfl | exact Or.inr rfl)
    (hf : X.fn x = true ∨ X.env.scope.names.lookup x = some .local := by first | exact .inl rfl | exact .inr rfl) : PG X (.Name x pos) (rdG X.K vs (gN i)) :=
  pg_imp (pg_name hN hi hx hf) fun v σ H Q ⟨ρ, s, d, s', hs, rv, e, q⟩ => by
    obtain rfl : s.set i (some d) = s' := Option.some.inj e
    exact q _ (hs.set rv i) (SameOut.set hv)
theorem gs_nil : PGs X [] (rdGs X.K vs gNil') := by
  refine ⟨fun pins s σ H xs us Q I r h => pgs_nil.run pins s σ H xs us Q I r ?_⟩
  obtain ⟨ρ, s, ds, s', hs, rv, e, q⟩ := h
  cases rv with
  | nil =>
    obtain rfl : s = s' := Option.some.inj e
    exact ⟨rfl, q _ hs SameOut.refl⟩
  | cons a b => cases e
theorem gs_cons {m : MG} {r : MGs} (h1 : PG X e (rdG X.K vs m)) (h2 : PGs X es (rdGs X.K vs r))
    (hs : (assignEach (e :: es) X.env).map (·.2) = assign e X.env :: (assignEach es X.env).map (·.2) := by rfl) : PGs X (e :: es) (rdGs X.K vs (gCons' m r)) := by
  refine ⟨fun pins s σ H xs us Q I rr h => (pgs_cons h1 h2 hs).run pins s σ H xs us Q I rr ?_⟩
  obtain ⟨ρ, s, ds, s', hs, rv, e, q⟩ := h
  cases rv with
  | nil => cases e
  | cons a b =>
    rename_i d ds v vs'
    have e : ((m d s).bind fun s1 => r ds s1) = some s' := e
    cases e1 : m d s with
    | none => rw [e1] at e; cases e
    | some s1 =>
      rw [e1] at e
      exact ⟨v, vs', rfl, ρ, s, d, s1, hs, a, e1, fun σ' hs' so => ⟨ρ, s1, ds, s', hs', b, e, fun σ2 hs2 so2 => q σ2 hs2 (so.trans so2)⟩⟩
theorem g_tup {k : Nat} {r : MGs} (n : Nat) (hc : X.calm = true) (h : PGs X es (rdGs X.K vs r)) (hn : (assignEach es X.env).length = n := by rfl) (hst : (assignEach es X.env).findIdx? (·.1) = none := by rfl) : PG X (.Tuple es k pos) (rdG X.K vs (gT n r)) :=
  pg_imp (pg_tup hc h hn hst) fun v σ H Q ⟨ρ, s, d, s', hs, rv, e, q⟩ => by
    cases rv with
    | @tup ds a vs' ht rs =>
      have e : (if ds.length = n then r ds s else none) = some s' := e
      split at e
      · rename_i hl
        exact ⟨a, _, rfl, ht, by rw [← rs.length]; exact hl, ρ, s, ds, s', hs, rs, e, q⟩
      · cases e
    | _ => cases e
end

/-! ### what is walked -/
inductive Src where
  | tup (ds : List D) | rom (ds : List D) | lst (r : Nat) | rng (lo : Int) (n : Nat) | rngC (lo c : Int) (n : Nat) | revT (ds : List D) | revL (r n : Nat) | enum (r : Nat) | zip (a b : Nat) | zipT (xs ys : List D)
/-- at turn i: none: no answer; some none: the end; some (some x): the next -/
def Src.at (g : Gp) : Src → Nat → Option (Option D)
  | .tup ds, i => some ds[i]?
  | .rom ds, i => some ds[i]?
  | .lst r, i => match g[r]? with
    | some (.lst ds) => some ds[i]?
    | _ => none
  | .rng lo n, i => some (if i < n then some (.int (lo + i)) else none)
  | .rngC lo c n, i => some (if i < n then some (.int (lo + (i : Nat) * c)) else none)
  | .revT ds, i => some (if i < ds.length then ds[ds.length - 1 - i]? else none)
  | .revL r n, i => match g[r]? with
    | some (.lst ds) => if i < n then (match ds[n - 1 - i]? with
      | some d => some (some d)
      | none => none) else some none
    | _ => none
  | .enum r, i => match g[r]? with
    | some (.lst ds) => some (ds[i]?.map fun d => .tup [.int (i : Nat), d])
    | _ => none
  | .zip a b, i => match g[a]?, g[b]? with
    | some (.lst xs), some (.lst ys) => some (match xs[i]?, ys[i]? with
      | some x, some y => some (.tup [x, y])
      | _, _ => none)
    | _, _ => none
  | .zipT xs ys, i => some (match xs[i]?, ys[i]? with
      | some x, some y => some (.tup [x, y])
      | _, _ => none)
/-- how many turns at most -/
def Src.len (g : Gp) : Src → Nat
  | .tup ds => ds.length
  | .rom ds => ds.length
  | .lst r => match g[r]? with
    | some (.lst ds) => ds.length
    | _ => 0
  | .rng _ n => n
  | .rngC _ _ n => n
  | .revT ds => ds.length
  | .revL _ n => n
  | .enum r => match g[r]? with
    | some (.lst ds) => ds.length
    | _ => 0
  | .zip a _ => match g[a]? with
    | some (.lst xs) => xs.length
    | _ => 0
  | .zipT xs _ => xs.length

def ItOk (K : PySem.W.Frag) (mg : Str → Option Value) : RelT Src It := fun ρ H src J =>
  ∀ i ρ2 g2 H2, Step ρ H ρ2 H2 → RG K mg ρ2 g2 H2 → match src.at g2 i with
    | none => True
    | some none => J.stop i H2
    | some (some x) => J.go i H2 ∧ ∀ v H3, J.yld i H2 v H3 → Step ρ2 H2 ρ2 H3 ∧ RG K mg ρ2 g2 H3 ∧ RV K ρ2 H3 x v
abbrev MI := Sl → Gp → R Src
abbrev rdI (K : PySem.W.Frag) (mg : Str → Option Value) (W : Wt) (m : MI) : TI := rdX K mg (ItOk K mg) W m


theorem pi_any {X : Cx} {tg l : Expr} {tl : TE} (hl : PE X l tl) : PI X tg l (fun σ H R => tl σ H fun x H1 => ∃ a, x = .ref a ∧ (((∃ xs, SqL X.K H1 a xs) ∧ R (Itl X.K a) H1) ∨ ((∃ xs, SqT X.K H1 a xs) ∧ R (Itt X.K a) H1))) := by
  refine ⟨fun pins s σ H R I h => ?_⟩
  refine thn (hl.run pins s σ H _ I h) fun v s1 ⟨x, H1, I1, r1, q1⟩ => ?_
  obtain ⟨a, e, q⟩ := q1
  subst e
  cases r1
  rcases q with ⟨⟨xs, hq⟩, q⟩ | ⟨⟨xs, hq⟩, q⟩
  · obtain ⟨its, rv, p, hz⟩ := I1.list hq
    refine wpAny_pyIter_list p.isList ?_
    refine ⟨s1.heap.objs.size, [s1.heap.objs.size], _, _, H1, rfl, I1.kept (t' := s1.toks) fun b o e => Heap.get?_push_of_some _ e, turn_list a _, ⟨_, Heap.get?_push_size _ rfl, rfl, rfl⟩, fun b hb => ?_, q⟩
    have e : b = s1.heap.objs.size := by simpa using hb
    subst e
    exact I1.fpOk (Nat.le_refl _) (I1.hok.fresh (Nat.le_refl _))
  · obtain ⟨its, rv, p, hz⟩ := I1.tuple hq
    refine wpAny_pyIter_tuple (show s1.heap.IsTuple a its.toArray from p) ?_
    refine ⟨s1.heap.objs.size, [s1.heap.objs.size], _, _, H1, rfl, I1.kept (t' := s1.toks) fun b o e => Heap.get?_push_of_some _ e, turn_tuple a _, ⟨_, Heap.get?_push_size _ rfl, rfl, rfl⟩, fun b hb => ?_, q⟩
    have e : b = s1.heap.objs.size := by simpa using hb
    subst e
    exact I1.fpOk (Nat.le_refl _) (I1.hok.fresh (Nat.le_refl _))

section
variable {K : PySem.W.Frag} {mg : Str → Option Value} {ρ : List Addr} {H : Hp} {g : Gp}
theorem RG.lst (r : RG K mg ρ g H) {i : Nat} {a : Addr} {ds : List D} (e : g[i]? = some (.lst ds)) (ha : ρ[i]? = some a) : ∃ vs, H a = some (.lst vs) ∧ RVs K ρ H ds vs := by
  cases r.obj i _ a e ha with
  | lst h r => exact ⟨_, h, r⟩
theorem get_none {α β : Type} {l : List α} {m : List β} {i : Nat} (e : l.length = m.length) (h : l[i]? = none) : m.length ≤ i := by
  rw [← e]; exact List.getElem?_eq_none_iff.mp h
theorem it_tup {ds : List D} {a : Addr} {vs : List V} (h : SqT K H a vs) (r : RVs K ρ H ds vs) : ItOk K mg ρ H (.tup ds) (Itt K a) := by
  intro i ρ2 g2 H2 st hg
  show match some ds[i]? with
    | none => True
    | some none => _
    | some (some x) => _
  cases e : ds[i]? with
  | none => exact ⟨vs, st.sqt h, get_none r.length e⟩
  | some x =>
    obtain ⟨v, e1, r1⟩ := r.get e
    refine ⟨⟨vs, v, st.sqt h, e1⟩, fun w H3 hy => ?_⟩
    obtain ⟨rfl, hy⟩ := hy
    have := hy vs (st.sqt h)
    rw [e1] at this; cases this
    exact ⟨Step.refl, hg, r1.mono st⟩
theorem it_rom {ds : List D} {a : Addr} {vs : List V} (h : SqR K H a vs) (r : RVs K ρ H ds vs) : ItOk K mg ρ H (.rom ds) (Itl K a) := by
  intro i ρ2 g2 H2 st hg
  show match some ds[i]? with
    | none => True
    | some none => _
    | some (some x) => _
  cases e : ds[i]? with
  | none => exact ⟨vs, (st.sqr h).sq, get_none r.length e⟩
  | some x =>
    obtain ⟨v, e1, r1⟩ := r.get e
    refine ⟨⟨vs, v, (st.sqr h).sq, e1⟩, fun w H3 hy => ?_⟩
    obtain ⟨rfl, hy⟩ := hy
    have := hy vs (st.sqr h).sq
    rw [e1] at this; cases this
    exact ⟨Step.refl, hg, r1.mono st⟩
theorem it_lst {r : Nat} {a : Addr} (ha : ρ[r]? = some a) : ItOk K mg ρ H (.lst r) (Itl K a) := by
  intro i ρ2 g2 H2 st hg
  have ha2 := st.pre r a ha
  cases e : Src.at g2 (.lst r) i with
  | none => trivial
  | some o =>
    simp only [Src.at] at e
    split at e
    · rename_i ds e0
      obtain ⟨vs, hl, rv⟩ := hg.lst e0 ha2
      cases o with
      | none => exact ⟨vs, .of hl, get_none rv.length (Option.some.inj e)⟩
      | some x =>
        obtain ⟨v, e1, r1⟩ := rv.get (Option.some.inj e)
        refine ⟨⟨vs, v, .of hl, e1⟩, fun w H3 hy => ?_⟩
        obtain ⟨rfl, hy⟩ := hy
        have := hy vs (.of hl)
        rw [e1] at this; cases this
        exact ⟨Step.refl, hg, r1⟩
    · cases e
theorem it_rng {lo : Int} {n : Nat} : ItOk K mg ρ H (.rng lo n) (Itr lo n) := by
  intro i ρ2 g2 H2 st hg
  show match some (if i < n then some (D.int (lo + i)) else none) with
    | none => True
    | some none => _
    | some (some x) => _
  by_cases h : i < n
  · rw [if_pos h]
    refine ⟨h, fun w H3 hy => ?_⟩
    obtain ⟨rfl, rfl⟩ := hy
    exact ⟨Step.refl, hg, .int _⟩
  · rw [if_neg h]
    exact Nat.not_lt.mp h
theorem it_rngC {lo c : Int} {n : Nat} : ItOk K mg ρ H (.rngC lo c n) (Itc lo c n) := by
  intro i ρ2 g2 H2 st hg
  show match some (if i < n then some (D.int (lo + (i : Nat) * c)) else none) with
    | none => True
    | some none => _
    | some (some x) => _
  by_cases h : i < n
  · rw [if_pos h]
    refine ⟨h, fun w H3 hy => ?_⟩
    obtain ⟨rfl, rfl⟩ := hy
    exact ⟨Step.refl, hg, .int _⟩
  · rw [if_neg h]
    exact Nat.not_lt.mp h
theorem it_revT {ds : List D} {a : Addr} {vs : List V} (h : SqT K H a vs) (r : RVs K ρ H ds vs) : ItOk K mg ρ H (.revT ds) (RT.ItvT K a vs.length) := by
  intro i ρ2 g2 H2 st hg
  show match some (if i < ds.length then ds[ds.length - 1 - i]? else none) with
    | none => True
    | some none => _
    | some (some x) => _
  by_cases hi : i < ds.length
  · rw [if_pos hi]
    cases e : ds[ds.length - 1 - i]? with
    | none =>
      rw [List.getElem?_eq_none_iff] at e
      omega
    | some x =>
      obtain ⟨v, e1, r1⟩ := r.get e
      rw [r.length] at e1
      refine ⟨⟨by rw [← r.length]; exact hi, vs, v, st.sqt h, e1⟩, fun w H3 hy => ?_⟩
      obtain ⟨rfl, hy⟩ := hy
      have := hy vs (st.sqt h)
      rw [e1] at this; cases this
      exact ⟨Step.refl, hg, r1.mono st⟩
  · rw [if_neg hi]
    show vs.length ≤ i
    rw [← r.length]; omega
theorem it_revL {r n : Nat} {a : Addr} (ha : ρ[r]? = some a) : ItOk K mg ρ H (.revL r n) (Itv K a n) := by
  intro i ρ2 g2 H2 st hg
  have ha2 := st.pre r a ha
  cases e : Src.at g2 (.revL r n) i with
  | none => trivial
  | some o =>
    simp only [Src.at] at e
    split at e
    · rename_i ds e0
      obtain ⟨vs, hl, rv⟩ := hg.lst e0 ha2
      split at e
      · rename_i hi
        split at e
        · rename_i d ed
          cases e
          obtain ⟨v, e1, r1⟩ := rv.get ed
          refine ⟨⟨hi, vs, v, .of hl, e1⟩, fun w H3 hy => ?_⟩
          obtain ⟨rfl, hy⟩ := hy
          have := hy vs (.of hl)
          rw [e1] at this; cases this
          exact ⟨Step.refl, hg, r1⟩
        · cases e
      · rename_i hi
        cases e
        exact Nat.not_lt.mp hi
    · cases e
theorem it_enum {r : Nat} {a : Addr} (ha : ρ[r]? = some a) : ItOk K mg ρ H (.enum r) (Ite K a) := by
  intro i ρ2 g2 H2 st hg
  have ha2 := st.pre r a ha
  cases e : Src.at g2 (.enum r) i with
  | none => trivial
  | some o =>
    simp only [Src.at] at e
    split at e
    · rename_i ds e0
      obtain ⟨vs, hl, rv⟩ := hg.lst e0 ha2
      cases ed : ds[i]? with
      | none =>
        rw [ed] at e; cases e
        exact ⟨vs, .of hl, get_none rv.length ed⟩
      | some x =>
        rw [ed] at e; cases e
        obtain ⟨v, e1, r1⟩ := rv.get ed
        refine ⟨⟨vs, v, .of hl, e1⟩, fun w H3 hy => ?_⟩
        obtain ⟨T, y, rfl, nT, rfl, hy⟩ := hy
        have := hy vs (.of hl)
        rw [e1] at this; cases this
        exact ⟨Step.new nT, hg.new nT, .tup (.of upd_same) (.cons (.int _) (.cons (r1.mono (Step.new nT)) .nil))⟩
    · cases e
theorem it_zip {r q : Nat} {a b : Addr} (ha : ρ[r]? = some a) (hb : ρ[q]? = some b) : ItOk K mg ρ H (.zip r q) (Itz K a b) := by
  intro i ρ2 g2 H2 st hg
  have ha2 := st.pre r a ha
  have hb2 := st.pre q b hb
  cases e : Src.at g2 (.zip r q) i with
  | none => trivial
  | some o =>
    simp only [Src.at] at e
    split at e
    · rename_i xs ys e0 e1
      obtain ⟨vs, hl, rv⟩ := hg.lst e0 ha2
      obtain ⟨ws, hl', rv'⟩ := hg.lst e1 hb2
      cases ex : xs[i]? with
      | none =>
        rw [ex] at e; cases e
        exact ⟨vs, ws, .of hl, .of hl', .inl (get_none rv.length ex)⟩
      | some x =>
        cases ey : ys[i]? with
        | none =>
          rw [ex, ey] at e; cases e
          exact ⟨vs, ws, .of hl, .of hl', .inr (get_none rv'.length ey)⟩
        | some y =>
          rw [ex, ey] at e; cases e
          obtain ⟨v, e1, r1⟩ := rv.get ex
          obtain ⟨u, e2, r2⟩ := rv'.get ey
          refine ⟨⟨vs, ws, v, u, .of hl, .of hl', e1, e2⟩, fun w H3 hy => ?_⟩
          obtain ⟨T, x1, y1, rfl, nT, rfl, h1, h2⟩ := hy
          have := h1 vs (.of hl)
          rw [e1] at this; cases this
          have := h2 ws (.of hl')
          rw [e2] at this; cases this
          exact ⟨Step.new nT, hg.new nT, .tup (.of upd_same) (.cons (r1.mono (Step.new nT)) (.cons (r2.mono (Step.new nT)) .nil))⟩
    · cases e
theorem it_zipT {xs ys : List D} {a b : Addr} {vs ws : List V} (h : SqT K H a vs) (h' : SqT K H b ws) (r : RVs K ρ H xs vs) (r' : RVs K ρ H ys ws) : ItOk K mg ρ H (.zipT xs ys) (RZ.ItzT K a b) := by
  intro i ρ2 g2 H2 st hg
  have q := st.sqt h
  have q' := st.sqt h'
  show match some (match xs[i]?, ys[i]? with
      | some x, some y => some (D.tup [x, y])
      | _, _ => none) with
    | none => True
    | some none => _
    | some (some x) => _
  cases ex : xs[i]? with
  | none => exact ⟨vs, ws, q, q', .inl (get_none r.length ex)⟩
  | some x =>
    cases ey : ys[i]? with
    | none => exact ⟨vs, ws, q, q', .inr (get_none r'.length ey)⟩
    | some y =>
      obtain ⟨v, e1, r1⟩ := r.get ex
      obtain ⟨u, e2, r2⟩ := r'.get ey
      refine ⟨⟨vs, ws, v, u, q, q', e1, e2⟩, fun w H3 hy => ?_⟩
      obtain ⟨T, x1, y1, rfl, nT, rfl, h1, h2⟩ := hy
      have := h1 vs q
      rw [e1] at this; cases this
      have := h2 ws q'
      rw [e2] at this; cases this
      exact ⟨Step.new nT, hg.new nT, .tup (.of upd_same) (.cons ((r1.mono st).mono (Step.new nT)) (.cons ((r2.mono st).mono (Step.new nT)) .nil))⟩
end

def iAny (m : ME) : MI := fun s g => (m s g).bind fun x g1 => match x with
  | .tup ds => .ok (.tup ds) g1
  | .rom ds => .ok (.rom ds) g1
  | .ref r => match g1[r]? with
    | some (.lst _) => .ok (.lst r) g1
    | _ => .bad
  | _ => .bad
def inR (j : Int) : Prop := -1000000000000 ≤ j ∧ j ≤ 1000000000000
instance (j : Int) : Decidable (inR j) := by unfold inR; infer_instance
def iRg1 (m : MA) : MI := fun s g => (m s g).bind fun xs g1 => match xs with
  | [.int j] => if inR j then .ok (.rng 0 j.toNat) g1 else .bad
  | _ => .bad
def iRg2 (m : MA) : MI := fun s g => (m s g).bind fun xs g1 => match xs with
  | [.int i, .int j] => if inR i ∧ inR j then .ok (.rng i (j - i).toNat) g1 else .bad
  | _ => .bad
/-- range(a, b, -1) -/
def iRgD (m : MA) : MI := fun s g => (m s g).bind fun xs g1 => match xs with
  | [.int i, .int j, .int c] => if inR i ∧ inR j ∧ c = -1 then .ok (.rngC i (-1) (i - j).toNat) g1 else .bad
  | _ => .bad
def iRv (m : ME) : MI := fun s g => (m s g).bind fun x g1 => match x with
  | .tup ds => .ok (.revT ds) g1
  | .ref r => match g1[r]? with
    | some (.lst ds) => .ok (.revL r ds.length) g1
    | _ => .bad
  | _ => .bad
def iEn (m : MA) : MI := fun s g => (m s g).bind fun xs g1 => match xs with
  | [.ref r] => match g1[r]? with
    | some (.lst _) => .ok (.enum r) g1
    | _ => .bad
  | _ => .bad
def iZp (m : MA) : MI := fun s g => (m s g).bind fun xs g1 => match xs with
  | [.ref r, .ref q] => match g1[r]?, g1[q]? with
    | some (.lst _), some (.lst _) => .ok (.zip r q) g1
    | _, _ => .bad
  | [.tup xs, .tup ys] => .ok (.zipT xs ys) g1
  | _ => .bad
theorem inR.big {j : Int} (h : inR j) : -(2 ^ 62) ≤ j ∧ j < 2 ^ 62 := by
  unfold inR at h
  have e : (2 : Int) ^ 62 = 4611686018427387904 := by decide
  omega
section
variable {X : Cx} {W : Wt} {pos p tpos : Pos} {tg e e2 e3 : Expr} {ma : ME} {mr : MA} {elts : List Expr} {kk : Nat}
theorem i_any (ha : PE X e (rd X.K X.mg W ma)) : PI X tg e (rdI X.K X.mg W (iAny ma)) := pi_imp (pi_any ha) fun σ H R h => by
  obtain ⟨ρ, g, s, hs, hg, h⟩ := h
  refine rd_in hs hg h fun x x' g1 ρ1 H1 st1 hg1 rx hs1 h1 => ?_
  cases rx with
  | tup hq r => exact ⟨_, rfl, .inr ⟨⟨_, hq⟩, out.now (R1 := ItOk X.K X.mg) h1 hg1 (it_tup hq r)⟩⟩
  | rom hq r => exact ⟨_, rfl, .inl ⟨⟨_, hq.sq⟩, out.now (R1 := ItOk X.K X.mg) h1 hg1 (it_rom hq r)⟩⟩
  | ref ha =>
    dsimp only at h1
    split at h1
    · rename_i ds e0
      obtain ⟨vs, hl, rv⟩ := hg1.lst e0 ha
      exact ⟨_, rfl, .inl ⟨⟨_, .of hl⟩, out.now (R1 := ItOk X.K X.mg) h1 hg1 (it_lst ha)⟩⟩
    · exact False.elim h1
  | _ => exact False.elim h1
theorem i_range1 (hm : X.mg "range" = none) (ha : PA X [e] (rdA X.K X.mg W mr)) (hg : Gl X "range" := by rfl) (hs : starEach [e] X.env = [(false, eval e X.env)] := by rfl) : PI X tg (.Call (.Name "range" p) [e] [] pos) (rdI X.K X.mg W (iRg1 mr)) :=
  pi_imp (pi_range1 hg hm ha hs) fun σ H R h => by
    obtain ⟨ρ, g, s, hs, hg, h⟩ := h
    refine rd_in hs hg h fun x x' g1 ρ1 H1 st1 hg1 rx hs1 h1 => ?_
    split at h1
    · cases rx with
      | cons r1 r2 => cases r1; cases r2; split at h1
                      · rename_i hi
                        exact ⟨_, rfl, hi.big.1, hi.big.2, out.now (R1 := ItOk X.K X.mg) h1 hg1 it_rng⟩
                      · exact False.elim h1
    · exact False.elim h1
theorem i_range2 (hm : X.mg "range" = none) (ha : PA X [e, e2] (rdA X.K X.mg W mr)) (hg : Gl X "range" := by rfl) (hs : starEach [e, e2] X.env = [(false, eval e X.env), (false, eval e2 X.env)] := by rfl) (hs2 : starEach [e2] X.env = [(false, eval e2 X.env)] := by rfl) :
    PI X tg (.Call (.Name "range" p) [e, e2] [] pos) (rdI X.K X.mg W (iRg2 mr)) :=
  pi_imp (pi_range2 hg hm ha hs hs2) fun σ H R h => by
    obtain ⟨ρ, g, s, hs, hg, h⟩ := h
    refine rd_in hs hg h fun x x' g1 ρ1 H1 st1 hg1 rx hs1 h1 => ?_
    split at h1
    · cases rx with
      | cons r1 r2 => cases r1; cases r2 with
        | cons r2 r3 =>
          cases r2; cases r3; split at h1
          · rename_i hi
            exact ⟨_, _, rfl, ⟨hi.1.big.1, hi.1.big.2, hi.2.big.1, hi.2.big.2⟩, out.now (R1 := ItOk X.K X.mg) h1 hg1 it_rng⟩
          · exact False.elim h1
    · exact False.elim h1
theorem i_rangeD (hm : X.mg "range" = none) (ha : PA X [e, e2, e3] (rdA X.K X.mg W mr)) (hg : Gl X "range" := by rfl)
    (hs : starEach [e, e2, e3] X.env = (false, eval e X.env) :: starEach [e2, e3] X.env := by rfl) (hpl : (backTo pos (starEach [e2, e3] X.env)).any (·.1) = false := by rfl) :
    PI X tg (.Call (.Name "range" p) [e, e2, e3] [] pos) (rdI X.K X.mg W (iRgD mr)) :=
  pi_imp (pi_range3 hg hm ha hs hpl) fun σ H R h => by
    obtain ⟨ρ, g, s, hs, hg, h⟩ := h
    refine rd_in hs hg h fun x x' g1 ρ1 H1 st1 hg1 rx hs1 h1 => ?_
    split at h1
    · cases rx with
      | cons r1 r2 => cases r1; cases r2 with
        | cons r2 r3 =>
          cases r2; cases r3 with
          | cons r3 r4 =>
            cases r3; cases r4; split at h1
            · rename_i hi
              obtain ⟨h2, h3, rfl⟩ := hi
              exact ⟨_, _, _, _, rfl, RgC.neg h2.big.1 h2.big.2 h3.big.1 h3.big.2, out.now (R1 := ItOk X.K X.mg) h1 hg1 it_rngC⟩
            · exact False.elim h1
    · exact False.elim h1
theorem i_rev (hm : X.mg "reversed" = none) (ha : PE X e (rd X.K X.mg W ma)) (hg : Gl X "reversed" := by rfl) (hs : starEach [e] X.env = (false, eval e X.env) :: starEach [] X.env := by rfl) : PI X tg (.Call (.Name "reversed" p) [e] [] pos) (rdI X.K X.mg W (iRv ma)) :=
  pi_imp (RT.pi_revA hg hm ha hs) fun σ H R h => by
    obtain ⟨ρ, g, s, hs, hg, h⟩ := h
    refine rd_in hs hg h fun x x' g1 ρ1 H1 st1 hg1 rx hs1 h1 => ?_
    cases rx with
    | tup hq r => exact ⟨_, _, rfl, .inr ⟨hq, out.now (R1 := ItOk X.K X.mg) h1 hg1 (it_revT hq r)⟩⟩
    | ref ha =>
      dsimp only at h1
      split at h1
      · rename_i ds e0
        obtain ⟨vs, hl, rv⟩ := hg1.lst e0 ha
        exact ⟨_, _, rfl, .inl ⟨.of hl, out.now (R1 := ItOk X.K X.mg) h1 hg1 (by rw [rv.length]; exact it_revL ha)⟩⟩
      · exact False.elim h1
    | _ => exact False.elim h1
theorem i_enum (hm : X.mg "enumerate" = none) (ha : PA X [e] (rdA X.K X.mg W mr)) (hg : Gl X "enumerate" := by rfl) (hs : starEach [e] X.env = [(false, eval e X.env)] := by rfl) :
    PI X (.Tuple elts kk tpos) (.Call (.Name "enumerate" p) [e] [] pos) (rdI X.K X.mg W (iEn mr)) :=
  pi_imp (pi_enum hg hm ha hs) fun σ H R h => by
    obtain ⟨ρ, g, s, hs, hg, h⟩ := h
    refine rd_in hs hg h fun x x' g1 ρ1 H1 st1 hg1 rx hs1 h1 => ?_
    split at h1
    · cases rx with
      | cons r1 r2 =>
        cases r2
        cases r1 with
        | ref ha =>
          split at h1
          · rename_i ds e0
            obtain ⟨vs, hl, rv⟩ := hg1.lst e0 ha
            exact ⟨_, _, rfl, .of hl, out.now (R1 := ItOk X.K X.mg) h1 hg1 (it_enum ha)⟩
          · exact False.elim h1
    · exact False.elim h1
theorem i_zip (hm : X.mg "zip" = none) (ha : PA X [e, e2] (rdA X.K X.mg W mr)) (hg : Gl X "zip" := by rfl)
    (hs : starEach [e, e2] X.env = (false, eval e X.env) :: starEach [e2] X.env := by rfl) (hpl : (backTo pos (starEach [e2] X.env)).any (·.1) = false := by rfl) :
    PI X (.Tuple elts kk tpos) (.Call (.Name "zip" p) [e, e2] [] pos) (rdI X.K X.mg W (iZp mr)) :=
  pi_imp (RZ.pi_zipA hg hm ha hs hpl) fun σ H R h => by
    obtain ⟨ρ, g, s, hs, hg, h⟩ := h
    refine rd_in hs hg h fun x x' g1 ρ1 H1 st1 hg1 rx hs1 h1 => ?_
    split at h1
    · cases rx with
      | cons r1 r2 => cases r2 with
        | cons r2 r3 =>
          cases r3
          cases r1 with
          | ref ha => cases r2 with
            | ref hb =>
              split at h1
              · rename_i xs ys e0 e1
                obtain ⟨vs, hl, rv⟩ := hg1.lst e0 ha
                obtain ⟨ws, hl', rv'⟩ := hg1.lst e1 hb
                exact ⟨_, _, _, _, rfl, .inl ⟨.of hl, .of hl', out.now (R1 := ItOk X.K X.mg) h1 hg1 (it_zip ha hb)⟩⟩
              · exact False.elim h1
    · cases rx with
      | cons r1 r2 => cases r2 with
        | cons r2 r3 =>
          cases r3
          cases r1 with
          | tup h r => cases r2 with
            | tup h' r' => exact ⟨_, _, _, _, rfl, .inr ⟨h, h', out.now (R1 := ItOk X.K X.mg) h1 hg1 (it_zipT h h' r r')⟩⟩
    · exact False.elim h1
end
end Sim

end
section
set_option maxRecDepth 100000
set_option maxHeartbeats 1000000
/-! Sim3: statements, loops, comprehensions, defs. -/
namespace Sim
open PySem PySem.Spec PyProof.Rows L2

/-- how a block ends -/
inductive F where
  | nx (s : Sl) (g : Gp) | rt (d : D) (g : Gp) | bk (s : Sl) (g : Gp) | ct (s : Sl) (g : Gp) | exc (c : Str) (d : D) (g : Gp) | bad
abbrev MS := Sl → Gp → F
def outS (K : PySem.W.Frag) (mg : Str → Option Value) (W : Wt) (r : F) (ρ : List Addr) (H : Hp) (E : Ends) : Prop :=
  match r with
  | .nx s g => ∀ ρ' H' σ', Step ρ H ρ' H' → RG K mg ρ' g H' → RS K ρ' H' s σ' → E.nx σ' H'
  | .rt d g => ∀ ρ' H' v, Step ρ H ρ' H' → RG K mg ρ' g H' → RV K ρ' H' d v → E.rt v H'
  | .bk s g => ∀ ρ' H' σ', Step ρ H ρ' H' → RG K mg ρ' g H' → RS K ρ' H' s σ' → E.bk σ' H'
  | .ct s g => ∀ ρ' H' σ', Step ρ H ρ' H' → RG K mg ρ' g H' → RS K ρ' H' s σ' → E.ct σ' H'
  | .exc c d g => ∀ ρ' H' v, Step ρ H ρ' H' → RG K mg ρ' g H' → RV K ρ' H' d v → W c v H'
  | .bad => False
def rdS (K : PySem.W.Frag) (mg : Str → Option Value) (W : Wt) (m : MS) : TS := fun E σ H => ∃ ρ g s, RS K ρ H s σ ∧ RG K mg ρ g H ∧ outS K mg W (m s g) ρ H E
section
variable {K : PySem.W.Frag} {mg : Str → Option Value} {W : Wt} {ρ ρ1 : List Addr} {H H1 : Hp} {g g1 : Gp} {s : Sl} {σ : L2.St} {E E' : Ends}
theorem outS.step {r : F} (st : Step ρ H ρ1 H1) (h : outS K mg W r ρ H E) : outS K mg W r ρ1 H1 E := by
  cases r with
  | bad => exact h
  | _ => exact fun ρ' H' b s' => h ρ' H' b (st.trans s')
theorem rdS_out {m : MS} (hs : RS K ρ H s σ) (hg : RG K mg ρ g H) (h : outS K mg W (m s g) ρ H E) : rdS K mg W m E σ H := ⟨ρ, g, s, hs, hg, h⟩
theorem outS.now {s' : Sl} (h : outS K mg W (.nx s' g) ρ H E) (hg : RG K mg ρ g H) (hs : RS K ρ H s' σ) : E.nx σ H := h ρ H σ Step.refl hg hs
/-- from a value to a statement -/
def R.go {α : Type} : R α → (α → Gp → F) → F
  | .ok a g, k => k a g
  | .exc c d g, _ => .exc c d g
  | .bad, _ => .bad
theorem R.go_ok {α : Type} (a : α) (g : Gp) (k : α → Gp → F) : R.go (.ok a g) k = k a g := rfl
theorem R.go_exc {α : Type} (c : Str) (d : D) (g : Gp) (k : α → Gp → F) : R.go (.exc c d g) k = .exc c d g := rfl
theorem R.go_bad {α : Type} (k : α → Gp → F) : R.go (.bad : R α) k = .bad := rfl
theorem rdS_in {α β : Type} {R1 : RelT α β} {m : Sl → Gp → R α} {k : α → Gp → F} {T : β → Hp → Prop} (hs : RS K ρ H s σ) (hg : RG K mg ρ g H) (h : outS K mg W ((m s g).go k) ρ H E)
    (hk : ∀ x x' g1 ρ1 H1, Step ρ H ρ1 H1 → RG K mg ρ1 g1 H1 → R1 ρ1 H1 x x' → RS K ρ1 H1 s σ → outS K mg W (k x g1) ρ1 H1 E → T x' H1) : rdX K mg R1 W m σ H T := by
  refine ⟨ρ, g, s, hs, hg, ?_⟩
  cases e : m s g with
  | ok a g1 =>
    rw [e] at h
    exact fun ρ' H' b st h1 h2 => hk a b g1 ρ' H' st h1 h2 (hs.mono st) (outS.step st h)
  | exc c d g1 => rw [e] at h; exact h
  | bad => rw [e] at h; exact h
def F.then : F → MS → F
  | .nx s g, m => m s g
  | .rt d g, _ => .rt d g
  | .bk s g, _ => .bk s g
  | .ct s g, _ => .ct s g
  | .exc c d g, _ => .exc c d g
  | .bad, _ => .bad
theorem F.then_nx (s : Sl) (g : Gp) (m : MS) : F.then (.nx s g) m = m s g := rfl
theorem F.then_rt (d : D) (g : Gp) (m : MS) : F.then (.rt d g) m = .rt d g := rfl
end

/-! ### blocks -/
def sNext : MS := fun s g => .nx s g
def sSeq (a b : MS) : MS := fun s g => (a s g).then b
def sBreak : MS := fun s g => .bk s g
def sCont : MS := fun s g => .ct s g
def sDrop (m : ME) : MS := fun s g => (m s g).go fun _ g1 => .nx s g1
def sRet (m : ME) : MS := fun s g => (m s g).go fun d g1 => .rt d g1
def sRetN : MS := fun _ g => .rt .non g
def sIf (t : MT) (a b : MS) : MS := fun s g => (t s g).go fun x g1 => if x = true then a s g1 else b s g1
def sSet (tg : MG) (m : ME) : MS := fun s g => (m s g).go fun d g1 => match tg d s with
  | some s1 => .nx s1 g1
  | none => .bad
def sBad : MS := fun _ _ => .bad
section
variable {X : Cx} {W : Wt} {pos : Pos} {st : Stmt} {rest : List Stmt} {ma mb : MS} {e : Expr} {me : ME}
theorem ss_nil : PSs X [] (rdS X.K X.mg W sNext) := pss_imp pss_nil fun E σ H ⟨ρ, g, s, hs, hg, h⟩ => outS.now h hg hs
theorem ss_cons (h1 : PS X st (rdS X.K X.mg W ma)) (h2 : PSs X rest (rdS X.K X.mg W mb)) : PSs X (st :: rest) (rdS X.K X.mg W (sSeq ma mb)) := pss_imp (pss_cons h1 h2) fun E σ H ⟨ρ, g, s, hs, hg, h⟩ => by
  refine ⟨ρ, g, s, hs, hg, ?_⟩
  unfold sSeq at h
  cases e : ma s g with
  | nx s1 g1 =>
    rw [e] at h
    exact fun ρ' H' σ' st hg' hs' => ⟨ρ', g1, s1, hs', hg', outS.step st h⟩
  | _ => rw [e] at h; exact h
theorem ss_one (h1 : PS X st (rdS X.K X.mg W ma)) : PSs X [st] (rdS X.K X.mg W ma) := pss_one h1
theorem s_pass : PS X (.Pass pos) (rdS X.K X.mg W sNext) := ps_imp ps_pass fun E σ H ⟨ρ, g, s, hs, hg, h⟩ => outS.now h hg hs
theorem s_break : PS X (.Break pos) (rdS X.K X.mg W sBreak) := ps_imp ps_break fun E σ H ⟨ρ, g, s, hs, hg, h⟩ => h ρ H σ Step.refl hg hs
theorem s_cont : PS X (.Continue pos) (rdS X.K X.mg W sCont) := ps_imp ps_continue fun E σ H ⟨ρ, g, s, hs, hg, h⟩ => h ρ H σ Step.refl hg hs
theorem s_expr (he : PE X e (rd X.K X.mg W me)) (hs : swapsWith e none pos.line X.env = pure false := by rfl) : PS X (.Expr e pos) (rdS X.K X.mg W (sDrop me)) := ps_imp (ps_expr he hs) fun E σ H ⟨ρ, g, s, hs, hg, h⟩ =>
  rdS_in hs hg h fun x x' g1 ρ1 H1 st1 hg1 rx hs1 h1 => outS.now h1 hg1 hs1
theorem s_ret (he : PE X e (rd X.K X.mg W me)) : PS X (.Return (some e) pos) (rdS X.K X.mg W (sRet me)) := ps_imp (ps_ret he) fun E σ H ⟨ρ, g, s, hs, hg, h⟩ =>
  rdS_in hs hg h fun x x' g1 ρ1 H1 st1 hg1 rx hs1 h1 => h1 ρ1 H1 x' Step.refl hg1 rx
theorem s_retN : PS X (.Return none pos) (rdS X.K X.mg W sRetN) := ps_imp ps_retN fun E σ H ⟨ρ, g, s, hs, hg, h⟩ => h ρ H .non Step.refl hg .non
theorem s_if {c : Expr} {a b : List Stmt} {mt : MT} (hc : PT X c (rdT X.K X.mg W mt)) (ha : PSs X a (rdS X.K X.mg W ma)) (hb : PSs X b (rdS X.K X.mg W mb)) : PS X (.If c a b pos) (rdS X.K X.mg W (sIf mt ma mb)) := ps_imp (ps_if hc ha hb) fun E σ H ⟨ρ, g, s, hs, hg, h⟩ =>
  rdS_in hs hg h fun x x' g1 ρ1 H1 st1 hg1 rx hs1 h1 => by
    obtain rfl : x = x' := rx
    cases x with
    | true => exact iteT (rdS_out hs1 hg1 h1)
    | false => exact iteF (rdS_out hs1 hg1 h1)
theorem s_never : PS X st (rdS X.K X.mg W sBad) := ps_imp ps_never fun E σ H ⟨ρ, g, s, hs, hg, h⟩ => h
theorem s_asg {tg : Expr} {vs : List Nat} {mt : MG} (he : PE X e (rd X.K X.mg W me)) (hg : PG X tg (rdG X.K vs mt)) (hs : swapsWithSole [tg] e pos.line X.env = pure false := by rfl) (hw : swappedStores [tg] e X.env = pure none := by rfl)
    (h1 : (assignEach [tg] X.env).map (·.2) = [assign tg X.env] := by rfl) : PS X (.Assign [tg] e pos) (rdS X.K X.mg W (sSet mt me)) := ps_imp (ps_asg he hg hs hw h1) fun E σ H ⟨ρ, g, s, hs, hg, h⟩ =>
  rdS_in hs hg h fun x x' g1 ρ1 H1 st1 hg1 rx hs1 h1 => by
    split at h1
    · rename_i s1 e1
      exact ⟨ρ1, s, x, s1, hs1, rx, e1, fun σ' hs' _ => outS.now h1 hg1 hs'⟩
    · exact False.elim h1
theorem s_set {x : Str} {pos' : Pos} (i : Nat) (hN : X.N.Nodup) (he : PE X e (rd X.K X.mg W me)) (hi : X.N[i]? = some x := by rfl) (hx : Loc X.env.scope x := by first | exact Or.inl rfl | exact Or.inr rfl) (hs : swapsWith e (some (.Name x pos')) pos.line X.env = pure false := by rfl)
    (hf : X.fn x = true ∨ X.env.scope.names.lookup x = some .local := by first | exact .inl rfl | exact .inr rfl) : PS X (.Assign [.Name x pos'] e pos) (rdS X.K X.mg W (sSet (gN i) me)) := ps_imp (ps_set hN hi hx he hs hf) fun E σ H ⟨ρ, g, s, hs, hg, h⟩ =>
  rdS_in hs hg h fun x x' g1 ρ1 H1 st1 hg1 rx hs1 h1 => outS.now h1 hg1 (hs1.set rx i)
/-- x op= e -/
def sAug (i : Nat) (f : D → D → Gp → R D) (m : ME) : MS := fun s g => match s[i]? with
  | some (some x) => (m s g).go fun y g1 => (f x y g1).go fun z g2 => .nx (s.set i (some z)) g2
  | _ => .bad
theorem s_aug {x : Str} {pos' : Pos} {op : Operator} {f : D → D → Gp → R D} (i : Nat) (hN : X.N.Nodup) (he : PE X e (rd X.K X.mg W me)) (ho : OpS X W (inplaceOp op) f) (hi : X.N[i]? = some x := by rfl) (hx : Loc X.env.scope x := by first | exact Or.inl rfl | exact Or.inr rfl)
    (hf : X.fn x = true ∨ X.env.scope.names.lookup x = some .local := by first | exact .inl rfl | exact .inr rfl) : PS X (.AugAssign (.Name x pos') op e pos) (rdS X.K X.mg W (sAug i f me)) := ps_imp (ps_aug (ti := rOp X.K X.mg W f) hN hi hx he ho hf) fun E σ H ⟨ρ, g, s, hs, hg, h⟩ => by
  unfold sAug at h
  split at h
  · rename_i d e1
    obtain ⟨v, h1, h2⟩ := hs.2 i d e1
    refine ⟨v, h1, rdS_in hs hg h fun y y' g1 ρ1 H1 st1 hg1 ry hs1 h1 => ?_⟩
    refine ⟨ρ1, g1, d, y, h2.mono st1, ry, hg1, ?_⟩
    cases e2 : f d y g1 with
    | ok z g2 =>
      rw [e2] at h1
      exact fun ρ2 H2 z' st2 hg2 rz => outS.now (outS.step st2 h1) hg2 ((hs1.mono st2).set rz i)
    | exc c d g2 => rw [e2] at h1; exact h1
    | bad => rw [e2] at h1; exact h1
  · exact False.elim h
/-- o[i] = e -/
def SetS (X : Cx) (f : D → D → D → Gp → Option Gp) : Prop := PSet X (fun o i v H Q => ∃ ρ g d e u g', RV X.K ρ H d o ∧ RV X.K ρ H e i ∧ RV X.K ρ H u v ∧ RG X.K X.mg ρ g H ∧ f d e u g = some g' ∧ ∀ ρ' H', Step ρ H ρ' H' → RG X.K X.mg ρ' g' H' → Q H')
def sPut (f : D → D → D → Gp → Option Gp) (o i : ME) (m : ME) : MS := fun s g => (m s g).go fun u g1 => (o s g1).go fun d g2 => (i s g2).go fun k g3 => match f d k u g3 with
  | some g4 => .nx s g4
  | none => .bad
theorem s_put {o i : Expr} {mo mi : ME} {p2 : Pos} {f : D → D → D → Gp → Option Gp} (hf : SetS X f) (he : PE X e (rd X.K X.mg W me)) (ho : PE X o (rd X.K X.mg W mo)) (hi : PE X i (rd X.K X.mg W mi))
    (hq : PG X (.Subscript o i p2) (gSub (rd X.K X.mg W mo) (rd X.K X.mg W mi) (fun o i v H Q => ∃ ρ g d e u g', RV X.K ρ H d o ∧ RV X.K ρ H e i ∧ RV X.K ρ H u v ∧ RG X.K X.mg ρ g H ∧ f d e u g = some g' ∧ ∀ ρ' H', Step ρ H ρ' H' → RG X.K X.mg ρ' g' H' → Q H')))
    (hs : swapsWithSole [.Subscript o i p2] e pos.line X.env = pure false := by rfl) (hw : swappedStores [.Subscript o i p2] e X.env = pure none := by rfl)
    (h1 : (assignEach [.Subscript o i p2] X.env).map (·.2) = [assign (.Subscript o i p2) X.env] := by rfl) : PS X (.Assign [.Subscript o i p2] e pos) (rdS X.K X.mg W (sPut f mo mi me)) :=
  ps_imp (ps_asg he hq hs hw h1) fun E σ H ⟨ρ, g, s, hs, hg, h⟩ =>
    rdS_in hs hg h fun u u' g1 ρ1 H1 st1 hg1 ru hs1 h1 => rdS_in hs1 hg1 h1 fun d d' g2 ρ2 H2 st2 hg2 rd' hs2 h2 => rdS_in hs2 hg2 h2 fun k k' g3 ρ3 H3 st3 hg3 rk hs3 h3 => by
      split at h3
      · rename_i g4 e4
        exact ⟨ρ3, g3, d, k, u, g4, rd'.mono st3, rk, (ru.mono st2).mono st3, hg3, e4, fun ρ4 H4 st4 hg4 => outS.now (outS.step st4 h3) hg4 (hs3.mono st4)⟩
      · exact False.elim h3
end

/-! ### loops -/
def loopF (tg : MG) (b : MS) (src : Src) : Nat → Nat → Sl → Gp → F
  | 0, i, s, g => match src.at g i with
    | some none => .nx s g
    | _ => .bad
  | n + 1, i, s, g => match src.at g i with
    | none => .bad
    | some none => .nx s g
    | some (some x) => match tg x s with
      | none => .bad
      | some s1 => match b s1 g with
        | .nx s2 g2 => loopF tg b src n (i + 1) s2 g2
        | .ct s2 g2 => loopF tg b src n (i + 1) s2 g2
        | .bk s2 g2 => .nx s2 g2
        | .rt d g2 => .rt d g2
        | .exc c d g2 => .exc c d g2
        | .bad => .bad
def sFor (mi : MI) (tg : MG) (b : MS) : MS := fun s g => (mi s g).go fun src g1 => loopF tg b src (src.len g1) 0 s g1
def whileF (c : MT) (b : MS) : Nat → Sl → Gp → F
  | 0, _, _ => .bad
  | n + 1, s, g => match c s g with
    | .ok true g1 => match b s g1 with
      | .nx s2 g2 => whileF c b n s2 g2
      | .ct s2 g2 => whileF c b n s2 g2
      | .bk s2 g2 => .nx s2 g2
      | .rt d g2 => .rt d g2
      | .exc c d g2 => .exc c d g2
      | .bad => .bad
    | .ok false g1 => .nx s g1
    | .exc c d g1 => .exc c d g1
    | .bad => .bad
def sWhile (fuel : Nat) (c : MT) (b : MS) : MS := fun s g => whileF c b fuel s g
section
variable {X : Cx} {W : Wt} {pos : Pos} {tg iter : Expr} {body : List Stmt} {mi : MI} {mt : MG} {mb : MS} {vs : List Nat}
theorem s_for (hp : PassesOwn (model X.prog X.w) X.A X.env X.xe) (hi : PI X tg iter (rdI X.K X.mg W mi)) (hg : PG X tg (rdG X.K vs mt)) (hb : PSs X body (rdS X.K X.mg W mb)) (hs : ∀ x, foldedSetIterable iter X.env x = pure x := by intro _; rfl) (hc : X.calm = true := by rfl) :
    PS X (.For tg iter body [] pos) (rdS X.K X.mg W (sFor mi mt mb)) := ps_imp (ps_for hp hc hi hg hb hs) fun E σ H ⟨ρ, g, s, hs, hg, h⟩ =>
  rdS_in hs hg h fun src J g1 ρ1 H1 st1 hg1 hJ hs1 h1 => by
    refine ⟨fun i m σ' H' => ∃ ρ' s' g', RS X.K ρ' H' s' σ' ∧ RG X.K X.mg ρ' g' H' ∧ Step ρ1 H1 ρ' H' ∧ outS X.K X.mg W (loopF mt mb src m i s' g') ρ' H' E, ⟨_, ρ1, s, g1, hs1, hg1, Step.refl, h1⟩, ?_⟩
    rintro i m σ2 H2 ⟨ρ2, s2, g2, hs2, hg2, st2, h2⟩
    have hJ2 := hJ i ρ2 g2 H2 st2 hg2
    cases e : src.at g2 i with
    | none => cases m <;> (simp only [loopF, e] at h2; exact h2.elim)
    | some o =>
      rw [e] at hJ2
      cases o with
      | none =>
        refine .inl ⟨hJ2, ?_⟩
        cases m <;> (simp only [loopF, e] at h2; exact outS.now h2 hg2 hs2)
      | some x =>
        cases m with
        | zero => simp only [loopF, e] at h2; exact h2.elim
        | succ m =>
          simp only [loopF, e] at h2
          refine .inr ⟨hJ2.1, fun σ3 H3 => ∃ ρ' s' g', RS X.K ρ' H3 s' σ3 ∧ RG X.K X.mg ρ' g' H3 ∧ Step ρ1 H1 ρ' H3 ∧ outS X.K X.mg W (loopF mt mb src m (i + 1) s' g') ρ' H3 E, fun σ3 H3 q => ⟨m, Nat.lt_succ_self m, q⟩, fun v H3 hy => ?_⟩
          obtain ⟨st3, hg3, rx⟩ := hJ2.2 v H3 hy
          have h3 := outS.step st3 h2
          have hs3 := hs2.mono st3
          cases e1 : mt x s2 with
          | none => rw [e1] at h3; exact h3.elim
          | some s4 =>
            rw [e1] at h3
            refine ⟨ρ2, s2, x, s4, hs3, rx, e1, fun σ4 hs4 _ => ⟨ρ2, g2, s4, hs4, hg3, ?_⟩⟩
            cases e2 : mb s4 g2 with
            | nx s5 g5 =>
              simp only [e2] at h3
              exact fun ρ6 H6 σ6 st6 hg6 hs6 => ⟨ρ6, s5, g5, hs6, hg6, (st2.trans st3).trans st6, outS.step st6 h3⟩
            | ct s5 g5 =>
              simp only [e2] at h3
              exact fun ρ6 H6 σ6 st6 hg6 hs6 => ⟨ρ6, s5, g5, hs6, hg6, (st2.trans st3).trans st6, outS.step st6 h3⟩
            | bk s5 g5 => simp only [e2] at h3; exact h3
            | rt d g5 => simp only [e2] at h3; exact h3
            | exc c d g5 => simp only [e2] at h3; exact h3
            | bad => simp only [e2] at h3; exact h3
theorem s_while {c : Expr} {mc : MT} (fuel : Nat) (hp : PassesOwn (model X.prog X.w) X.A X.env X.xe) (hc : PT X c (rdT X.K X.mg W mc)) (hb : PSs X body (rdS X.K X.mg W mb)) :
    PS X (.While c body [] pos) (rdS X.K X.mg W (sWhile fuel mc mb)) := ps_imp (ps_while hp hc hb) fun E σ H ⟨ρ, g, s, hs, hg, h⟩ => by
  refine ⟨fun m σ' H' => ∃ ρ' s' g', RS X.K ρ' H' s' σ' ∧ RG X.K X.mg ρ' g' H' ∧ outS X.K X.mg W (whileF mc mb m s' g') ρ' H' E, ⟨fuel, ρ, s, g, hs, hg, h⟩, ?_⟩
  rintro m σ2 H2 ⟨ρ2, s2, g2, hs2, hg2, h2⟩
  cases m with
  | zero => exact h2.elim
  | succ m =>
    refine ⟨ρ2, g2, s2, hs2, hg2, ?_⟩
    simp only [whileF] at h2
    cases e : mc s2 g2 with
    | bad => rw [e] at h2; exact h2
    | exc c d g3 => rw [e] at h2; exact h2
    | ok b g3 =>
      rw [e] at h2
      intro ρ3 H3 b' st3 hg3 eb
      obtain rfl : b = b' := eb
      have h3 := outS.step st3 h2
      have hs3 := hs2.mono st3
      cases b with
      | false => exact iteF (outS.now h3 hg3 hs3)
      | true =>
        refine iteT ⟨fun σ4 H4 => ∃ ρ' s' g', RS X.K ρ' H4 s' σ4 ∧ RG X.K X.mg ρ' g' H4 ∧ outS X.K X.mg W (whileF mc mb m s' g') ρ' H4 E, fun σ4 H4 q => ⟨m, Nat.lt_succ_self m, q⟩, ρ3, g3, s2, hs3, hg3, ?_⟩
        cases e2 : mb s2 g3 with
        | nx s5 g5 =>
          simp only [e2] at h3
          exact fun ρ6 H6 σ6 st6 hg6 hs6 => ⟨ρ6, s5, g5, hs6, hg6, outS.step st6 h3⟩
        | ct s5 g5 =>
          simp only [e2] at h3
          exact fun ρ6 H6 σ6 st6 hg6 hs6 => ⟨ρ6, s5, g5, hs6, hg6, outS.step st6 h3⟩
        | bk s5 g5 => simp only [e2] at h3; exact h3
        | rt d g5 => simp only [e2] at h3; exact h3
        | exc c d g5 => simp only [e2] at h3; exact h3
        | bad => simp only [e2] at h3; exact h3
end

/-! ### comprehensions -/
def loopC (tg : MG) (tt : MT) (te : ME) (src : Src) (s : Sl) (r : Nat) : Nat → Nat → Gp → R D
  | 0, i, g => match src.at g i with
    | some none => .ok (.ref r) g
    | _ => .bad
  | n + 1, i, g => match src.at g i with
    | none => .bad
    | some none => .ok (.ref r) g
    | some (some x) => match tg x s with
      | none => .bad
      | some s1 => match tt s1 g with
        | .ok true g1 => match te s1 g1 with
          | .ok y g2 => match g2[r]? with
            | some (.lst acc) => if acc.length < 1000000 then loopC tg tt te src s r n (i + 1) (g2.set r (.lst (acc ++ [y]))) else .bad
            | _ => .bad
          | _ => .bad
        | .ok false g1 => loopC tg tt te src s r n (i + 1) g1
        | _ => .bad
def mLc (vs : List Nat) (mi : MI) (tg : MG) (tt : MT) (te : ME) : ME := fun s g => (mi s g).bind fun src g1 => loopC tg tt te src (wipeD s vs) g1.length (src.len g1) 0 (g1 ++ [.lst []])
def tYes' : MT := fun _ g => .ok true g
theorem RV.ref_inv {K : PySem.W.Frag} {ρ : List Addr} {H : Hp} {i : Nat} {v : V} (h : RV K ρ H (.ref i) v) : ∃ a, ρ[i]? = some a ∧ v = .ref a := by
  cases h with
  | ref h => exact ⟨_, h, rfl⟩
section
variable {X : Cx} {W : Wt} {pos : Pos} {elt tg iter : Expr} {ifs : List Expr} {scope : Scope} {mi : MI} {mt : MG} {tt : MT} {te : ME} {own : List (Str × Nat)}
theorem rd_lc {K : PySem.W.Frag} {mg : Str → Option Value} {vs : List Nat} {σ : L2.St} {H : Hp} {Q : VK} (h : rd K mg W (mLc vs mi mt tt te) σ H Q) : tLc (rdI K mg W mi) (rdG K vs mt) (rdT K mg w0 tt) (rd K mg w0 te) vs σ H Q := by
  obtain ⟨ρ, g, s, hs, hg, h⟩ := h
  refine rd_in hs hg h fun src J g1 ρ1 H1 st1 hg1 hJ hs1 h1 D hD => ?_
  have stD : Step ρ1 H1 (ρ1 ++ [D]) (upd H1 D (.lst [])) := Step.add hD
  have hgD := hg1.add hD (.lst upd_same .nil : RO K mg (ρ1 ++ [D]) (upd H1 D (.lst [])) (.lst []) D)
  have hr0 : (ρ1 ++ [D])[g1.length]? = some D := by rw [← hg1.len]; exact get_app
  refine ⟨fun i m H' => ∃ ρ' g', RS K ρ' H' (wipeD s vs) (L2.wipe σ vs) ∧ RG K mg ρ' g' H' ∧ Step ρ1 H1 ρ' H' ∧ ρ'[g1.length]? = some D ∧ out K mg (RV K) W (loopC mt tt te src (wipeD s vs) g1.length m i g') ρ' H' Q,
    ⟨src.len g1, ρ1 ++ [D], g1 ++ [.lst []], (hs1.mono stD).wipe vs, hgD, stD, hr0, out.step stD h1⟩, ?_⟩
  rintro i m H2 ⟨ρ2, g2, hs2, hg2, st2, hr2, h2⟩
  have hJ2 := hJ i ρ2 g2 H2 st2 hg2
  cases e : src.at g2 i with
  | none => cases m <;> (simp only [loopC, e] at h2; exact h2.elim)
  | some o =>
    rw [e] at hJ2
    cases o with
    | none =>
      refine .inl ⟨hJ2, ?_⟩
      cases m <;> (simp only [loopC, e] at h2; exact out.now (R1 := RV K) h2 hg2 (.ref hr2))
    | some x =>
      cases m with
      | zero => simp only [loopC, e] at h2; exact h2.elim
      | succ m =>
        simp only [loopC, e] at h2
        refine .inr ⟨hJ2.1, fun H3 => ∃ ρ' g', RS K ρ' H3 (wipeD s vs) (L2.wipe σ vs) ∧ RG K mg ρ' g' H3 ∧ Step ρ1 H1 ρ' H3 ∧ ρ'[g1.length]? = some D ∧ out K mg (RV K) W (loopC mt tt te src (wipeD s vs) g1.length m (i + 1) g') ρ' H3 Q,
          fun H3 q => ⟨m, Nat.lt_succ_self m, q⟩, fun v H3 hy => ?_⟩
        obtain ⟨st3, hg3, rx⟩ := hJ2.2 v H3 hy
        have h3 := out.step st3 h2
        have hs3 := hs2.mono st3
        cases e1 : mt x (wipeD s vs) with
        | none => rw [e1] at h3; exact h3.elim
        | some s4 =>
          simp only [e1] at h3
          refine ⟨ρ2, wipeD s vs, x, s4, hs3, rx, e1, fun σ4 hs4 so => ?_⟩
          refine ⟨?_, ρ2, g2, s4, hs4, hg3, ?_⟩
          · rw [so.wipe]
            exact SameOut.wipe ⟨L2.wipe_length σ vs, fun j hj => by rw [wipe_get, if_neg (fun z => hj z.1)]⟩
          cases e2 : tt s4 g2 with
          | bad => simp only [e2] at h3; exact h3.elim
          | exc c d g5 => simp only [e2] at h3; exact h3.elim
          | ok b g5 =>
            simp only [e2] at h3
            intro ρ5 H5 b' st5 hg5 eb
            obtain rfl : b = b' := eb
            have h5 := out.step st5 h3
            have hs5 := hs4.mono st5
            have hw5 := hs3.mono st5
            cases b with
            | false => exact iteF ⟨ρ5, g5, hw5, hg5, (st2.trans st3).trans st5, st5.pre _ _ hr2, h5⟩
            | true =>
              refine iteT ⟨ρ5, g5, s4, hs5, hg5, ?_⟩
              cases e3 : te s4 g5 with
              | bad => simp only [e3] at h5; exact h5.elim
              | exc c d g6 => simp only [e3] at h5; exact h5.elim
              | ok y g6 =>
                simp only [e3] at h5
                intro ρ6 H6 y' st6 hg6 ry
                have h6 := out.step st6 h5
                have hr6 := st6.pre _ _ (st5.pre _ _ hr2)
                cases e4 : g6[g1.length]? with
                | none => simp only [e4] at h6; exact h6.elim
                | some ob =>
                  cases ob with
                  | lst acc =>
                    simp only [e4] at h6
                    split at h6
                    · rename_i hz
                      obtain ⟨ws, hl, rw'⟩ := hg6.lst e4 hr6
                      have st7 : Step ρ6 H6 ρ6 (upd H6 D (.lst (ws ++ [y']))) := Step.put hg6 hr6
                      exact ⟨ws, hl, by rw [← rw'.length]; exact Nat.lt_of_lt_of_le hz (sz_lim (Nat.le_refl _)), ρ6, _, (hw5.mono st6).mono st7, hg6.put hr6 (.lst upd_same ((rw'.append (.cons ry .nil)).mono st7)), ((st2.trans st3).trans (st5.trans st6)).trans st7, hr6, out.step st7 h6⟩
                    · exact h6.elim
                  | dct kvs => simp only [e4] at h6; exact h6.elim
                  | ins c fs => simp only [e4] at h6; exact h6.elim
theorem e_lc (own : List (Str × Nat)) (hN : X.N.Nodup) (hi : PI X tg iter (rdI X.K X.mg W mi)) (ok : BlkOk X.N X.env.scope scope own)
    (hg : ∀ (s : Shared) (H : Hp) (C : Addr) (cl : List (Str × Addr)) (fp : List Addr), PG (X.blk s H scope (compEnvC scope cl C X.env) fp) tg (rdG X.K (own.map (·.2)) mt))
    (ht : ∀ (s : Shared) (H : Hp) (C : Addr) (cl : List (Str × Addr)) (fp : List Addr), PTs (X.blk s H scope (compEnvC scope cl C X.env) fp) ifs (rdT X.K X.mg w0 tt))
    (he : ∀ (s : Shared) (H : Hp) (C : Addr) (cl : List (Str × Addr)) (fp : List Addr), PE (X.blk s H scope (compEnvC scope cl C X.env) fp) elt (rd X.K X.mg w0 te)) (hs : ∀ x, foldedSetIterable iter X.env x = pure x := by intro _; rfl) (hc : X.calm = true := by rfl) :
    PE X (.ListComp elt [⟨tg, iter, ifs, 0⟩] scope pos) (rd X.K X.mg W (mLc (own.map (·.2)) mi mt tt te)) :=
  pe_imp (pe_lc hc hN hi ok hg ht he hs) fun _ _ _ h => rd_lc h
theorem s_setLc {y : Str} {py spos : Pos} (i : Nat) (own : List (Str × Nat)) (hN : X.N.Nodup) (hi : PI X tg iter (rdI X.K X.mg W mi)) (ok : BlkOk X.N X.env.scope scope own)
    (hg : ∀ (s : Shared) (H : Hp) (C : Addr) (cl : List (Str × Addr)) (fp : List Addr), PG (X.blk s H scope (compEnvC scope cl C X.env) fp) tg (rdG X.K (own.map (·.2)) mt))
    (ht : ∀ (s : Shared) (H : Hp) (C : Addr) (cl : List (Str × Addr)) (fp : List Addr), PTs (X.blk s H scope (compEnvC scope cl C X.env) fp) ifs (rdT X.K X.mg w0 tt))
    (he : ∀ (s : Shared) (H : Hp) (C : Addr) (cl : List (Str × Addr)) (fp : List Addr), PE (X.blk s H scope (compEnvC scope cl C X.env) fp) elt (rd X.K X.mg w0 te))
    (hsw : swapsWith (.ListComp elt [⟨tg, iter, ifs, 0⟩] scope pos) (some (.Name y py)) spos.line X.env = pure true) (hy : X.N[i]? = some y := by rfl) (hyl : X.env.scope.names.lookup y = some .local := by rfl)
    (hs : ∀ x, foldedSetIterable iter X.env x = pure x := by intro _; rfl) (hc : X.calm = true := by rfl) :
    PS X (.Assign [.Name y py] (.ListComp elt [⟨tg, iter, ifs, 0⟩] scope pos) spos) (rdS X.K X.mg W (sSet (gN i) (mLc (own.map (·.2)) mi mt tt te))) :=
  ps_imp (ps_setLc hc hN hy hyl hsw hi ok hg ht he hs) fun E σ H ⟨ρ, g, s, hs, hg, h⟩ =>
    rd_lc (rdS_in (R1 := RV X.K) hs hg h fun x x' g1 ρ1 H1 st1 hg1 rx hs1 h1 => outS.now h1 hg1 (hs1.set rx i))
theorem ts_nil : PTs X [] (rdT X.K X.mg W tYes') := ⟨fun pins s σ H Q I ⟨ρ, g, sl, hs, hg, h⟩ => pts_nil.run pins s σ H Q I (out.now (R1 := RelB) h hg rfl)⟩
theorem ts_one {c : Expr} (h : PT X c (rdT X.K X.mg W tt)) : PTs X [c] (rdT X.K X.mg W tt) := pts_one h
end

/-! ### defs -/
def Pre (g g' : Gp) : Prop := ∀ (i : Nat) (o : O), g[i]? = some o → g'[i]? = some o
mutual
def D.beq : D → D → Bool
  | .non, .non => true
  | .bl a, .bl b => a == b
  | .int a, .int b => decide (a = b)
  | .str a, .str b => decide (a = b)
  | .ty a, .ty b => decide (a = b)
  | .tup a, .tup b => D.beqs a b
  | .rom a, .rom b => D.beqs a b
  | .ref a, .ref b => Nat.beq a b
  | _, _ => false
def D.beqs : List D → List D → Bool
  | [], [] => true
  | a :: as, b :: bs => D.beq a b && D.beqs as bs
  | _, _ => false
end
mutual
theorem D.beq_iff : ∀ a b : D, D.beq a b = true ↔ a = b
  | .non, b => by cases b <;> simp [D.beq]
  | .bl a, b => by cases b <;> simp [D.beq]
  | .int a, b => by cases b <;> simp [D.beq]
  | .str a, b => by cases b <;> simp [D.beq]
  | .ty a, b => by cases b <;> simp [D.beq]
  | .tup a, b => by cases b <;> simp [D.beq, D.beqs_iff a]
  | .rom a, b => by cases b <;> simp [D.beq, D.beqs_iff a]
  | .ref a, b => by cases b <;> simp [D.beq]
theorem D.beqs_iff : ∀ a b : List D, D.beqs a b = true ↔ a = b
  | [], b => by cases b <;> simp [D.beqs]
  | a :: as, b => by cases b <;> simp [D.beqs, D.beq_iff a, D.beqs_iff as]
end
instance : DecidableEq D := fun a b => decidable_of_iff _ (D.beq_iff a b)
def O.beq : O → O → Bool
  | .lst a, .lst b => D.beqs a b
  | .dct a, .dct b => decide (a = b)
  | .ins c a, .ins d b => decide (c = d) && decide (a = b)
  | _, _ => false
theorem O.beq_iff (a b : O) : O.beq a b = true ↔ a = b := by
  cases a <;> cases b <;> simp [O.beq, D.beqs_iff]
def preB : Gp → Gp → Bool
  | [], _ => true
  | _ :: _, [] => false
  | a :: g, b :: g' => O.beq a b && preB g g'
theorem preB_iff : ∀ g g' : Gp, preB g g' = true ↔ Pre g g'
  | [], g' => by simp [preB, Pre]
  | a :: g, [] => by
    simp only [preB, Bool.false_eq_true, false_iff]
    intro h
    have := h 0 a rfl
    simp at this
  | a :: g, b :: g' => by
    simp only [preB, Bool.and_eq_true, O.beq_iff, preB_iff g g']
    constructor
    · rintro ⟨rfl, h⟩ i o e
      cases i with
      | zero => exact e
      | succ i => exact h i o e
    · intro h
      have h0 := h 0 a rfl
      simp at h0
      exact ⟨h0.symm, fun i o e => by simpa using h (i + 1) o (by simpa using e)⟩
instance (g g' : Gp) : Decidable (Pre g g') := decidable_of_iff _ (preB_iff g g')
/-- what a call leaves: new things that nobody can reach are forgotten -/
noncomputable def gc (g : Gp) : R D → R D
  | .ok d g' => if Pre g g' ∧ d.under g.length = true then .ok d g else match d with
    | .ref r => match g'[r]? with
      | some (.lst ds) => if Pre g g' ∧ g.length ≤ r ∧ D.unders g.length ds = true then .ok (.ref g.length) (g ++ [.lst ds]) else .ok d g'
      | _ => .ok d g'
    | _ => .ok d g'
  | .exc c d g' => if Pre g g' ∧ d.under g.length = true then .exc c d g else .exc c d g'
  | .bad => .bad
theorem gc_val {g g' : Gp} {d : D} (h : Pre g g') (u : d.under g.length = true) : gc g (.ok d g') = .ok d g := if_pos ⟨h, u⟩
theorem gc_lst {g g' : Gp} {r : Nat} {ds : List D} (h : Pre g g') (hr : g.length ≤ r) (e : g'[r]? = some (.lst ds)) (u : D.unders g.length ds = true) : gc g (.ok (.ref r) g') = .ok (.ref g.length) (g ++ [.lst ds]) := by
  have n : ¬ (Pre g g' ∧ (D.ref r).under g.length = true) := fun z => by
    have := of_decide_eq_true (show decide (r < g.length) = true from z.2)
    omega
  simp only [gc, e]
  rw [if_neg n, if_pos ⟨h, hr, u⟩]
def fin : F → R D
  | .nx _ g => .ok .non g
  | .rt d g => .ok d g
  | .exc c d g => .exc c d g
  | _ => .bad
def slots (n : Nat) (ds : List D) : Sl := ds.map some ++ List.replicate (n - ds.length) none
noncomputable def mFun (n : Nat) (b : MS) : MF := fun ds g => gc g (fin (b (slots n ds) g))
section
variable {K : PySem.W.Frag} {mg : Str → Option Value} {W : Wt} {ρ ρ1 : List Addr} {H H1 : Hp} {g g1 : Gp}
theorem gc_sound {d : D} {v : V} {Q : VK} (hg : RG K mg ρ g H) (st : Step ρ H ρ1 H1) (hg1 : RG K mg ρ1 g1 H1) (rv : RV K ρ1 H1 d v) (h : out K mg (RV K) W (gc g (.ok d g1)) ρ H Q) : Q v H1 := by
  have back : ∀ (i : Nat) (a : Addr), i < g.length → ρ1[i]? = some a → ρ[i]? = some a := fun i a hi e => by
    have : i < ρ.length := by rw [hg.len]; exact hi
    obtain ⟨c, hc⟩ : ∃ c, ρ[i]? = some c := ⟨_, List.getElem?_eq_getElem this⟩
    have := st.pre i c hc
    rw [this] at e; cases e; exact hc
  unfold gc at h
  dsimp only at h
  split at h
  · rename_i c
    exact h ρ H1 v st.cut (hg.cut st hg1 c.1) (rv.strip back c.2)
  · split at h
    · rename_i _ r
      split at h
      · rename_i ds e
        split at h
        · rename_i c
          obtain ⟨a, ha, rfl⟩ := rv.ref_inv
          obtain ⟨ws, hl, rs⟩ := hg1.lst e ha
          have hc := hg.cut st hg1 c.1
          have nin : ∀ i b, ρ[i]? = some b → b ≠ a := fun i b e1 z => by
            subst z
            have h1 := hg1.inj i _ _ (st.pre i _ e1) ha
            have h2 := (List.getElem?_eq_some_iff.mp e1).1
            rw [hg.len] at h2
            omega
          have st' : Step ρ H1 (ρ ++ [a]) H1 := ⟨fun i b e1 => by rw [List.getElem?_append_left (List.getElem?_eq_some_iff.mp e1).1]; exact e1, fun _ _ z => z, fun _ _ _ z => z⟩
          refine h (ρ ++ [a]) H1 _ (st.cut.trans st') ⟨by simp [hg.len], fun i j b e1 e2 => ?_, fun i o b e1 e2 => ?_⟩ (.ref (by rw [← hg.len]; exact get_app))
          · rcases get_snoc e1 with ⟨_, e1⟩ | ⟨e1, z⟩
            · rcases get_snoc e2 with ⟨_, e2⟩ | ⟨e2, z⟩
              · exact hg.inj i j b e1 e2
              · exact absurd z (nin _ _ e1)
            · rcases get_snoc e2 with ⟨_, e2⟩ | ⟨e2, z'⟩
              · exact absurd z (nin _ _ e2)
              · rw [e1, e2]
          · rcases get_snoc e1 with ⟨hl', e3⟩ | ⟨e3, z⟩
            · rw [List.getElem?_append_left (by rw [hg.len]; exact hl')] at e2
              exact (hc.obj i o b e3 e2).mono st' rfl
            · subst z
              rw [e3, ← hg.len, get_app] at e2
              cases e2
              exact .lst hl ((rs.strip back c.2.2).mono st')
        · exact h ρ1 H1 v st hg1 rv
      · exact h ρ1 H1 v st hg1 rv
    · exact h ρ1 H1 v st hg1 rv
theorem gc_soundE {c : Str} {d : D} {v : V} {Q : VK} (hg : RG K mg ρ g H) (st : Step ρ H ρ1 H1) (hg1 : RG K mg ρ1 g1 H1) (rv : RV K ρ1 H1 d v) (h : out K mg (RV K) W (gc g (.exc c d g1)) ρ H Q) : W c v H1 := by
  have back : ∀ (i : Nat) (a : Addr), i < g.length → ρ1[i]? = some a → ρ[i]? = some a := fun i a hi e => by
    have : i < ρ.length := by rw [hg.len]; exact hi
    obtain ⟨c, hc⟩ : ∃ c, ρ[i]? = some c := ⟨_, List.getElem?_eq_getElem this⟩
    have := st.pre i c hc
    rw [this] at e; cases e; exact hc
  unfold gc at h
  dsimp only at h
  split at h
  · rename_i c
    exact h ρ H1 v st.cut (hg.cut st hg1 c.1) (rv.strip back c.2)
  · exact h ρ1 H1 v st hg1 rv
theorem rs_start {N : List Str} {ds : List D} {vs : List V} (r : RVs K ρ H ds vs) : RS K ρ H (slots N.length ds) (L2.start N vs) := by
  refine ⟨by simp [slots, L2.start, r.length], fun i d e => ?_⟩
  unfold slots at e
  unfold L2.start
  by_cases hi : i < ds.length
  · rw [List.getElem?_append_left (by simpa using hi), List.getElem?_map] at e
    have hd : ds[i]? = some d := by
      cases h : ds[i]? with
      | none => rw [h] at e; cases e
      | some x => rw [h] at e; cases e; rfl
    obtain ⟨v, h1, h2⟩ := r.get hd
    refine ⟨v, ?_, h2⟩
    rw [List.getElem?_append_left (by rw [List.length_map, ← r.length]; exact hi), List.getElem?_map, h1]
    rfl
  · rw [List.getElem?_append_right (by simpa using hi), List.getElem?_replicate] at e
    split at e <;> cases e
end

/-- the context of a def's body, no exception leaving it -/
abbrev cx0 (P : Program) (w : World) (K : PySem.W.Frag) (mg : Str → Option Value) (base : Heap) (N : List Str) (qual : Str) (sc : Scope) (f : Addr) (cd : Value) (A : Around) (outer : List Env) (s : Shared) (H : Hp) (E : XK) : Cx :=
  (L2.cxOf L2.CX0 P w K mg base N qual sc f cd A outer s H E).nox
theorem fn_ok0 {P : Program} {w : World} {K : PySem.W.Frag} {mg : Str → Option Value} {base : Heap} {x qual : Str} {st : Stmt} {f : Addr} {fd : FuncData} {N ps : List Str} {k : Nat} {mb : MS} (Fx : Fun K x qual st f fd) (S : FnScope N ps (defScope st))
    (hb : ∀ (cdv : Value) (A : Around) (outer : List Env) (s : Shared) (H : Hp) (E : XK), Room k (A.deeper (envOfC qual (defScope st) s.heap.objs.size f cdv)) → PSs (cx0 P w K mg base N qual (defScope st) f cdv A outer s H E) (defBody st) (rdS K mg w0 mb)) :
    FnOk P w K mg base L2.CX0 (k + 1) f fd ps (spD K mg ps.length (mFun N.length mb) fun _ => w0) := by
  refine Fx.ok S (fun vs H Q E h => h.1) fun cdv A outer s H vs Q E hr h => ⟨_, hb cdv A outer s H E hr, ?_⟩
  obtain ⟨hl, ρ, g, ds, rv, hg, h⟩ := h
  refine ⟨ρ, g, slots N.length ds, rs_start rv, hg, ?_⟩
  unfold mFun at h
  cases e : mb (slots N.length ds) g with
  | nx s1 g1 => rw [e] at h; exact fun ρ1 H1 σ1 st1 hg1 hs1 => gc_sound hg st1 hg1 .non h
  | rt d g1 => rw [e] at h; exact fun ρ1 H1 v st1 hg1 rv1 => gc_sound hg st1 hg1 rv1 h
  | exc c d g1 => rw [e] at h; exact fun ρ1 H1 v st1 hg1 rv1 => gc_soundE hg st1 hg1 rv1 h
  | bk s1 g1 => rw [e] at h; exact h.elim
  | ct s1 g1 => rw [e] at h; exact h.elim
  | bad => rw [e] at h; exact h.elim
end Sim

end
section
set_option maxRecDepth 100000
set_option maxHeartbeats 1000000
/-! Sim4: operations by values. -/
namespace Sim
open PySem PySem.Spec PyProof.Rows L2

/-! ### plain data -/
mutual
def toP0 : D → Option PyData
  | .non => some .none
  | .bl b => some (.bool b)
  | .int i => some (.int i)
  | .str x => some (.str x)
  | .tup ds => (toPs0 ds).map .tuple
  | .rom ds => (toPs0 ds).map .list
  | .ty _ => none
  | .ref _ => none
def toPs0 : List D → Option (List PyData)
  | [] => some []
  | d :: ds => match toP0 d, toPs0 ds with
    | some x, some xs => some (x :: xs)
    | _, _ => none
end
def toP1 (g : Gp) : D → Option PyData
  | .ref i => match g[i]? with
    | some (.lst ds) => (toPs0 ds).map .list
    | _ => none
  | d => toP0 d
section
variable {K : PySem.W.Frag} {mg : Str → Option Value} {ρ : List Addr} {H : Hp} {g : Gp}
mutual
theorem dp_of0 : ∀ {d : D} {v : V} {p : PyData}, RV K ρ H d v → toP0 d = some p → Dp K H v p
  | _, _, _, .non, e => by cases e; exact .non
  | _, _, _, .bl b, e => by cases e; exact .bl b
  | _, _, _, .int i, e => by cases e; exact .int i
  | _, _, _, .str x, e => by cases e; exact .str x
  | _, _, _, .tup h r, e => by
    rw [toP0, Option.map_eq_some_iff] at e
    obtain ⟨ps, e1, rfl⟩ := e
    exact .tup h (dps_of0 r e1)
  | _, _, _, .rom h r, e => by
    rw [toP0, Option.map_eq_some_iff] at e
    obtain ⟨ps, e1, rfl⟩ := e
    exact .lst h.sq (dps_of0 r e1)
theorem dps_of0 : ∀ {ds : List D} {vs : List V} {ps : List PyData}, RVs K ρ H ds vs → toPs0 ds = some ps → DpAll K H vs ps
  | _, _, _, .nil, e => by cases e; exact .nil
  | _, _, _, .cons h r, e => by
    rw [toPs0] at e
    split at e
    · rename_i x xs e1 e2
      cases e
      exact .cons (dp_of0 h e1) (dps_of0 r e2)
    · cases e
end
theorem dp_of1 (hg : RG K mg ρ g H) {d : D} {v : V} {p : PyData} (r : RV K ρ H d v) (e : toP1 g d = some p) : Dp K H v p := by
  cases d with
  | ref i =>
    rw [toP1] at e
    split at e
    · rename_i ds e0
      rw [Option.map_eq_some_iff] at e
      obtain ⟨ps, e1, rfl⟩ := e
      obtain ⟨a, ha, rfl⟩ := r.ref_inv
      obtain ⟨vs, hl, rs⟩ := hg.lst e0 ha
      exact .lst (.of hl) (dps_of0 rs e1)
    · cases e
  | non => exact dp_of0 r e
  | bl b => exact dp_of0 r e
  | int i => exact dp_of0 r e
  | str x => exact dp_of0 r e
  | ty n => exact dp_of0 r e
  | tup ds => exact dp_of0 r e
  | rom ds => exact dp_of0 r e
end

/-! ### the order of data -/
def opN (op : CmpOp) (a b : Nat) : Bool := match op with
  | .Lt => decide (a < b)
  | .LtE => decide (a ≤ b)
  | .Gt => decide (b < a)
  | .GtE => decide (b ≤ a)
  | _ => false
def ltZ (a b : Int) : Bool := match Int.sub a b with
  | .ofNat _ => false
  | .negSucc _ => true
def leZ (a b : Int) : Bool := match Int.sub b a with
  | .ofNat _ => true
  | .negSucc _ => false
theorem ltZ_eq (a b : Int) : ltZ a b = decide (a < b) := by
  unfold ltZ
  have e : Int.sub a b = a - b := rfl
  split
  · rename_i n h
    have : ¬ a < b := by rw [e] at h; have : (0 : Int) ≤ Int.ofNat n := Int.natCast_nonneg n; omega
    simp [this]
  · rename_i n h
    have : a < b := by rw [e] at h; have : Int.negSucc n < 0 := Int.negSucc_lt_zero n; omega
    simp [this]
theorem leZ_eq (a b : Int) : leZ a b = decide (a ≤ b) := by
  unfold leZ
  have e : Int.sub b a = b - a := rfl
  split
  · rename_i n h
    have : a ≤ b := by rw [e] at h; have : (0 : Int) ≤ Int.ofNat n := Int.natCast_nonneg n; omega
    simp [this]
  · rename_i n h
    have : ¬ a ≤ b := by rw [e] at h; have : Int.negSucc n < 0 := Int.negSucc_lt_zero n; omega
    simp [this]
def opI (op : CmpOp) (a b : Int) : Bool := match op with
  | .Lt => ltZ a b
  | .LtE => leZ a b
  | .Gt => ltZ b a
  | .GtE => leZ b a
  | _ => false
def opX (op : CmpOp) (a b : Str) : Bool := match op with
  | .Lt => decide (a.cps.toList < b.cps.toList)
  | .LtE => !decide (b.cps.toList < a.cps.toList)
  | .Gt => decide (b.cps.toList < a.cps.toList)
  | .GtE => !decide (a.cps.toList < b.cps.toList)
  | _ => false
def isOrd : CmpOp → Bool
  | .Lt => true | .LtE => true | .Gt => true | .GtE => true | _ => false
mutual
def cmpP (op : CmpOp) : PyData → PyData → Bool
  | .int i, .int j => opI op i j
  | .str x, .str y => opX op x y
  | .tuple xs, .tuple ys => cmpL op xs ys
  | _, _ => false
def cmpL (op : CmpOp) : List PyData → List PyData → Bool
  | x :: xs, y :: ys => if PyData.eqv x y = true then cmpL op xs ys else cmpP op x y
  | xs, ys => opN op xs.length ys.length
end
mutual
def cmpOk : PyData → PyData → Bool
  | .int _, .int _ => true
  | .str _, .str _ => true
  | .tuple xs, .tuple ys => cmpOks xs ys
  | _, _ => false
def cmpOks : List PyData → List PyData → Bool
  | x :: xs, y :: ys => (PyData.eqv x y || cmpOk x y) && cmpOks xs ys
  | _, _ => true
end
def xsAt (xs : List PyData) (j : Nat) : PyData := xs.getD j .none
theorem lexAt_shift {e r : Nat → Bool} {z : Bool} : ∀ {k i : Nat}, Ob.lexAt e r z (i + 1) k = Ob.lexAt (fun j => e (j + 1)) (fun j => r (j + 1)) z i k
  | 0, _ => rfl
  | k + 1, i => by
    rw [Ob.lexAt_succ, Ob.lexAt_succ, lexAt_shift]
theorem lexAt_cmpL (op : CmpOp) : ∀ (xs ys : List PyData) (n m : Nat), (∀ k, opN op (n + k) (m + k) = opN op n m) → True := fun _ _ _ _ _ => trivial
theorem opN_add (op : CmpOp) (n m k : Nat) : opN op (n + k) (m + k) = opN op n m := by
  cases op <;> simp [opN]
theorem lexAt_eq (op : CmpOp) : ∀ (xs ys : List PyData) (k : Nat),
    Ob.lexAt (fun j => PyData.eqv (xsAt xs j) (xsAt ys j)) (fun j => cmpP op (xsAt xs j) (xsAt ys j)) (opN op (xs.length + k) (ys.length + k)) 0 (min xs.length ys.length) = cmpL op xs ys
  | [], [], k => by rw [opN_add]; simp [Ob.lexAt, cmpL]
  | [], y :: ys, k => by rw [opN_add]; simp [Ob.lexAt, cmpL]
  | x :: xs, [], k => by rw [opN_add]; simp [Ob.lexAt, cmpL]
  | x :: xs, y :: ys, k => by
    have e : min (x :: xs).length (y :: ys).length = min xs.length ys.length + 1 := by rw [List.length_cons, List.length_cons]; omega
    rw [e, Ob.lexAt_succ, lexAt_shift]
    have h := lexAt_eq op xs ys (k + 1)
    have e2 : (x :: xs).length + k = xs.length + (k + 1) := by rw [List.length_cons]; omega
    have e3 : (y :: ys).length + k = ys.length + (k + 1) := by rw [List.length_cons]; omega
    rw [e2, e3, cmpL]
    simp only [xsAt, List.getD_cons_zero, List.getD_cons_succ] at h ⊢
    rw [h]
theorem readsAll_len {h : Heap} : ∀ {vs : List Value} {ds : List PyData} {as : List Addr}, ReadsAll h vs ds as → vs.length = ds.length
  | _, _, _, .nil => rfl
  | _, _, _, .cons _ r => by simp [readsAll_len r]
theorem rc_tuples {A : Around} {s : Shared} {l b : Addr} {items items2 : Array Value} {e r : Nat → Bool} (op : CmpOp) (ho : isOrd op = true) (hl : s.heap.IsTuple l items) (hb : s.heap.IsTuple b items2) (hu : A.units < cLine)
    (he : ∀ j (h1 : j < items.size) (h2 : j < items2.size), SeqAt.EqAt A.in1 s items[j] items2[j] (e j))
    (hr : ∀ j (h1 : j < items.size) (h2 : j < items2.size), e j = false → Ob.RcOp op A.in1 s items[j] items2[j] (r j)) :
    Ob.RcOp op A s (.ref l) (.ref b) (Ob.lexAt e r (opN op items.size items2.size) 0 (min items.size items2.size)) := by
  cases op with
  | Lt => exact Ob.RcOp.tuples_lt hl hb hu he hr
  | LtE => exact Ob.RcOp.tuples_le hl hb hu he hr
  | Gt => exact Ob.RcOp.tuples_gt hl hb hu he hr
  | GtE => exact Ob.RcOp.tuples_ge hl hb hu he hr
  | _ => exact absurd ho (by decide)
theorem rc_int {A : Around} {s : Shared} {x y : Int} {t u : Tok} (op : CmpOp) (ho : isOrd op = true) : Ob.RcOp op A s (.int x t) (.int y u) (opI op x y) := by
  cases op with
  | Lt => show Ob.RcOp _ A s _ _ (ltZ x y); rw [ltZ_eq]; exact Ob.RcOp.lt_int _ _ _ _
  | LtE => show Ob.RcOp _ A s _ _ (leZ x y); rw [leZ_eq]; exact Ob.RcOp.le_int _ _ _ _
  | Gt => show Ob.RcOp _ A s _ _ (ltZ y x); rw [ltZ_eq]; exact Ob.RcOp.gt_int _ _ _ _
  | GtE => show Ob.RcOp _ A s _ _ (leZ y x); rw [leZ_eq]; exact Ob.RcOp.ge_int _ _ _ _
  | _ => exact absurd ho (by decide)
theorem rc_str {A : Around} {s : Shared} {x y : Str} {t u : Tok} (op : CmpOp) (ho : isOrd op = true) : Ob.RcOp op A s (.str x t) (.str y u) (opX op x y) := by
  cases op with
  | Lt => exact fun _ _ _ _ h => lt_str h
  | LtE => exact fun _ _ _ _ h => PySem.P.le_str h
  | Gt => exact fun _ _ _ _ h => PySem.P.gt_str h
  | GtE => exact fun _ _ _ _ h => PySem.P.ge_str h
  | _ => exact absurd ho (by decide)
theorem cmpP_int (op : CmpOp) (x y : Int) : cmpP op (.int x) (.int y) = opI op x y := by rw [cmpP]
theorem cmpP_str (op : CmpOp) (x y : Str) : cmpP op (.str x) (.str y) = opX op x y := by rw [cmpP]
theorem cmpP_tup (op : CmpOp) (x y : List PyData) : cmpP op (.tuple x) (.tuple y) = cmpL op x y := by rw [cmpP]
theorem cmpOk_none (p : PyData) : cmpOk .none p = false := by cases p <;> simp [cmpOk]
theorem cmpOk_bool (b : Bool) (p : PyData) : cmpOk (.bool b) p = false := by cases p <;> simp [cmpOk]
theorem cmpOk_list (b : List PyData) (p : PyData) : cmpOk (.list b) p = false := by cases p <;> simp [cmpOk]
theorem cmpOk_dict (b : List (PyData × PyData)) (p : PyData) : cmpOk (.dict b) p = false := by cases p <;> simp [cmpOk]
mutual
theorem rc_reads (op : CmpOp) (ho : isOrd op = true) : ∀ (da db : PyData) (A : Around) (s : Shared) (a b : Value) (as bs : List Addr), Reads s.heap a da as → Reads s.heap b db bs → da.canLay0 = true → db.canLay0 = true → cmpOk da db = true →
    A.units + min da.depth db.depth < cLine → Ob.RcOp op A s a b (cmpP op da db)
  | .none, db, _, _, _, _, _, _, _, _, _, _, hk, _ => by rw [cmpOk_none] at hk; cases hk
  | .bool b, db, _, _, _, _, _, _, _, _, _, _, hk, _ => by rw [cmpOk_bool] at hk; cases hk
  | .list b, db, _, _, _, _, _, _, _, _, _, _, hk, _ => by rw [cmpOk_list] at hk; cases hk
  | .dict b, db, _, _, _, _, _, _, _, _, _, _, hk, _ => by rw [cmpOk_dict] at hk; cases hk
  | .int x, db, A, s, _, _, _, _, ra, rb, _, _, hk, _ => by
    cases ra with
    | int _ t => cases rb with
      | int _ u => rw [cmpP_int]; exact rc_int op ho
      | _ => simp [cmpOk] at hk
  | .str x, db, A, s, _, _, _, _, ra, rb, _, _, hk, _ => by
    cases ra with
    | str _ t => cases rb with
      | str _ u => rw [cmpP_str]; exact rc_str op ho
      | _ => simp [cmpOk] at hk
  | .tuple xs, db, A, s, _, _, _, _, ra, rb, ha, hb, hk, hu => by
    cases ra with
    | tuple h1 h2 h3 h4 => cases rb with
      | tuple k1 k2 k3 k4 =>
        rename_i l o vs n l' o' vs' n' ys
        rw [cmpP_tup]
        have hk' : cmpOks xs ys = true := by simpa [cmpOk] using hk
        have hl : s.heap.IsTuple l vs := ⟨_, h1, h2, _, h3⟩
        have hl' : s.heap.IsTuple l' vs' := ⟨_, k1, k2, _, k3⟩
        have n1 : vs.size = xs.length := by rw [← Array.length_toList]; exact readsAll_len h4
        have n2 : vs'.size = ys.length := by rw [← Array.length_toList]; exact readsAll_len k4
        have R := rc_tuples (A := A) (e := fun j => PyData.eqv (xsAt xs j) (xsAt ys j)) (r := fun j => cmpP op (xsAt xs j) (xsAt ys j)) op ho hl hl' (SeqAt.room_here hu) (fun j j1 j2 => by
          have := SeqAt.eqAt_readsAll xs ys A.in1 s vs.toList vs'.toList _ _ h4 k4 ha hb (SeqAt.room_in hu) j (by simpa using j1) (by simpa using j2)
          have q : SeqAt.pairEq xs ys j = PyData.eqv (xsAt xs j) (xsAt ys j) := by
            simp [SeqAt.pairEq, xsAt, List.getD_eq_getElem?_getD, List.getElem?_eq_getElem (show j < xs.length by omega), List.getElem?_eq_getElem (show j < ys.length by omega)]
          rw [q] at this
          simpa using this) (fun j j1 j2 ne => by
          have := rc_readsAll op ho xs ys A.in1 s vs.toList vs'.toList _ _ h4 k4 ha hb hk' (SeqAt.room_in hu) j (by simpa using j1) (by simpa using j2) ne
          simpa using this)
        have e := lexAt_eq op xs ys 0
        rw [Nat.add_zero, Nat.add_zero] at e
        rw [n1, n2, e] at R
        exact R
      | _ => simp [cmpOk] at hk
theorem rc_readsAll (op : CmpOp) (ho : isOrd op = true) : ∀ (xs ys : List PyData) (A : Around) (s : Shared) (vs ws : List Value) (as bs : List Addr), ReadsAll s.heap vs xs as → ReadsAll s.heap ws ys bs → PyData.canLayAll0 xs = true → PyData.canLayAll0 ys = true → cmpOks xs ys = true →
    A.units + min (PyData.depthAll xs) (PyData.depthAll ys) < cLine → ∀ j (h1 : j < vs.length) (h2 : j < ws.length), PyData.eqv (xsAt xs j) (xsAt ys j) = false → Ob.RcOp op A s vs[j] ws[j] (cmpP op (xsAt xs j) (xsAt ys j))
  | [], _, A, s, _, _, _, _, ra, rb, _, _, _, _, j, h1, h2, _ => by cases ra; exact absurd h1 (by simp)
  | x :: xs, yys, A, s, _, _, _, _, ra, rb, ha, hb, hk, hu, j, h1, h2, ne => by
    cases ra with
    | cons r rs => cases rb with
      | nil => exact absurd h2 (by simp)
      | @cons v' vs' y ys as' bs' r' rs' =>
        have ha' : x.canLay0 = true ∧ PyData.canLayAll0 xs = true := by simpa [PyData.canLayAll0] using ha
        have hb' : y.canLay0 = true ∧ PyData.canLayAll0 ys = true := by simpa [PyData.canLayAll0] using hb
        have hk' : (PyData.eqv x y || cmpOk x y) = true ∧ cmpOks xs ys = true := by simpa [cmpOks] using hk
        cases j with
        | zero =>
          have hc : cmpOk x y = true := by
            have ne' : PyData.eqv x y = false := by simpa [xsAt] using ne
            simpa [ne'] using hk'.1
          exact rc_reads op ho x y A s _ _ _ _ r r' ha'.1 hb'.1 hc (SeqAt.room_head hu)
        | succ j => exact rc_readsAll op ho xs ys A s _ _ _ _ rs rs' ha'.2 hb'.2 hk'.2 (SeqAt.room_tail hu) j (Nat.lt_of_succ_lt_succ h1) (Nat.lt_of_succ_lt_succ h2) (by simpa [xsAt] using ne)
end

/-! ### == != < <= > >= is -/
def eqD (x y : D) (g : Gp) : R D := match x, y with
  | .int i, .int j => .ok (.bl (decide (i = j))) g
  | .str i, .str j => .ok (.bl (decide (i = j))) g
  | .bl i, .bl j => .ok (.bl (decide (i = j))) g
  | x, y => match toP1 g x, toP1 g y with
    | some d, some e => if SeqAt.shaped d = true ∧ SeqAt.shaped e = true then .ok (.bl (PyData.eqv d e)) g else .bad
    | _, _ => .bad
def neD (x y : D) (g : Gp) : R D := match x, y with
  | .int i, .int j => .ok (.bl (!decide (i = j))) g
  | .str i, .str j => .ok (.bl (!decide (i = j))) g
  | .bl i, .bl j => .ok (.bl (!decide (i = j))) g
  | x, y => match toP1 g x, toP1 g y with
    | some d, some e => if SeqAt.shaped d = true ∧ SeqAt.shaped e = true then .ok (.bl (!PyData.eqv d e)) g else .bad
    | _, _ => .bad
def cmpD (op : CmpOp) (x y : D) (g : Gp) : R D := match x, y with
  | .int i, .int j => .ok (.bl (opI op i j)) g
  | x, y => match toP1 g x, toP1 g y with
    | some d, some e => if SeqAt.shaped d = true ∧ SeqAt.shaped e = true ∧ cmpOk d e = true then .ok (.bl (cmpP op d e)) g else .bad
    | _, _ => .bad
def isD (x y : D) (g : Gp) : R D := match y with
  | .non => match x with
    | .non => .ok (.bl true) g
    | _ => .ok (.bl false) g
  | _ => .bad
def isNotD (x y : D) (g : Gp) : R D := match y with
  | .non => match x with
    | .non => .ok (.bl false) g
    | _ => .ok (.bl true) g
  | _ => .bad
section
variable {X : Cx} {W : Wt}
theorem now_bl {K : PySem.W.Frag} {mg : Str → Option Value} {ρ : List Addr} {H : Hp} {g : Gp} {Q : VK} {b : Bool} (hg : RG K mg ρ g H) (h : out K mg (RV K) W (.ok (.bl b) g) ρ H Q) : Q (.bl b) H := out.now (R1 := RV K) h hg (.bl b)
theorem now_int {K : PySem.W.Frag} {mg : Str → Option Value} {ρ : List Addr} {H : Hp} {g : Gp} {Q : VK} {b : Int} (hg : RG K mg ρ g H) (h : out K mg (RV K) W (.ok (.int b) g) ρ H Q) : Q (.int b) H := out.now (R1 := RV K) h hg (.int b)
theorem now_str {K : PySem.W.Frag} {mg : Str → Option Value} {ρ : List Addr} {H : Hp} {g : Gp} {Q : VK} {b : Str} (hg : RG K mg ρ g H) (h : out K mg (RV K) W (.ok (.str b) g) ρ H Q) : Q (.str b) H := out.now (R1 := RV K) h hg (.str b)
theorem o_eq (hu : X.A.units + 64 < cLine) : OpS X W (compareOp .Eq) eqD := opr_imp (OpR.or op_eq (op_eqD hu)) fun x y H Q ⟨ρ, g, d, e, rd, re, hg, h⟩ => by
  unfold eqD at h
  split at h
  · cases rd; cases re; left; exact ⟨rfl, by have := now_bl hg h; simpa using this⟩
  · cases rd; cases re; left; exact ⟨rfl, by have := now_bl hg h; simpa using this⟩
  · cases rd; cases re; left; exact ⟨rfl, by have := now_bl hg h; simpa using this⟩
  · right
    split at h
    · rename_i p q e1 e2
      split at h
      · rename_i c
        exact ⟨p, q, dp_of1 hg rd e1, dp_of1 hg re e2, c.1, c.2, now_bl hg h⟩
      · exact h.elim
    · exact h.elim
theorem o_ne (hu : X.A.units + 64 < cLine) : OpS X W (compareOp .NotEq) neD := opr_imp (OpR.or op_ne (op_neD hu)) fun x y H Q ⟨ρ, g, d, e, rd, re, hg, h⟩ => by
  unfold neD at h
  split at h
  · cases rd; cases re; left; exact ⟨rfl, by have := now_bl hg h; simpa using this⟩
  · cases rd; cases re; left; exact ⟨rfl, by have := now_bl hg h; simpa using this⟩
  · cases rd; cases re; left; exact ⟨rfl, by have := now_bl hg h; simpa using this⟩
  · right
    split at h
    · rename_i p q e1 e2
      split at h
      · rename_i c
        exact ⟨p, q, dp_of1 hg rd e1, dp_of1 hg re e2, c.1, c.2, now_bl hg h⟩
      · exact h.elim
    · exact h.elim
theorem o_cmp (op : CmpOp) (ho : isOrd op = true) (hu : X.A.units + 64 < cLine) : OpS X W (compareOp op) (cmpD op) := by
  intro pins s σ H x y v u Q I rx ry ⟨ρ, g, d, e, rd, re, hg, h⟩
  have core : ∀ p q, Dp X.K H x p → Dp X.K H y q → SeqAt.shaped p = true → SeqAt.shaped q = true → cmpOk p q = true → Q (.bl (cmpP op p q)) H → wpAny (model X.prog X.w) X.A (compareOp op v u) (EP X pins σ Q) X.xe s := by
    intro p q hp hq sp sq c k
    obtain ⟨as, r1⟩ := Dp.reads I p x v hp rx
    obtain ⟨bs, r2⟩ := Dp.reads I q y u hq ry
    have R := rc_reads op ho p q X.A s v u as bs r1 r2 (SeqAt.canLay_of_shaped sp) (SeqAt.canLay_of_shaped sq) c (SeqAt.room_of_shaped sp hu)
    have z := R X.prog X.w X.xe (EP X pins σ Q) ⟨.bl _, H, I, rfl, k⟩
    cases op with
    | Lt => exact z
    | LtE => exact z
    | Gt => exact z
    | GtE => exact z
    | _ => exact absurd ho (by decide)
  unfold cmpD at h
  split at h
  · cases rd; cases re
    exact core (.int _) (.int _) (.int _) (.int _) rfl rfl rfl (now_bl hg h)
  · split at h
    · rename_i p q e1 e2
      split at h
      · rename_i c
        exact core p q (dp_of1 hg rd e1) (dp_of1 hg re e2) c.1 c.2.1 c.2.2 (now_bl hg h)
      · exact h.elim
    · exact h.elim
theorem o_is : OpS X W (compareOp .Is) isD := opr_imp op_isN fun x y H Q ⟨ρ, g, d, e, rd, re, hg, h⟩ => by
  unfold isD at h
  split at h
  · cases re
    refine ⟨rfl, ?_⟩
    split at h
    · cases rd; exact now_bl hg h
    · rename_i hn
      have : ¬ x = .non := fun z => hn (rd.non_iff.mp z)
      rw [decide_eq_false this]
      exact now_bl hg h
  · exact h.elim
theorem o_isnot : OpS X W (compareOp .IsNot) isNotD := opr_imp op_notN fun x y H Q ⟨ρ, g, d, e, rd, re, hg, h⟩ => by
  unfold isNotD at h
  split at h
  · cases re
    refine ⟨rfl, ?_⟩
    split at h
    · cases rd; exact now_bl hg h
    · rename_i hn
      have : ¬ x = .non := fun z => hn (rd.non_iff.mp z)
      rw [decide_eq_false this]
      exact now_bl hg h
  · exact h.elim
end
end Sim

end
section
set_option maxRecDepth 100000
set_option maxHeartbeats 1000000
/-! Sim5: arithmetic, items, slices, built-ins. -/
namespace Sim
open PySem PySem.Spec PyProof.Rows L2

/-! ### arithmetic -/
def mulOk (i j : Int) : Prop := (-18446744073709551616 < i ∧ i < 18446744073709551616) ∨ (-18446744073709551616 < j ∧ j < 18446744073709551616)
def mulB (i j : Int) : Bool := match Nat.blt i.natAbs 18446744073709551616 with
  | true => true
  | false => Nat.blt j.natAbs 18446744073709551616
theorem mulB_iff (i j : Int) : mulB i j = true ↔ mulOk i j := by
  unfold mulB mulOk
  have h1 : Nat.blt i.natAbs 18446744073709551616 = true ↔ i.natAbs < 18446744073709551616 := by rw [Nat.blt_eq]
  have h2 : Nat.blt j.natAbs 18446744073709551616 = true ↔ j.natAbs < 18446744073709551616 := by rw [Nat.blt_eq]
  split
  · rename_i h
    rw [h1] at h
    simp only [true_iff]
    omega
  · rename_i h
    have h3 : ¬ i.natAbs < 18446744073709551616 := fun z => by rw [h1.mpr z] at h; cases h
    rw [h2]
    omega
instance (i j : Int) : Decidable (mulOk i j) := decidable_of_iff _ (mulB_iff i j)
def divOk (j : Int) : Prop := 0 < j ∧ j < 1073741824
def divB (j : Int) : Bool := match j with
  | .ofNat n => match Nat.blt 0 n with
    | true => Nat.blt n 1073741824
    | false => false
  | .negSucc _ => false
theorem divB_iff (j : Int) : divB j = true ↔ divOk j := by
  unfold divB divOk
  split
  · rename_i n
    have h1 : Nat.blt 0 n = true ↔ 0 < n := by rw [Nat.blt_eq]
    have h2 : Nat.blt n 1073741824 = true ↔ n < 1073741824 := by rw [Nat.blt_eq]
    have e : Int.ofNat n = (n : Int) := rfl
    rw [e]
    split
    · rename_i h
      rw [h1] at h
      rw [h2]
      omega
    · rename_i h
      have h3 : ¬ 0 < n := fun z => by rw [h1.mpr z] at h; cases h
      simp only [Bool.false_eq_true, false_iff]
      omega
  · rename_i n
    have := Int.negSucc_lt_zero n
    simp only [Bool.false_eq_true, false_iff]
    omega
instance (j : Int) : Decidable (divOk j) := decidable_of_iff _ (divB_iff j)
def posOk (j : Int) : Prop := 0 < j
def posB (j : Int) : Bool := match j with
  | .ofNat n => Nat.blt 0 n
  | .negSucc _ => false
theorem posB_iff (j : Int) : posB j = true ↔ posOk j := by
  unfold posB posOk
  split
  · rename_i n
    have h1 : Nat.blt 0 n = true ↔ 0 < n := by rw [Nat.blt_eq]
    have e : Int.ofNat n = (n : Int) := rfl
    rw [e, h1]
    omega
  · rename_i n
    have := Int.negSucc_lt_zero n
    simp only [Bool.false_eq_true, false_iff]
    omega
instance (j : Int) : Decidable (posOk j) := decidable_of_iff _ (posB_iff j)
def atZ {α : Type} (xs : List α) (i : Int) : Option α := match i with
  | .ofNat n => xs[n]?
  | .negSucc n => match Nat.blt n xs.length with
    | true => xs[xs.length - (n + 1)]?
    | false => none
theorem atZ_eq {α : Type} (xs : List α) (i : Int) : atZ xs i = L2.atI xs i := by
  unfold atZ L2.atI L2.ixN
  split
  · rename_i n
    have e : Int.ofNat n = (n : Int) := rfl
    rw [e, if_pos (by omega)]
    by_cases h : n < xs.length
    · rw [if_pos (by omega)]; simp
    · rw [if_neg (by omega), List.getElem?_eq_none (by omega)]; rfl
  · rename_i n
    have e : Int.negSucc n = -((n : Int) + 1) := Int.negSucc_eq n
    have h1 : Nat.blt n xs.length = true ↔ n < xs.length := by rw [Nat.blt_eq]
    rw [e, if_neg (by omega)]
    split
    · rename_i h
      rw [h1] at h
      rw [if_pos (by omega)]
      have : (-((n : Int) + 1) + xs.length).toNat = xs.length - (n + 1) := by omega
      simp [this]
    · rename_i h
      have h3 : ¬ n < xs.length := fun z => by rw [h1.mpr z] at h; cases h
      rw [if_neg (by omega)]; rfl
theorem mulOk.c {i j : Int} (h : mulOk i j) : CMul i j := by
  have e : (2 : Int) ^ 64 = 18446744073709551616 := by decide
  unfold CMul
  rw [e]
  exact h
def addD (x y : D) (g : Gp) : R D := match x, y with
  | .int i, .int j => .ok (.int (i + j)) g
  | .str i, .str j => if i.length + j.length ≤ 1000000 then .ok (.str (i ++ j)) g else .bad
  | .tup xs, .tup ys => if xs.length + ys.length ≤ 1000000 then .ok (.tup (xs ++ ys)) g else .bad
  | .ref a, .ref b => match g[a]?, g[b]? with
    | some (.lst xs), some (.lst ys) => if xs.length + ys.length ≤ 1000000 then .ok (.ref g.length) (g ++ [.lst (xs ++ ys)]) else .bad
    | _, _ => .bad
  | _, _ => .bad
def iaddD (x y : D) (g : Gp) : R D := match x, y with
  | .int i, .int j => .ok (.int (i + j)) g
  | .str i, .str j => if i.length + j.length ≤ 1000000 then .ok (.str (i ++ j)) g else .bad
  | _, _ => .bad
def subD (x y : D) (g : Gp) : R D := match x, y with
  | .int i, .int j => .ok (.int (i - j)) g
  | _, _ => .bad
def repD (k : Nat) (xs : List D) : List D := (List.replicate k xs).flatten
def mulD (x y : D) (g : Gp) : R D := match x, y with
  | .int i, .int j => if mulOk i j then .ok (.int (i * j)) g else .bad
  | .tup xs, .int k => if xs ≠ [] ∧ 2 ≤ k ∧ k ≤ 1000 ∧ xs.length ≤ 1000 then .ok (.tup (repD k.toNat xs)) g else .bad
  | .ref a, .int k => match g[a]? with
    | some (.lst xs) => if -1000000 ≤ k ∧ k ≤ 1000000 ∧ xs.length * k.toNat ≤ 1000000 then .ok (.ref g.length) (g ++ [.lst (repD k.toNat xs)]) else .bad
    | _ => .bad
  | _, _ => .bad
def divD (x y : D) (g : Gp) : R D := match x, y with
  | .int i, .int j => if divOk j then .ok (.int (i / j)) g else .bad
  | _, _ => .bad
def modD (x y : D) (g : Gp) : R D := match x, y with
  | .int i, .int j => if posOk j then .ok (.int (i % j)) g else .bad
  | _, _ => .bad
def powD (x y : D) (g : Gp) : R D := match x, y with
  | .int i, .int j => if 0 ≤ j ∧ j ≤ 1000000 ∧ i.natAbs < 18446744073709551616 then .ok (.int (i ^ j.toNat)) g else .bad
  | _, _ => .bad
def negD (x : D) (g : Gp) : R D := match x with
  | .int i => .ok (.int (-i)) g
  | _ => .bad
theorem ne_len {α β : Type} {xs : List α} {ys : List β} (e : xs.length = ys.length) (h : xs ≠ []) : ys ≠ [] := by
  intro z
  subst z
  exact h (List.eq_nil_of_length_eq_zero e)
section
variable {X : Cx} {W : Wt}
theorem now_tup {K : PySem.W.Frag} {mg : Str → Option Value} {ρ : List Addr} {H : Hp} {g : Gp} {Q : VK} {ds : List D} {vs : List V} {p : Addr} (hg : RG K mg ρ g H) (h : out K mg (RV K) W (.ok (.tup ds) g) ρ H Q) (r : RVs K ρ H ds vs) (hp : H p = none) : Q (.ref p) (upd H p (.tup vs)) :=
  h ρ _ _ (Step.new hp) (hg.new hp) (.tup (.of upd_same) (r.mono (Step.new hp)))
theorem now_lst {K : PySem.W.Frag} {mg : Str → Option Value} {ρ : List Addr} {H : Hp} {g : Gp} {Q : VK} {ds : List D} {vs : List V} {p : Addr} (hg : RG K mg ρ g H) (h : out K mg (RV K) W (.ok (.ref g.length) (g ++ [.lst ds])) ρ H Q) (r : RVs K ρ H ds vs) (hp : H p = none) : Q (.ref p) (upd H p (.lst vs)) :=
  h _ _ _ (Step.add hp) (hg.add hp (.lst upd_same (r.mono (Step.add hp)))) (.ref (by rw [← hg.len]; exact get_app))
theorem o_add : OpS X W (binaryOp .Add) addD := opr_imp (OpR.or op_add (OpR.or op_add_str (OpR.or op_catA op_cat))) fun x y H Q ⟨ρ, g, d, e, rd, re, hg, h⟩ => by
  unfold addD at h
  split at h
  · cases rd; cases re; exact .inl ⟨_, _, rfl, rfl, now_int hg h⟩
  · cases rd; cases re
    split at h
    · rename_i hz
      exact .inr (.inl ⟨_, _, rfl, rfl, sz_lim hz, now_str hg h⟩)
    · exact h.elim
  · split at h
    · rename_i hz
      cases rd with
      | tup ht r => cases re with
        | tup ht' r' =>
          refine .inr (.inr (.inl ⟨_, _, _, _, rfl, rfl, ht, ht', by rw [← r.length, ← r'.length]; exact sz_lim hz, fun e => ?_, fun _ e => ?_, fun _ _ p hp => ?_⟩))
          · subst e
            cases r
            exact out.now (R1 := RV X.K) h hg (.tup ht' r')
          · subst e
            cases r'
            rw [List.append_nil] at h
            exact out.now (R1 := RV X.K) h hg (.tup ht r)
          · exact now_tup hg h (r.append r') hp
    · exact h.elim
  · split at h
    · rename_i xs ys e1 e2
      split at h
      · rename_i hz
        obtain ⟨a, ha, rfl⟩ := rd.ref_inv
        obtain ⟨b, hb, rfl⟩ := re.ref_inv
        obtain ⟨vs, hl, r⟩ := hg.lst e1 ha
        obtain ⟨ws, hl', r'⟩ := hg.lst e2 hb
        exact .inr (.inr (.inr ⟨_, _, _, _, rfl, rfl, hl, hl', by rw [← r.length, ← r'.length]; exact sz_lim hz, fun p hp => now_lst hg h (r.append r') hp⟩))
      · exact h.elim
    · exact h.elim
  · exact h.elim
theorem o_iadd : OpS X W (inplaceOp .Add) iaddD := opr_imp (OpR.or iop_add iop_add_str) fun x y H Q ⟨ρ, g, d, e, rd, re, hg, h⟩ => by
  unfold iaddD at h
  split at h
  · cases rd; cases re; exact .inl ⟨_, _, rfl, rfl, now_int hg h⟩
  · cases rd; cases re
    split at h
    · rename_i hz
      exact .inr ⟨_, _, rfl, rfl, sz_lim hz, now_str hg h⟩
    · exact h.elim
  · exact h.elim
theorem o_sub : OpS X W (binaryOp .Sub) subD := opr_imp op_sub fun x y H Q ⟨ρ, g, d, e, rd, re, hg, h⟩ => by
  unfold subD at h
  split at h
  · cases rd; cases re; exact ⟨_, _, rfl, rfl, now_int hg h⟩
  · exact h.elim
theorem o_isub : OpS X W (inplaceOp .Sub) subD := opr_imp iop_sub fun x y H Q ⟨ρ, g, d, e, rd, re, hg, h⟩ => by
  unfold subD at h
  split at h
  · cases rd; cases re; exact ⟨_, _, rfl, rfl, now_int hg h⟩
  · exact h.elim
theorem o_mul : OpS X W (binaryOp .Mult) mulD := opr_imp (OpR.or op_mul (OpR.or op_repT op_rep)) fun x y H Q ⟨ρ, g, d, e, rd, re, hg, h⟩ => by
  unfold mulD at h
  split at h
  · split at h
    · rename_i hz
      cases rd; cases re; exact .inl ⟨_, _, rfl, rfl, hz.c, now_int hg h⟩
    · exact h.elim
  · split at h
    · rename_i hz
      obtain ⟨h1, h2, h3, h4⟩ := hz
      cases rd with
      | tup ht r =>
        cases re
        exact .inr (.inl ⟨_, _, _, rfl, rfl, ht, ne_len r.length h1, h2, h3, by rw [← r.length]; exact h4, fun p hp => now_tup hg h (r.flat _) hp⟩)
    · exact h.elim
  · split at h
    · rename_i xs e1
      split at h
      · rename_i hz
        obtain ⟨h1, h2, h3⟩ := hz
        obtain ⟨a, ha, rfl⟩ := rd.ref_inv
        cases re
        obtain ⟨vs, hl, r⟩ := hg.lst e1 ha
        exact .inr (.inr ⟨_, _, _, rfl, rfl, hl, by omega, by omega, by rw [← r.length]; exact sz_lim h3, fun p hp => now_lst hg h (r.flat _) hp⟩)
      · exact h.elim
    · exact h.elim
  · exact h.elim
theorem o_div : OpS X W (binaryOp .FloorDiv) divD := opr_imp op_fdiv fun x y H Q ⟨ρ, g, d, e, rd, re, hg, h⟩ => by
  unfold divD at h
  split at h
  · split at h
    · rename_i hz
      cases rd; cases re; exact ⟨_, _, rfl, rfl, hz, now_int hg h⟩
    · exact h.elim
  · exact h.elim
theorem o_mod : OpS X W (binaryOp .Mod) modD := opr_imp op_mod fun x y H Q ⟨ρ, g, d, e, rd, re, hg, h⟩ => by
  unfold modD at h
  split at h
  · split at h
    · rename_i hz
      cases rd; cases re; exact ⟨_, _, rfl, rfl, hz, now_int hg h⟩
    · exact h.elim
  · exact h.elim
theorem o_pow : OpS X W (binaryOp .Pow) powD := opr_imp op_pow fun x y H Q ⟨ρ, g, d, e, rd, re, hg, h⟩ => by
  unfold powD at h
  split at h
  · split at h
    · rename_i hz
      cases rd; cases re; exact ⟨_, _, rfl, rfl, ⟨hz.1, hz.2.1, Nat.lt_of_lt_of_le hz.2.2 (by decide)⟩, now_int hg h⟩
    · exact h.elim
  · exact h.elim
theorem o_neg : UnS X W (unaryOp .USub) negD := unr_imp un_neg fun x H Q ⟨ρ, g, d, rd, hg, h⟩ => by
  unfold negD at h
  split at h
  · cases rd; exact ⟨_, rfl, now_int hg h⟩
  · exact h.elim
end

/-! ### items and slices -/
def ixD (x y : D) (g : Gp) : R D := match x, y with
  | .tup ds, .int i => match atZ ds i with
    | some d => .ok d g
    | none => .bad
  | .rom ds, .int i => match atZ ds i with
    | some d => .ok d g
    | none => .bad
  | .ref a, .int i => match g[a]? with
    | some (.lst ds) => match atZ ds i with
      | some d => .ok d g
      | none => .bad
    | _ => .bad
  | .str z, .int i => if z.length ≤ 1000000 then match atZ z.cps.toList i with
      | some c => .ok (.str ⟨#[c]⟩) g
      | none => .bad
    else .bad
  | _, _ => .bad
theorem RVs.at {K : PySem.W.Frag} {ρ : List Addr} {H : Hp} {ds : List D} {vs : List V} {i : Int} {d : D} (r : RVs K ρ H ds vs) (e : atI ds i = some d) : ∃ v, atI vs i = some v ∧ RV K ρ H d v := by
  unfold atI at e ⊢
  rw [← r.length]
  cases e1 : ixN ds.length i with
  | none => rw [e1] at e; cases e
  | some j =>
    rw [e1] at e
    exact r.get e
def cutD (ds : List D) (lo hi : Option Int) : List D := (ds.drop (HT.sIx ds.length 0 lo)).take (HT.sIx ds.length ds.length hi - HT.sIx ds.length 0 lo)
theorem RVs.cut {K : PySem.W.Frag} {ρ : List Addr} {H : Hp} {ds : List D} {vs : List V} (lo hi : Option Int) (r : RVs K ρ H ds vs) : RVs K ρ H (cutD ds lo hi) (cutV vs lo hi) := by
  unfold cutD cutV
  rw [← r.length]
  exact (r.drop _).take _
def slD (x : D) (lo hi : Option Int) (g : Gp) : R D := match x with
  | .tup ds => .ok (.tup (cutD ds lo hi)) g
  | .rom ds => .ok (.ref g.length) (g ++ [.lst (cutD ds lo hi)])
  | .ref a => match g[a]? with
    | some (.lst ds) => .ok (.ref g.length) (g ++ [.lst (cutD ds lo hi)])
    | _ => .bad
  | .str z => if z.length ≤ 1000000 then .ok (.str (cutS z lo hi)) g else .bad
  | _ => .bad
def mSl (m : ME) (lo hi : MO) : ME := fun s g => (m s g).bind fun x g1 => (lo s g1).bind fun l g2 => (hi s g2).bind fun u g3 => slD x l u g3
def oNone : MO := fun _ g => .ok none g
def oSome (m : ME) : MO := fun s g => (m s g).bind fun x g1 => match x with
  | .int i => .ok (some i) g1
  | _ => .bad
section
variable {X : Cx} {W : Wt} {pos p2 : Pos} {e : Expr} {lo hi : Option Expr} {me : ME} {ml mh : MO}
theorem x_ix : IxS X W ixD := ixr_imp (ixr_or ix_list (ixr_or ix_tup ix_str)) fun x y H Q ⟨ρ, g, d, e, rd, re, hg, h⟩ => by
  unfold ixD at h
  split at h
  · split at h
    · rename_i e1
      rw [atZ_eq] at e1
      cases re
      cases rd with
      | tup ht r =>
        obtain ⟨v, h1, h2⟩ := r.at e1
        exact .inr (.inl ⟨_, _, _, _, rfl, rfl, ht, h1, out.now (R1 := RV X.K) h hg h2⟩)
    · exact h.elim
  · split at h
    · rename_i e1
      rw [atZ_eq] at e1
      cases re
      cases rd with
      | rom ht r =>
        obtain ⟨v, h1, h2⟩ := r.at e1
        exact .inl ⟨_, _, _, _, rfl, rfl, ht.sq, h1, out.now (R1 := RV X.K) h hg h2⟩
    · exact h.elim
  · split at h
    · rename_i ds e0
      split at h
      · rename_i e1
        rw [atZ_eq] at e1
        cases re
        obtain ⟨a, ha, rfl⟩ := rd.ref_inv
        obtain ⟨vs, hl, r⟩ := hg.lst e0 ha
        obtain ⟨v, h1, h2⟩ := r.at e1
        exact .inl ⟨_, _, _, _, rfl, rfl, .of hl, h1, out.now (R1 := RV X.K) h hg h2⟩
      · exact h.elim
    · exact h.elim
  · split at h
    · rename_i hz
      split at h
      · rename_i e1
        rw [atZ_eq] at e1
        cases re
        cases rd
        exact .inr (.inr ⟨_, _, _, rfl, rfl, sz_lim hz, e1, now_str hg h⟩)
      · exact h.elim
    · exact h.elim
  · exact h.elim
theorem p_none : PO X none (rdO X.K X.mg W oNone) := po_imp po_none fun σ H Q ⟨ρ, g, s, hs, hg, h⟩ => out.now (R1 := RelO) h hg rfl
theorem p_some {e : Expr} (h : PE X e (rd X.K X.mg W me)) : PO X (some e) (rdO X.K X.mg W (oSome me)) := po_imp (po_some h) fun σ H Q ⟨ρ, g, s, hs, hg, h⟩ =>
  rd_in hs hg h fun x x' g1 ρ1 H1 st1 hg1 rx hs1 h1 => by
    cases rx with
    | int i => exact ⟨i, rfl, out.now (R1 := RelO) h1 hg1 rfl⟩
    | _ => exact False.elim h1
def rSl (K : PySem.W.Frag) (mg : Str → Option Value) (W : Wt) : V → Option Int → Option Int → Hp → VK → Prop := fun x lo hi H Q => ∃ ρ g d, RV K ρ H d x ∧ RG K mg ρ g H ∧ out K mg (RV K) W (slD d lo hi g) ρ H Q
theorem l_sl : SlR X (rSl X.K X.mg W) := slr_imp (SlR.or sl_list (SlR.or sl_tupA sl_str)) fun x lo hi H Q ⟨ρ, g, d, rd, hg, h⟩ => by
  unfold slD at h
  split at h
  · rename_i ds
    cases rd with
    | tup ht r =>
      refine .inr (.inl ⟨_, _, rfl, ht, fun e => ?_, fun _ p hp => now_tup hg h (r.cut lo hi) hp⟩)
      have : cutD ds lo hi = ds := by
        unfold cutD
        rw [← r.length] at e
        rw [e.1, e.2]
        simp
      rw [this] at h
      exact out.now (R1 := RV X.K) h hg (.tup ht r)
  · cases rd with
    | rom ht r => exact .inl ⟨_, _, rfl, ht.sq, fun p hp => now_lst hg h (r.cut lo hi) hp⟩
  · split at h
    · rename_i ds e0
      obtain ⟨a, ha, rfl⟩ := rd.ref_inv
      obtain ⟨vs, hl, r⟩ := hg.lst e0 ha
      exact .inl ⟨_, _, rfl, .of hl, fun p hp => now_lst hg h (r.cut lo hi) hp⟩
    · exact h.elim
  · split at h
    · rename_i hz
      cases rd
      exact .inr (.inr ⟨_, rfl, sz_lim hz, now_str hg h⟩)
    · exact h.elim
  · exact h.elim
theorem e_slice {e : Expr} (he : PE X e (rd X.K X.mg W me)) (hl : PO X lo (rdO X.K X.mg W ml)) (hu : PO X hi (rdO X.K X.mg W mh)) : PE X (.Subscript e (.Slice lo hi none p2) pos) (rd X.K X.mg W (mSl me ml mh)) :=
  pe_imp (pe_slice l_sl he hl hu) fun σ H Q ⟨ρ, g, s, hs, hg, h⟩ =>
    rd_in hs hg h fun x x' g1 ρ1 H1 st1 hg1 rx hs1 h1 => rd_in (R1 := RelO) hs1 hg1 h1 fun l l' g2 ρ2 H2 st2 hg2 rl hs2 h2 => rd_in (R1 := RelO) hs2 hg2 h2 fun u u' g3 ρ3 H3 st3 hg3 ru hs3 h3 => by
      obtain rfl : l = l' := rl
      obtain rfl : u = u' := ru
      exact ⟨ρ3, g3, x, (rx.mono st2).mono st3, hg3, h3⟩
end

/-! ### lists of one kind -/
def intsD : List D → Option (List Int)
  | [] => some []
  | .int i :: ds => (intsD ds).map (i :: ·)
  | _ => none
def blsD : List D → Option (List Bool)
  | [] => some []
  | .bl i :: ds => (blsD ds).map (i :: ·)
  | _ => none
theorem intsD_map : ∀ (ns : List Int), intsD (ns.map D.int) = some ns
  | [] => rfl
  | n :: ns => by rw [List.map_cons, intsD, intsD_map ns]; rfl
theorem blsD_map : ∀ (ns : List Bool), blsD (ns.map D.bl) = some ns
  | [] => rfl
  | n :: ns => by rw [List.map_cons, blsD, blsD_map ns]; rfl
theorem of_intsD : ∀ {ds : List D} {ns : List Int}, intsD ds = some ns → ds = ns.map D.int
  | [], _, e => by cases e; rfl
  | .int i :: ds, ns, e => by
    rw [intsD, Option.map_eq_some_iff] at e
    obtain ⟨ms, e1, rfl⟩ := e
    rw [of_intsD e1]; rfl
  | .non :: _, _, e => nomatch e
  | .bl _ :: _, _, e => nomatch e
  | .str _ :: _, _, e => nomatch e
  | .ty _ :: _, _, e => nomatch e
  | .tup _ :: _, _, e => nomatch e
  | .rom _ :: _, _, e => nomatch e
  | .ref _ :: _, _, e => nomatch e
theorem of_blsD : ∀ {ds : List D} {ns : List Bool}, blsD ds = some ns → ds = ns.map D.bl
  | [], _, e => by cases e; rfl
  | .bl i :: ds, ns, e => by
    rw [blsD, Option.map_eq_some_iff] at e
    obtain ⟨ms, e1, rfl⟩ := e
    rw [of_blsD e1]; rfl
  | .non :: _, _, e => nomatch e
  | .int _ :: _, _, e => nomatch e
  | .str _ :: _, _, e => nomatch e
  | .ty _ :: _, _, e => nomatch e
  | .tup _ :: _, _, e => nomatch e
  | .rom _ :: _, _, e => nomatch e
  | .ref _ :: _, _, e => nomatch e
/-- the items of a list or a tuple -/
def itemsD (g : Gp) : D → Option (List D)
  | .tup ds => some ds
  | .rom ds => some ds
  | .ref a => match g[a]? with
    | some (.lst ds) => some ds
    | _ => none
  | _ => none
theorem items_sq {K : PySem.W.Frag} {mg : Str → Option Value} {ρ : List Addr} {H : Hp} {g : Gp} {d : D} {v : V} {ds : List D} (hg : RG K mg ρ g H) (r : RV K ρ H d v) (e : itemsD g d = some ds) : ∃ a vs, v = .ref a ∧ (SqL K H a vs ∨ SqT K H a vs) ∧ RVs K ρ H ds vs := by
  cases r with
  | tup h r => cases e; exact ⟨_, _, rfl, .inr h, r⟩
  | rom h r => cases e; exact ⟨_, _, rfl, .inl h.sq, r⟩
  | ref h =>
    rw [itemsD] at e
    split at e
    · rename_i ds' e0
      cases e
      obtain ⟨vs, hl, rs⟩ := hg.lst e0 h
      exact ⟨_, _, rfl, .inl (.of hl), rs⟩
    · cases e
  | _ => cases e

/-! ### built-ins -/
def maxZ : List Int → Int
  | [] => 0
  | x :: xs => xs.foldl (fun m y => if m < y then y else m) x
def minZ : List Int → Int
  | [] => 0
  | x :: xs => xs.foldl (fun m y => if y < m then y else m) x
theorem foldl_max : ∀ (xs : List Int) (x : Int), (xs.foldl (fun m y => if m < y then y else m) x = x ∨ xs.foldl (fun m y => if m < y then y else m) x ∈ xs) ∧ x ≤ xs.foldl (fun m y => if m < y then y else m) x ∧ ∀ y ∈ xs, y ≤ xs.foldl (fun m y => if m < y then y else m) x
  | [], x => ⟨.inl rfl, Int.le_refl _, by simp⟩
  | z :: xs, x => by
    have h := foldl_max xs (if x < z then z else x)
    rw [List.foldl_cons]
    obtain ⟨h1, h2, h3⟩ := h
    refine ⟨?_, ?_, ?_⟩
    · rcases h1 with h1 | h1
      · rw [h1]
        split
        · exact .inr (by simp)
        · exact .inl rfl
      · exact .inr (by simp [h1])
    · exact Int.le_trans (by split <;> omega : x ≤ if x < z then z else x) h2
    · intro y hy
      rcases List.mem_cons.mp hy with rfl | hy
      · exact Int.le_trans (by split <;> omega : y ≤ if x < y then y else x) h2
      · exact h3 y hy
theorem foldl_min : ∀ (xs : List Int) (x : Int), (xs.foldl (fun m y => if y < m then y else m) x = x ∨ xs.foldl (fun m y => if y < m then y else m) x ∈ xs) ∧ xs.foldl (fun m y => if y < m then y else m) x ≤ x ∧ ∀ y ∈ xs, xs.foldl (fun m y => if y < m then y else m) x ≤ y
  | [], x => ⟨.inl rfl, Int.le_refl _, by simp⟩
  | z :: xs, x => by
    have h := foldl_min xs (if z < x then z else x)
    rw [List.foldl_cons]
    obtain ⟨h1, h2, h3⟩ := h
    refine ⟨?_, ?_, ?_⟩
    · rcases h1 with h1 | h1
      · rw [h1]
        split
        · exact .inr (by simp)
        · exact .inl rfl
      · exact .inr (by simp [h1])
    · exact Int.le_trans h2 (by split <;> omega : (if z < x then z else x) ≤ x)
    · intro y hy
      rcases List.mem_cons.mp hy with rfl | hy
      · exact Int.le_trans h2 (by split <;> omega : (if y < x then y else x) ≤ y)
      · exact h3 y hy
theorem maxZ_mem {ns : List Int} (h : 0 < ns.length) : maxZ ns ∈ ns := by
  cases ns with
  | nil => exact absurd h (by simp)
  | cons x xs => exact (foldl_max xs x).1.elim (fun e => by rw [maxZ, e]; simp) fun e => by rw [maxZ]; exact List.mem_cons_of_mem _ e
theorem maxZ_ge {ns : List Int} : ∀ y ∈ ns, y ≤ maxZ ns := by
  cases ns with
  | nil => intro y hy; exact absurd hy (by simp)
  | cons x xs => intro y hy; exact (List.mem_cons.mp hy).elim (fun e => e ▸ (foldl_max xs x).2.1) fun e => (foldl_max xs x).2.2 y e
theorem minZ_mem {ns : List Int} (h : 0 < ns.length) : minZ ns ∈ ns := by
  cases ns with
  | nil => exact absurd h (by simp)
  | cons x xs => exact (foldl_min xs x).1.elim (fun e => by rw [minZ, e]; simp) fun e => by rw [minZ]; exact List.mem_cons_of_mem _ e
theorem minZ_le {ns : List Int} : ∀ y ∈ ns, minZ ns ≤ y := by
  cases ns with
  | nil => intro y hy; exact absurd hy (by simp)
  | cons x xs => intro y hy; exact (List.mem_cons.mp hy).elim (fun e => e ▸ (foldl_min xs x).2.1) fun e => (foldl_min xs x).2.2 y e
def insI (x : Int) : List Int → List Int
  | [] => [x]
  | y :: ys => if x ≤ y then x :: y :: ys else y :: insI x ys
def isort : List Int → List Int
  | [] => []
  | x :: xs => insI x (isort xs)
theorem insI_perm (x : Int) : ∀ ys, (insI x ys).Perm (x :: ys)
  | [] => .refl _
  | y :: ys => by
    unfold insI
    split
    · exact .refl _
    · exact ((insI_perm x ys).cons y).trans (.swap x y ys)
theorem isort_perm : ∀ xs, (isort xs).Perm xs
  | [] => .refl _
  | x :: xs => (insI_perm x _).trans ((isort_perm xs).cons x)
theorem insI_sorted (x : Int) : ∀ ys : List Int, ys.Pairwise (· ≤ ·) → (insI x ys).Pairwise (· ≤ ·)
  | [], _ => by simp [insI]
  | y :: ys, h => by
    unfold insI
    rw [List.pairwise_cons] at h
    split
    · rename_i hx
      rw [List.pairwise_cons]
      refine ⟨fun z hz => ?_, List.pairwise_cons.mpr h⟩
      rcases List.mem_cons.mp hz with rfl | hz
      · exact hx
      · exact Int.le_trans hx (h.1 z hz)
    · rename_i hx
      rw [List.pairwise_cons]
      refine ⟨fun z hz => ?_, insI_sorted x ys h.2⟩
      rcases List.mem_cons.mp ((insI_perm x ys).mem_iff.mp hz) with rfl | hz
      · omega
      · exact h.1 z hz
theorem isort_sorted : ∀ xs : List Int, (isort xs).Pairwise (· ≤ ·)
  | [] => .nil
  | x :: xs => insI_sorted x _ (isort_sorted xs)
theorem sorted_uniq : ∀ {xs ys : List Int}, xs.Perm ys → xs.Pairwise (· ≤ ·) → ys.Pairwise (· ≤ ·) → xs = ys
  | [], ys, p, _, _ => by rw [List.nil_perm.mp p]
  | x :: xs, [], p, _, _ => absurd p.length_eq (by simp)
  | x :: xs, y :: ys, p, hx, hy => by
    rw [List.pairwise_cons] at hx hy
    have h1 : x = y := by
      have a : x ∈ y :: ys := p.mem_iff.mp (by simp)
      have b : y ∈ x :: xs := p.mem_iff.mpr (by simp)
      rcases List.mem_cons.mp a with e | a
      · exact e
      · rcases List.mem_cons.mp b with e | b
        · exact e.symm
        · have := hx.1 y b
          have := hy.1 x a
          omega
    subst h1
    rw [sorted_uniq (List.Perm.cons_inv p) hx.2 hy.2]

def lenF : MF := fun ds g => match ds with
  | [.str z] => if z.length ≤ 1000000 then .ok (.int z.length) g else .bad
  | [.ref a] => match g[a]? with
    | some (.lst xs) => .ok (.int xs.length) g
    | _ => .bad
  | [d] => match itemsD g d with
    | some xs => .ok (.int xs.length) g
    | none => .bad
  | _ => .bad
def intF : MF := fun ds g => match ds with
  | [.int i] => .ok (.int i) g
  | [.bl k] => .ok (.int (if k then 1 else 0)) g
  | _ => .bad
def absF : MF := fun ds g => match ds with
  | [.int i] => .ok (.int (if i < 0 then -i else i)) g
  | _ => .bad
def allF : MF := fun ds g => match ds with
  | [.ref a] => match g[a]? with
    | some (.lst xs) => match blsD xs with
      | some bs => .ok (.bl (bs.all id)) g
      | none => .bad
    | _ => .bad
  | _ => .bad
def anyF : MF := fun ds g => match ds with
  | [.ref a] => match g[a]? with
    | some (.lst xs) => match blsD xs with
      | some bs => .ok (.bl (bs.any id)) g
      | none => .bad
    | _ => .bad
  | _ => .bad
def sumF : MF := fun ds g => match ds with
  | [d] => match itemsD g d with
    | some xs => match intsD xs with
      | some ns => .ok (.int ns.sum) g
      | none => .bad
    | none => .bad
  | _ => .bad
def tupleF : MF := fun ds g => match ds with
  | [d] => match itemsD g d with
    | some xs => .ok (.tup xs) g
    | none => .bad
  | _ => .bad
def listF : MF := fun ds g => match ds with
  | [d] => match itemsD g d with
    | some xs => .ok (.ref g.length) (g ++ [.lst xs])
    | none => .bad
  | _ => .bad
def sortedF : MF := fun ds g => match ds with
  | [.ref a] => match g[a]? with
    | some (.lst xs) => match intsD xs with
      | some ns => .ok (.ref g.length) (g ++ [.lst ((isort ns).map D.int)])
      | none => .bad
    | _ => .bad
  | _ => .bad
def maxF : MF := fun ds g => match ds with
  | [.int i, .int j] => .ok (.int (if j > i then j else i)) g
  | [.ref a] => match g[a]? with
    | some (.lst xs) => match intsD xs with
      | some ns => if 0 < ns.length then .ok (.int (maxZ ns)) g else .bad
      | none => .bad
    | _ => .bad
  | _ => .bad
def minF : MF := fun ds g => match ds with
  | [.int i, .int j] => .ok (.int (if j < i then j else i)) g
  | [.ref a] => match g[a]? with
    | some (.lst xs) => match intsD xs with
      | some ns => if 0 < ns.length then .ok (.int (minZ ns)) g else .bad
      | none => .bad
    | _ => .bad
  | _ => .bad
def gcdF : MF := fun ds g => match ds with
  | [.int i, .int j] => .ok (.int ((Nat.gcd i.natAbs j.natAbs : Nat) : Int)) g
  | _ => .bad
/-- the built-in class of a value -/
def tyN (g : Gp) : D → Option String
  | .non => some "NoneType"
  | .bl _ => some "bool"
  | .int _ => some "int"
  | .str _ => some "str"
  | .tup _ => some "tuple"
  | .rom _ => some "list"
  | .ref a => match g[a]? with
    | some (.lst _) => some "list"
    | some (.dct _) => some "dict"
    | _ => none
  | .ty _ => none
def subT (a b : String) : Bool := a == b || (a == "bool" && b == "int")
def isKnown (b : String) : Bool := b == "int" || b == "bool" || b == "str" || b == "tuple" || b == "list"
def isiF : MF := fun ds g => match ds with
  | [d, .ty n] => match tyN g d with
    | some t => if isKnown n = true then .ok (.bl (subT t n)) g else .bad
    | none => .bad
  | _ => .bad
/-- isinstance(x, (A, B)) -/
def mIsi2 (n m : String) (a : ME) : ME := fun s g => (a s g).bind fun x g1 => match tyN g1 x with
  | some t => .ok (.bl (subT t n || subT t m)) g1
  | none => .bad
section
variable {X : Cx} {W : Wt}
theorem RVs.one {K : PySem.W.Frag} {ρ : List Addr} {H : Hp} {d : D} {vs : List V} (r : RVs K ρ H [d] vs) : ∃ v, vs = [v] ∧ RV K ρ H d v := by
  cases r with
  | cons r t => cases t; exact ⟨_, rfl, r⟩
theorem RVs.two {K : PySem.W.Frag} {ρ : List Addr} {H : Hp} {d e : D} {vs : List V} (r : RVs K ρ H [d, e] vs) : ∃ v w, vs = [v, w] ∧ RV K ρ H d v ∧ RV K ρ H e w := by
  cases r with
  | cons r t =>
    obtain ⟨w, rfl, q⟩ := t.one
    exact ⟨_, _, rfl, r, q⟩
theorem c_len : CallS X W (.builtin "len") lenF := callr_imp (callr_or call_len_seq call_len_str) fun xs H Q ⟨ρ, g, ds, r, hg, h⟩ => by
  unfold lenF at h
  split at h
  · obtain ⟨v, rfl, q⟩ := r.one
    split at h
    · rename_i hz
      cases q
      exact .inr ⟨_, rfl, sz_lim hz, now_int hg h⟩
    · exact h.elim
  · obtain ⟨v, rfl, q⟩ := r.one
    split at h
    · rename_i e0
      obtain ⟨a, ha, rfl⟩ := q.ref_inv
      obtain ⟨vs, hl, r⟩ := hg.lst e0 ha
      refine .inl ⟨_, _, rfl, .inl (.of hl), ?_⟩
      rw [← r.length]
      exact now_int hg h
    · exact h.elim
  · obtain ⟨v, rfl, q⟩ := r.one
    split at h
    · rename_i e0
      obtain ⟨a, vs, rfl, hq, r⟩ := items_sq hg q e0
      refine .inl ⟨_, _, rfl, hq, ?_⟩
      rw [← r.length]
      exact now_int hg h
    · exact h.elim
  · exact h.elim
theorem c_int : CallS X W (.type "int") intF := callr_imp call_int1 fun xs H Q ⟨ρ, g, ds, r, hg, h⟩ => by
  unfold intF at h
  split at h
  · obtain ⟨v, rfl, q⟩ := r.one
    cases q
    exact .inl ⟨_, rfl, now_int hg h⟩
  · obtain ⟨v, rfl, q⟩ := r.one
    cases q
    exact .inr ⟨_, rfl, now_int hg h⟩
  · exact h.elim
theorem c_abs : CallS X W (.builtin "abs") absF := callr_imp call_abs fun xs H Q ⟨ρ, g, ds, r, hg, h⟩ => by
  unfold absF at h
  split at h
  · obtain ⟨v, rfl, q⟩ := r.one
    cases q
    exact ⟨_, rfl, now_int hg h⟩
  · exact h.elim
theorem c_all (hc : X.calm = true) : CallS X W (.builtin "all") allF := callr_imp (cr_all hc) fun xs H Q ⟨ρ, g, ds, r, hg, h⟩ => by
  unfold allF at h
  split at h
  · obtain ⟨v, rfl, q⟩ := r.one
    split at h
    · rename_i e0
      split at h
      · rename_i bs e1
        obtain ⟨a, ha, rfl⟩ := q.ref_inv
        obtain ⟨vs, hl, r⟩ := hg.lst e0 ha
        rw [of_blsD e1] at r
        exact ⟨_, bs, rfl, .of (by rw [← r.of_bls]; exact hl), now_bl hg h⟩
      · exact h.elim
    · exact h.elim
  · exact h.elim
theorem c_any (hc : X.calm = true) : CallS X W (.builtin "any") anyF := callr_imp (cr_any hc) fun xs H Q ⟨ρ, g, ds, r, hg, h⟩ => by
  unfold anyF at h
  split at h
  · obtain ⟨v, rfl, q⟩ := r.one
    split at h
    · rename_i e0
      split at h
      · rename_i bs e1
        obtain ⟨a, ha, rfl⟩ := q.ref_inv
        obtain ⟨vs, hl, r⟩ := hg.lst e0 ha
        rw [of_blsD e1] at r
        exact ⟨_, bs, rfl, .of (by rw [← r.of_bls]; exact hl), now_bl hg h⟩
      · exact h.elim
    · exact h.elim
  · exact h.elim
def rSumT (K : PySem.W.Frag) : List V → Hp → VK → Prop := fun vs H Q => ∃ (a : Addr) (ns : List Int), vs = [V.ref a] ∧ SqT K H a (ns.map V.int) ∧ Q (.int ns.sum) H
theorem cr_sumT (hc : X.calm = true) : CallR X (.builtin "sum") (rSumT X.K) := by
  intro pins s σ H vs us Q I r h
  obtain ⟨a, ns, rfl, hs, q⟩ := h
  obtain ⟨its, rv, hl, _⟩ := I.tuple hs
  obtain ⟨u, rfl, r1⟩ := vals1 r
  cases (show u = Value.ref a from r1)
  have hi := rv.ints
  obtain ⟨xs, e⟩ := hi.allInts.items
  have hn : numsOf (intItems xs).toList = ns := by rw [← e]; exact hi.numsOf
  rw [nums_intItems] at hn
  rw [e] at hl
  refine PySem.W.ktm_sumG (I.ok.hd hc) hl fun h' tk t' hk => ?_
  rw [preSum_eq, List.take_of_length_le (by simp), hn]
  exact ⟨.int _, H, I.kept hk, ⟨_, rfl⟩, q⟩
theorem c_sum (hc : X.calm = true) : CallS X W (.builtin "sum") sumF := callr_imp (callr_or (cr_sum hc) (cr_sumT hc)) fun xs H Q ⟨ρ, g, ds, r, hg, h⟩ => by
  unfold sumF at h
  split at h
  · obtain ⟨v, rfl, q⟩ := r.one
    split at h
    · rename_i e0
      split at h
      · rename_i ns e1
        obtain ⟨a, vs, rfl, hq, r⟩ := items_sq hg q e0
        rw [of_intsD e1] at r
        rw [r.of_ints] at hq
        rcases hq with hq | hq
        · exact .inl ⟨_, ns, rfl, hq, now_int hg h⟩
        · exact .inr ⟨_, ns, rfl, hq, now_int hg h⟩
      · exact h.elim
    · exact h.elim
  · exact h.elim
theorem c_tuple : CallS X W (.type "tuple") tupleF := callr_imp call_tuple_of fun xs H Q ⟨ρ, g, ds, r, hg, h⟩ => by
  unfold tupleF at h
  split at h
  · obtain ⟨v, rfl, q⟩ := r.one
    split at h
    · rename_i e0
      obtain ⟨a, vs, rfl, hq, r⟩ := items_sq hg q e0
      rcases hq with hq | hq
      · exact ⟨_, _, rfl, .inl ⟨hq, fun p hp => now_tup hg h r hp⟩⟩
      · exact ⟨_, _, rfl, .inr ⟨hq, out.now (R1 := RV X.K) h hg (.tup hq r)⟩⟩
    · exact h.elim
  · exact h.elim
theorem c_list : CallS X W (.type "list") listF := callr_imp call_list_of fun xs H Q ⟨ρ, g, ds, r, hg, h⟩ => by
  unfold listF at h
  split at h
  · obtain ⟨v, rfl, q⟩ := r.one
    split at h
    · rename_i e0
      obtain ⟨a, vs, rfl, hq, r⟩ := items_sq hg q e0
      exact ⟨_, _, rfl, hq, fun p hp => now_lst hg h r hp⟩
    · exact h.elim
  · exact h.elim
theorem c_sorted : CallS X W (.builtin "sorted") sortedF := callr_imp cr_sortedI fun xs H Q ⟨ρ, g, ds, r, hg, h⟩ => by
  unfold sortedF at h
  split at h
  · obtain ⟨v, rfl, q⟩ := r.one
    split at h
    · rename_i e0
      split at h
      · rename_i ns e1
        obtain ⟨a, ha, rfl⟩ := q.ref_inv
        obtain ⟨vs, hl, r⟩ := hg.lst e0 ha
        rw [of_intsD e1] at r
        refine ⟨_, ns, rfl, .of (by rw [← r.of_ints]; exact hl), fun ns' p pm so hp => ?_⟩
        have e : ns' = isort ns := sorted_uniq (pm.trans (isort_perm ns).symm) so (isort_sorted ns)
        rw [e]
        exact now_lst hg h (RVs.ints _) hp
      · exact h.elim
    · exact h.elim
  · exact h.elim
theorem c_max (hc : X.calm = true) : CallS X W (.builtin "max") maxF := callr_imp (callr_or (call_max2 hc) (cr_max hc)) fun xs H Q ⟨ρ, g, ds, r, hg, h⟩ => by
  unfold maxF at h
  split at h
  · obtain ⟨v, w, rfl, q1, q2⟩ := r.two
    cases q1; cases q2
    exact .inl ⟨_, _, rfl, now_int hg h⟩
  · obtain ⟨v, rfl, q⟩ := r.one
    split at h
    · rename_i e0
      split at h
      · rename_i ns e1
        split at h
        · rename_i hz
          obtain ⟨a, ha, rfl⟩ := q.ref_inv
          obtain ⟨vs, hl, r⟩ := hg.lst e0 ha
          rw [of_intsD e1] at r
          refine .inr ⟨_, ns, rfl, .of (by rw [← r.of_ints]; exact hl), hz, fun m hm hx => ?_⟩
          have e : m = maxZ ns := Int.le_antisymm (maxZ_ge m hm) (hx _ (maxZ_mem hz))
          rw [e]
          exact now_int hg h
        · exact h.elim
      · exact h.elim
    · exact h.elim
  · exact h.elim
theorem c_min (hc : X.calm = true) : CallS X W (.builtin "min") minF := callr_imp (callr_or (call_min2 hc) (cr_min hc)) fun xs H Q ⟨ρ, g, ds, r, hg, h⟩ => by
  unfold minF at h
  split at h
  · obtain ⟨v, w, rfl, q1, q2⟩ := r.two
    cases q1; cases q2
    exact .inl ⟨_, _, rfl, now_int hg h⟩
  · obtain ⟨v, rfl, q⟩ := r.one
    split at h
    · rename_i e0
      split at h
      · rename_i ns e1
        split at h
        · rename_i hz
          obtain ⟨a, ha, rfl⟩ := q.ref_inv
          obtain ⟨vs, hl, r⟩ := hg.lst e0 ha
          rw [of_intsD e1] at r
          refine .inr ⟨_, ns, rfl, .of (by rw [← r.of_ints]; exact hl), hz, fun m hm hx => ?_⟩
          have e : m = minZ ns := Int.le_antisymm (hx _ (minZ_mem hz)) (minZ_le m hm)
          rw [e]
          exact now_int hg h
        · exact h.elim
      · exact h.elim
    · exact h.elim
  · exact h.elim
theorem c_gcd : CallS X W (.builtin "math.gcd") gcdF := callr_imp cr_gcd fun xs H Q ⟨ρ, g, ds, r, hg, h⟩ => by
  unfold gcdF at h
  split at h
  · obtain ⟨v, w, rfl, q1, q2⟩ := r.two
    cases q1; cases q2
    exact ⟨_, _, rfl, now_int hg h⟩
  · exact h.elim
theorem e_callBfun {pos p : Pos} {e : Expr} {es : List Expr} {mr : MA} {x : Str} {id : String} {f : MF} (hc : CallS X W (.builtin id) f) (hm : X.mg x = some (.builtin id)) (ha : PA X (e :: es) (rdA X.K X.mg W mr)) (hg : Gl X x := by rfl)
    (hdb : (x == ("__debug__" : Str)) = false := by decide) (he : starEach (e :: es) X.env = (false, eval e X.env) :: starEach es X.env := by rfl) (hpl : (backTo pos (starEach es X.env)).any (·.1) = false := by rfl) :
    PE X (.Call (.Name x p) (e :: es) [] pos) (rd X.K X.mg W (mCall f mr)) :=
  pe_imp (pe_callBfun hc hg hm ha hdb he hpl) fun _ _ _ h => rd_call h
theorem tyX_of {K : PySem.W.Frag} {mg : Str → Option Value} {ρ : List Addr} {H : Hp} {g : Gp} {d : D} {v : V} {t : String} (hg : RG K mg ρ g H) (r : RV K ρ H d v) (e : tyN g d = some t) : TyX K H v (.type t) := by
  cases r with
  | non => cases e; exact .base .non
  | bl b => cases e; exact .base (.bl b)
  | int b => cases e; exact .base (.int b)
  | str b => cases e; exact .base (.str b)
  | ty n => cases e
  | tup h r =>
    cases e
    rcases h with (h | ⟨o, h⟩) | ⟨o, its, n, h, c, _⟩
    · exact .base (.tup h)
    · exact .fTuple h
    · exact .kTuple h c
  | rom h r =>
    cases e
    rcases h with ⟨o, h⟩ | ⟨o, its, n, h, c, _⟩
    · exact .base (.frz h)
    · exact .kList h c
  | ref h =>
    rw [tyN] at e
    split at e
    · rename_i e0
      cases e
      obtain ⟨vs, hl, _⟩ := hg.lst e0 h
      exact .base (.lst hl)
    · rename_i e0
      cases e
      cases hg.obj _ _ _ e0 h with
      | dK h _ => exact .base (.dK h)
      | dT h _ => exact .base (.dT h)
    · cases e
theorem tyN_known {g : Gp} {d : D} {t : String} (e : tyN g d = some t) : t = "NoneType" ∨ t = "bool" ∨ t = "int" ∨ t = "str" ∨ t = "tuple" ∨ t = "list" ∨ t = "dict" := by
  cases d with
  | ref a =>
    rw [tyN] at e
    split at e <;> cases e <;> simp
  | ty _ => cases e
  | _ => cases e; simp
theorem kit_of' {t n : String} (ht : t = "NoneType" ∨ t = "bool" ∨ t = "int" ∨ t = "str" ∨ t = "tuple" ∨ t = "list" ∨ t = "dict") (hn : isKnown n = true) : kitB t n = some (subT t n) := by
  have hn' : n = "int" ∨ n = "bool" ∨ n = "str" ∨ n = "tuple" ∨ n = "list" := by
    simpa [isKnown, or_assoc] using hn
  rcases ht with rfl | rfl | rfl | rfl | rfl | rfl | rfl <;> rcases hn' with rfl | rfl | rfl | rfl | rfl <;> decide +kernel
theorem kitAny2 {K : PySem.W.Frag} {t a b : Value} {x y : Bool} (h1 : PySem.W.kitOne K t a = some x) (h2 : PySem.W.kitOne K t b = some y) : PySem.W.kitAny K t [a, b] = some (x || y) := by
  cases x <;> cases y <;> simp [PySem.W.kitAny, h1, h2]
theorem c_isi : CallS X W (.builtin "isinstance") isiF := callr_imp call_isi fun xs H Q ⟨ρ, g, ds, r, hg, h⟩ => by
  unfold isiF at h
  split at h
  · obtain ⟨v, w, rfl, q1, q2⟩ := r.two
    split at h
    · rename_i t e0
      split at h
      · rename_i hk
        cases q2
        exact ⟨_, _, _, _, _, rfl, .ty _, tyX_of hg q1 e0, kit_ty (kit_of' (tyN_known e0) hk), now_bl hg h⟩
      · exact h.elim
    · exact h.elim
  · exact h.elim
theorem e_isi2 {pos p p1 p2 p3 : Pos} {kk : Nat} {e : Expr} {me : ME} {x y : Str} {n m : String} (he : PE X e (rd X.K X.mg W me)) (hmi : X.mg "isinstance" = none) (hmx : X.mg x = none) (hmy : X.mg y = none)
    (hx : bootBuiltins x = some (.type n) := by decide +kernel) (hy : bootBuiltins y = some (.type m) := by decide +kernel) (hn : isKnown n = true := by decide) (hm : isKnown m = true := by decide)
    (gi : Gl X "isinstance" := by rfl) (gx : Gl X x := by rfl) (gy : Gl X y := by rfl) (nx : x ≠ "__name__" := by decide) (ny : y ≠ "__name__" := by decide) (dx : (x == ("__debug__" : Str)) = false := by decide) (dy : (y == ("__debug__" : Str)) = false := by decide)
    (h1 : starEach [e, .Tuple [.Name x p1, .Name y p2] kk p3] X.env = (false, eval e X.env) :: starEach [.Tuple [.Name x p1, .Name y p2] kk p3] X.env := by rfl)
    (h2 : starEach [.Tuple [.Name x p1, .Name y p2] kk p3] X.env = (false, eval (.Tuple [.Name x p1, .Name y p2] kk p3) X.env) :: starEach [] X.env := by rfl)
    (h3 : starEach [.Name x p1, .Name y p2] X.env = (false, eval (.Name x p1) X.env) :: starEach [.Name y p2] X.env := by rfl) (h4 : starEach [.Name y p2] X.env = (false, eval (.Name y p2) X.env) :: starEach [] X.env := by rfl)
    (hpl : (backTo pos (starEach [.Tuple [.Name x p1, .Name y p2] kk p3] X.env)).any (·.1) = false := by rfl) :
    PE X (.Call (.Name "isinstance" p) [e, .Tuple [.Name x p1, .Name y p2] kk p3] [] pos) (rd X.K X.mg W (mIsi2 n m me)) :=
  pe_imp (pe_callB call_isiT gi hmi (by decide +kernel) (pa_cons he (pa_cons (pe_tup (pa_cons (pe_bltn gx hmx hx (show RelV (.ty n) _ from rfl) nx dx) (pa_cons (pe_bltn gy hmy hy (show RelV (.ty m) _ from rfl) ny dy) pa_nil h4) h3)) pa_nil h2) h1) (by decide) (by decide) h1 hpl) fun σ H Q ⟨ρ, g, s, hs, hg, h⟩ =>
    rd_in hs hg h fun d x' g1 ρ1 H1 st1 hg1 rx hs1 h1 => by
      refine ⟨by show 2 ≤ sizeLine; rw [sizeLine_eq]; decide, fun p hp => ?_⟩
      split at h1
      · rename_i t e0
        have st := Step.new (ρ := ρ1) (u := .tup [.ty n, .ty m]) hp
        have hg2 := hg1.new (u := .tup [.ty n, .ty m]) hp
        exact ⟨x', p, _, .type t, _, _, rfl, upd_same, .cons (.ty n) (.cons (.ty m) .nil), tyX_of hg2 (rx.mono st) e0, kitAny2 (kit_ty (kit_of' (tyN_known e0) hn)) (kit_ty (kit_of' (tyN_known e0) hm)), now_bl hg2 (out.step st h1)⟩
      · exact False.elim h1
end
end Sim

end
section
set_option maxRecDepth 100000
set_option maxHeartbeats 1000000
/-! Sim6: methods of lists, stores. -/
namespace Sim
open PySem PySem.Spec PyProof.Rows L2

def rMt (K : PySem.W.Frag) (mg : Str → Option Value) (W : Wt) (f : D → MF) : V → List V → Hp → VK → Prop := fun x xs H Q => ∃ ρ g d ds, RV K ρ H d x ∧ RVs K ρ H ds xs ∧ RG K mg ρ g H ∧ out K mg (RV K) W (f d ds g) ρ H Q
def MtS (X : Cx) (W : Wt) (id : String) (f : D → MF) : Prop := MtR X id (rMt X.K X.mg W f)
/-- a method of a list -/
def mMeL (f : D → MF) (o : ME) (a : MA) : ME := fun s g => (o s g).bind fun d g1 => match d with
  | .ref r => match g1[r]? with
    | some (.lst _) => (a s g1).bind fun xs g2 => f (.ref r) xs g2
    | _ => .bad
  | _ => .bad
def appendM : D → MF := fun d ds g => match d, ds with
  | .ref a, [x] => match g[a]? with
    | some (.lst xs) => if xs.length < 1000000 then .ok .non (g.set a (.lst (xs ++ [x]))) else .bad
    | _ => .bad
  | _, _ => .bad
section
variable {X : Cx} {W : Wt} {o e : Expr} {es : List Expr} {mo : ME} {ma : MA} {name : Str} {apos cpos : Pos} {id : String} {f : D → MF}
theorem e_meL (pa : PlainAttrs "list") (slot : Slot "list" name id) (hty : typeOf (.builtin id) = pure (.type "method_descriptor")) (hm : MtS X W id f) (ho : PE X o (rd X.K X.mg W mo)) (ha : PA X (e :: es) (rdA X.K X.mg W ma))
    (hbase : attributeBase o name X.env (eval o X.env) = eval o X.env := by rfl)
    (hfew : ((backTo cpos (starEach (e :: es) X.env)).all (fun x => !x.1) && (backToKw cpos (keywordEach [] X.env)).all (fun x => x.1.isSome)
      && decide ((e :: es).length + ([] : List Keyword).length + (if ([] : List Keyword).isEmpty then 0 else 1) < 30)) = true := by rfl)
    (hline : (apos.endLine == cpos.line) = true := by rfl) (hs : starEach (e :: es) X.env = (false, eval e X.env) :: starEach es X.env := by rfl) (hplain : (backTo cpos (starEach es X.env)).any (·.1) = false := by rfl) :
    PE X (.Call (.Attribute o name apos) (e :: es) [] cpos) (rd X.K X.mg W (mMeL f mo ma)) :=
  pe_imp (pe_bm pa slot hty hm ho ha hbase hfew hline hs hplain) fun σ H Q ⟨ρ, g, s, hs, hg, h⟩ =>
    rd_in hs hg h fun d d' g1 ρ1 H1 st1 hg1 rd' hs1 h1 => by
      split at h1
      · split at h1
        · rename_i ds e0
          obtain ⟨a, ha, rfl⟩ := rd'.ref_inv
          obtain ⟨vs, hl, r⟩ := hg1.lst e0 ha
          exact ⟨.inl ⟨rfl, _, .of hl⟩, rd_in hs1 hg1 h1 fun xs xs' g2 ρ2 H2 st2 hg2 rxs hs2 h2 => ⟨ρ2, g2, _, xs, rd'.mono st2, rxs, hg2, h2⟩⟩
        · exact False.elim h1
      · exact False.elim h1
theorem m_append : MtS X W "list.append" appendM := mtr_imp mt_append fun x xs H Q ⟨ρ, g, d, ds, rd', rs, hg, h⟩ => by
  unfold appendM at h
  split at h
  · split at h
    · rename_i e0
      split at h
      · rename_i hz
        obtain ⟨a, ha, rfl⟩ := rd'.ref_inv
        obtain ⟨v, rfl, q⟩ := rs.one
        obtain ⟨vs, hl, r⟩ := hg.lst e0 ha
        have st := Step.put (u := .lst (vs ++ [v])) hg ha
        exact ⟨_, _, _, rfl, rfl, hl, by rw [← r.length]; exact Nat.lt_of_lt_of_le hz (sz_lim (Nat.le_refl _)), h ρ _ _ st (hg.put ha (.lst upd_same ((r.append (.cons q .nil)).mono st))) .non⟩
      · exact h.elim
    · exact h.elim
  · exact h.elim
theorem e_append (ho : PE X o (rd X.K X.mg W mo)) (ha : PA X [e] (rdA X.K X.mg W ma)) (hbase : attributeBase o "append" X.env (eval o X.env) = eval o X.env := by rfl)
    (hfew : ((backTo cpos (starEach [e] X.env)).all (fun x => !x.1) && (backToKw cpos (keywordEach [] X.env)).all (fun x => x.1.isSome)
      && decide ([e].length + ([] : List Keyword).length + (if ([] : List Keyword).isEmpty then 0 else 1) < 30)) = true := by rfl)
    (hline : (apos.endLine == cpos.line) = true := by rfl) (hs : starEach [e] X.env = (false, eval e X.env) :: starEach [] X.env := by rfl) (hplain : (backTo cpos (starEach [] X.env)).any (·.1) = false := by rfl) :
    PE X (.Call (.Attribute o "append" apos) [e] [] cpos) (rd X.K X.mg W (mMeL appendM mo ma)) :=
  e_meL PySem.F.plainAttrs_list PySem.F.slot_list_append PySem.F.type_list_append m_append ho ha hbase hfew hline hs hplain

/-! ### how many arguments; a def that gives no answer -/
def ALen (m : MA) (n : Nat) : Prop := ∀ s g xs g', m s g = .ok xs g' → xs.length = n
theorem alen_nil : ALen mNil 0 := fun s g xs g' e => by cases e; rfl
theorem alen_cons {a : ME} {r : MA} {n : Nat} (h : ALen r n) : ALen (mCons a r) (n + 1) := fun s g xs g' e => by
  unfold mCons at e
  cases e1 : a s g with
  | bad => rw [e1] at e; cases e
  | exc c d g1 => rw [e1] at e; cases e
  | ok x g1 =>
    rw [e1, R.bind_ok] at e
    cases e2 : r s g1 with
    | bad => rw [e2] at e; cases e
    | exc c d g2 => rw [e2] at e; cases e
    | ok ys g2 =>
      rw [e2, R.bind_ok] at e
      have e' : x :: ys = xs ∧ g2 = g' := by injection e with a b; exact ⟨a, b⟩
      rw [← e'.1, List.length_cons, h s g1 ys g2 e2]
theorem fn_bad {P : Program} {w : World} {K : PySem.W.Frag} {mg : Str → Option Value} {base : Heap} {CX : CXT} {k n : Nat} {f : Addr} {fd : FuncData} {ps : List Str} {wE : XK → Wt} (hn : ps.length = n := by rfl) :
    FnOk P w K mg base CX k f fd ps (spD K mg n (fun _ _ => .bad) wE) :=
  ⟨fun vs H Q E h => h.1.trans hn.symm, fun A outer s H args us vs Q E _ _ _ _ h => by
    obtain ⟨_, ρ, g, ds, _, _, h⟩ := h
    exact h.elim⟩

/-! ### what stands at the top -/
structure DefT (K : PySem.W.Frag) (mg : Str → Option Value) (x : Str) (st : Stmt) (ps : List Str) where
  f : Addr
  fd : FuncData
  F : Fun K x x st f fd
  g : mg x = some (.ref f)
  b : Binds K fd ps []
  bs : ∀ (s : Shared) (us : List Value), us.length = ps.length → BindsTo s fd ⟨us, []⟩ (ps.zip us)
def def_mk {K : PySem.W.Frag} {h : Heap} {mg : Str → Option Value} {x : Str} {st : Stmt} {ps : List Str} {f : Addr} {oc : Value} {od an : Option Addr} {osl : Array (Option Value)} {kV doc pm cdv ct : Value} (X : K.In h) (G : h.Ns mainGlobals mg)
    (a : PySem.W.nsIn K mainGlobals x = some (some (.ref f))) (l : K.lookup f = some ⟨oc, od, .func (PySem.W.fnOf x x (defArgs st) (defBody st) (defScope st) .none kV doc pm an cdv ct), osl⟩) (c : PySem.W.codeIn K cdv x = true) (k : PySem.W.keepIn K (.ref f) = true)
    (hb : ∀ (kV doc pm : Value) (an : Option Addr) (cdv ct : Value) (us : List Value), us.length = ps.length → bindArgs (PySem.W.fnOf x x (defArgs st) (defBody st) (defScope st) .none kV doc pm an cdv ct) ⟨us, []⟩ = pure (ps.zip us)) : DefT K mg x st ps :=
  have F := fun_mk (st := st) l c k
  ⟨f, _, F, PySem.W.mg_of X G a, F.binds hb, fun _ us hl => .of_eq (hb _ _ _ _ _ _ us hl)⟩
theorem int_mk {K : PySem.W.Frag} {h : Heap} {mg : Str → Option Value} {x : Str} {i : Int} {t : Tok} (X : K.In h) (G : h.Ns mainGlobals mg) (a : PySem.W.nsIn K mainGlobals x = some (some (.int i t))) : ∃ t, mg x = some (.int i t) := ⟨t, PySem.W.mg_of X G a⟩
theorem str_mk {K : PySem.W.Frag} {h : Heap} {mg : Str → Option Value} {x : Str} {i : Str} {t : Tok} (X : K.In h) (G : h.Ns mainGlobals mg) (a : PySem.W.nsIn K mainGlobals x = some (some (.str i t))) : ∃ t, mg x = some (.str i t) := ⟨t, PySem.W.mg_of X G a⟩
/-- what the law promises -/
def spLaw (K : PySem.W.Frag) : Sp := fun vs H Q _ => ∃ (a : Addr) (ns : List Int), vs = [.ref a] ∧ SqR K H a (ns.map V.int) ∧ ns.length ≤ 63 ∧ ∀ H', Q (.bl true) H'
theorem sqr_of {K : PySem.W.Frag} {H : Hp} {a : Addr} {xs : List V} (o : Only H) (h : SqL K H a xs) : SqR K H a xs := by
  rcases h with (h | h) | h
  · rcases o a with z | ⟨ob, ys, z⟩
    · rw [h] at z; cases z
    · rw [h] at z; cases z
  · exact .inl h
  · exact .inr h
theorem law_ok {P : Program} {w : World} {K : PySem.W.Frag} {mg : Str → Option Value} {base : Heap} {k : Nat} {f : Addr} {fd : FuncData} {ps : List Str} {m : MF} (F : FnOk P w K mg base CX0 k f fd ps (spD K mg 1 m fun _ => w0))
    (h : ∀ ns : List Int, ns.length ≤ 63 → ∃ g', m [.rom (ns.map D.int)] [] = .ok (.bl true) g') : FnOk P w K mg base CX0 k f fd ps (spLaw K) :=
  F.imp fun vs H Q E ⟨a, ns, e, hs, hl, q⟩ => by
    subst e
    obtain ⟨g', hm⟩ := h ns hl
    refine ⟨rfl, [], [], [.rom (ns.map D.int)], .cons (.rom hs (RVs.ints ns)) .nil, ⟨rfl, fun i j a h => by simp at h, fun i o a h => by simp at h⟩, ?_⟩
    rw [hm]
    intro ρ' H' b _ _ rb
    cases rb
    exact q H'

/-! ### o[i] = e -/
def setLD (o i v : D) (g : Gp) : Option Gp := match o, i with
  | .ref a, .int k => match g[a]? with
    | some (.lst xs) => match ixN xs.length k with
      | some j => some (g.set a (.lst (xs.set j v)))
      | none => none
    | _ => none
  | _, _ => none
theorem pset_imp {r r' : TSet} (h : PSet X r) (i : ∀ o i v H Q, r' o i v H Q → r o i v H Q) : PSet X r' := fun pins s σ H o i' v ov iv u Q I ro ri rv q => h pins s σ H o i' v ov iv u Q I ro ri rv (i o i' v H Q q)
theorem st_list : SetS X setLD := pset_imp set_list fun o i v H Q ⟨ρ, g, d, e, u, g', rd', re, ru, hg, h, q⟩ => by
  unfold setLD at h
  split at h
  · split at h
    · rename_i e0
      split at h
      · rename_i j e1
        cases h
        obtain ⟨a, ha, rfl⟩ := rd'.ref_inv
        cases re
        obtain ⟨vs, hl, r⟩ := hg.lst e0 ha
        have st := Step.put (u := .lst (vs.set j v)) hg ha
        exact ⟨_, _, _, j, rfl, rfl, hl, by rw [← r.length]; exact e1, q ρ _ st (hg.put ha (.lst upd_same ((RVs.set ru j r).mono st)))⟩
      · cases h
    · cases h
  · cases h
end
end Sim

end
section
set_option maxRecDepth 100000
set_option maxHeartbeats 1000000
/-! Sim7: evaluating meanings. -/
namespace Sim
open PySem PySem.Spec PyProof.Rows L2

theorem Pre.refl (g : Gp) : Pre g g := fun _ _ h => h
theorem Pre.app (g L : Gp) : Pre g (g ++ L) := fun i o h => by
  rw [List.getElem?_append_left (List.getElem?_eq_some_iff.mp h).1]; exact h
theorem Pre.trans {a b c : Gp} (h : Pre a b) (h' : Pre b c) : Pre a c := fun i o e => h' i o (h i o e)
theorem gc_same (g : Gp) (d : D) : gc g (.ok d g) = .ok d g := by
  unfold gc
  dsimp only
  split
  · rfl
  · split
    · split
      · split
        · rename_i r _ ds e c
          have := (List.getElem?_eq_some_iff.mp e).1
          omega
        · rfl
      · rfl
    · rfl
theorem gc_app (g L : Gp) (d : D) (h : d.under g.length = true) : gc g (.ok d (g ++ L)) = .ok d g := gc_val (Pre.app g L) h
theorem get_appR {α : Type} (l m : List α) (k : Nat) : (l ++ m)[l.length + k]? = m[k]? := by
  rw [List.getElem?_append_right (by omega)]
  congr 1
  omega
theorem get_app0 {α : Type} (l m : List α) : (l ++ m)[l.length]? = m[0]? := get_appR l m 0
theorem get_appL {α : Type} {l m : List α} {r : Nat} {x : α} (h : l[r]? = some x) : (l ++ m)[r]? = some x := by
  rw [List.getElem?_append_left (List.getElem?_eq_some_iff.mp h).1]; exact h
theorem set_appR {α : Type} (l m : List α) (k : Nat) (x : α) : (l ++ m).set (l.length + k) x = l ++ m.set k x := by
  rw [List.set_append_right _ _ (by omega)]
  congr 2
  omega
theorem set_app0 {α : Type} (l m : List α) (x : α) : (l ++ m).set l.length x = l ++ m.set 0 x := set_appR l m 0 x
theorem set_appL {α : Type} {l m : List α} {r : Nat} {x y : α} (h : l[r]? = some x) : (l ++ m).set r y = l.set r y ++ m := by
  rw [List.set_append_left _ _ (List.getElem?_eq_some_iff.mp h).1]
theorem gc_lst0 (g L : Gp) (k : Nat) (ds : List D) (e : L[k]? = some (.lst ds)) (u : D.unders g.length ds = true) : gc g (.ok (.ref (g.length + k)) (g ++ L)) = .ok (.ref g.length) (g ++ [.lst ds]) :=
  gc_lst (Pre.app g L) (by omega) (by rw [get_appR]; exact e) u
theorem gc_set {g : Gp} {r : Nat} {o1 o2 : O} {d : D} (h : g[r]? = some o1) (hn : o1 ≠ o2) : gc g (.ok d (g.set r o2)) = .ok d (g.set r o2) := by
  have np : ¬ Pre g (g.set r o2) := fun p => by
    have := p r o1 h
    rw [List.getElem?_set_self (List.getElem?_eq_some_iff.mp h).1] at this
    exact hn (Option.some.inj this).symm
  unfold gc
  dsimp only
  rw [if_neg (fun z => np z.1)]
  split
  · split
    · rw [if_neg (fun z => np z.1)]
    · rfl
  · rfl
theorem gc_npre {g g' : Gp} {d : D} (np : ¬ Pre g g') : gc g (.ok d g') = .ok d g' := by
  unfold gc
  dsimp only
  rw [if_neg (fun z => np z.1)]
  split
  · split
    · rw [if_neg (fun z => np z.1)]
    · rfl
  · rfl

/-! ### references within -/
theorem under_int (n : Nat) (i : Int) : (D.int i).under n = true := rfl
theorem under_bl (n : Nat) (i : Bool) : (D.bl i).under n = true := rfl
theorem under_non (n : Nat) : D.non.under n = true := rfl
theorem under_str (n : Nat) (i : Str) : (D.str i).under n = true := rfl
theorem under_tup (n : Nat) (ds : List D) : (D.tup ds).under n = D.unders n ds := by rw [D.under]
theorem unders_cons (n : Nat) (d : D) (ds : List D) : D.unders n (d :: ds) = (d.under n && D.unders n ds) := by rw [D.unders]
theorem unders_nil (n : Nat) : D.unders n [] = true := by rw [D.unders]
theorem unders_all (n : Nat) : ∀ ds : List D, D.unders n ds = ds.all (D.under n)
  | [] => by rw [D.unders]; rfl
  | d :: ds => by rw [D.unders, unders_all n ds]; rfl
theorem unders_ints (n : Nat) (ns : List Int) : D.unders n (ns.map D.int) = true := by
  rw [unders_all, List.all_map]
  exact List.all_eq_true.mpr fun x _ => rfl

/-! ### unfolding, piece by piece -/
section
variable (s : Sl) (g : Gp)
theorem ev_fun (n : Nat) (b : MS) (ds : List D) : mFun n b ds g = gc g (fin (b (slots n ds) g)) := rfl
theorem ev_seq (a b : MS) : sSeq a b s g = (a s g).then b := rfl
theorem ev_next : sNext s g = .nx s g := rfl
theorem ev_ret (m : ME) : sRet m s g = (m s g).go fun d g1 => .rt d g1 := rfl
theorem ev_if (t : MT) (a b : MS) : sIf t a b s g = (t s g).go fun x g1 => if x = true then a s g1 else b s g1 := rfl
theorem ev_drop (m : ME) : sDrop m s g = (m s g).go fun _ g1 => .nx s g1 := rfl
theorem ev_set (i : Nat) (m : ME) : sSet (gN i) m s g = (m s g).go fun d g1 => .nx (s.set i (some d)) g1 := rfl
theorem ev_var0 (x : Option D) (xs : Sl) (d : D) (h : x = some d) : mVar 0 (x :: xs) g = .ok d g := by subst h; rfl
theorem ev_var (i : Nat) {d : D} (h : s[i]? = some (some d)) : mVar i s g = .ok d g := by unfold mVar; rw [h]
theorem ev_c (d : D) : mC d s g = .ok d g := rfl
theorem ev_op (f : D → D → Gp → R D) (a b : ME) : mOp f a b s g = (a s g).bind fun x g1 => (b s g1).bind fun y g2 => f x y g2 := rfl
theorem ev_un (f : D → Gp → R D) (a : ME) : mUn f a s g = (a s g).bind f := rfl
theorem ev_call (f : MF) (a : MA) : mCall f a s g = (a s g).bind f := rfl
theorem ev_cons (a : ME) (r : MA) : mCons a r s g = (a s g).bind fun x g1 => (r s g1).bind fun xs g2 => .ok (x :: xs) g2 := rfl
theorem ev_nil : mNil s g = .ok [] g := rfl
theorem ev_tru (m : ME) : tTru m s g = (m s g).bind truD := rfl
theorem ev_tnot (t : MT) : tNot' t s g = (t s g).bind fun x g1 => .ok (!x) g1 := rfl
theorem ev_tand (a b : MT) : tAnd' a b s g = (a s g).bind fun x g1 => if x = true then b s g1 else .ok false g1 := rfl
theorem ev_tor (a b : MT) : tOr' a b s g = (a s g).bind fun x g1 => if x = true then .ok true g1 else b s g1 := rfl
theorem ev_ifx (t : MT) (a b : ME) : mIf t a b s g = (t s g).bind fun x g1 => if x = true then a s g1 else b s g1 := rfl
theorem ev_isi2 (n m : String) (a : ME) : mIsi2 n m a s g = (a s g).bind fun x g1 => match tyN g1 x with
  | some t => .ok (.bl (subT t n || subT t m)) g1
  | none => .bad := rfl
end

/-! ### operations on known kinds -/
section
variable (g : Gp) (i j : Int)
theorem vd_add : addD (.int i) (.int j) g = .ok (.int (i + j)) g := rfl
theorem vd_iadd : iaddD (.int i) (.int j) g = .ok (.int (i + j)) g := rfl
theorem vd_sub : subD (.int i) (.int j) g = .ok (.int (i - j)) g := rfl
theorem vd_mul (h : (-18446744073709551616 < i ∧ i < 18446744073709551616) ∨ (-18446744073709551616 < j ∧ j < 18446744073709551616)) : mulD (.int i) (.int j) g = .ok (.int (i * j)) g := if_pos h
theorem vd_div (h : 0 < j ∧ j < 1073741824) : divD (.int i) (.int j) g = .ok (.int (i / j)) g := if_pos h
theorem vd_mod (h : 0 < j) : modD (.int i) (.int j) g = .ok (.int (i % j)) g := if_pos h
theorem vd_pow (h : 0 ≤ j ∧ j ≤ 1000000 ∧ i.natAbs < 18446744073709551616) : powD (.int i) (.int j) g = .ok (.int (i ^ j.toNat)) g := if_pos h
theorem vd_neg : negD (.int i) g = .ok (.int (-i)) g := rfl
theorem vd_eq : eqD (.int i) (.int j) g = .ok (.bl (decide (i = j))) g := rfl
theorem vd_ne : neD (.int i) (.int j) g = .ok (.bl (!decide (i = j))) g := rfl
theorem vd_lt : cmpD .Lt (.int i) (.int j) g = .ok (.bl (decide (i < j))) g := by rw [← ltZ_eq]; rfl
theorem vd_le : cmpD .LtE (.int i) (.int j) g = .ok (.bl (decide (i ≤ j))) g := by rw [← leZ_eq]; rfl
theorem vd_gt : cmpD .Gt (.int i) (.int j) g = .ok (.bl (decide (j < i))) g := by rw [← ltZ_eq]; rfl
theorem vd_ge : cmpD .GtE (.int i) (.int j) g = .ok (.bl (decide (j ≤ i))) g := by rw [← leZ_eq]; rfl
theorem vd_isn : isD .non .non g = .ok (.bl true) g := rfl
theorem vd_isi : isD (.int i) .non g = .ok (.bl false) g := rfl
theorem vd_ist (ds : List D) : isD (.tup ds) .non g = .ok (.bl false) g := rfl
theorem vd_nisn : isNotD .non .non g = .ok (.bl false) g := rfl
theorem vd_nisi : isNotD (.int i) .non g = .ok (.bl true) g := rfl
theorem vd_nist (ds : List D) : isNotD (.tup ds) .non g = .ok (.bl true) g := rfl
theorem vd_trub (b : Bool) : truD (.bl b) g = .ok b g := rfl
theorem vd_int : intF [.int i] g = .ok (.int i) g := rfl
theorem vd_abs : absF [.int i] g = .ok (.int (if i < 0 then -i else i)) g := rfl
theorem vd_max : maxF [.int i, .int j] g = .ok (.int (if j > i then j else i)) g := rfl
theorem vd_min : minF [.int i, .int j] g = .ok (.int (if j < i then j else i)) g := rfl
theorem vd_gcd : gcdF [.int i, .int j] g = .ok (.int ((Nat.gcd i.natAbs j.natAbs : Nat) : Int)) g := rfl
theorem vd_lenT (ds : List D) : lenF [.tup ds] g = .ok (.int ds.length) g := rfl
theorem vd_lenL {ds : List D} {r : Nat} (h : g[r]? = some (.lst ds)) : lenF [.ref r] g = .ok (.int ds.length) g := by simp only [lenF, h]
theorem vd_tupleT (ds : List D) : tupleF [.tup ds] g = .ok (.tup ds) g := rfl
theorem vd_tupleL {ds : List D} {r : Nat} (h : g[r]? = some (.lst ds)) : tupleF [.ref r] g = .ok (.tup ds) g := by simp only [tupleF, itemsD, h]
theorem vd_listT (ds : List D) : listF [.tup ds] g = .ok (.ref g.length) (g ++ [.lst ds]) := rfl
theorem vd_listL {ds : List D} {r : Nat} (h : g[r]? = some (.lst ds)) : listF [.ref r] g = .ok (.ref g.length) (g ++ [.lst ds]) := by simp only [listF, itemsD, h]
theorem vd_ixT {ds : List D} {d : D} (h : atI ds i = some d) : ixD (.tup ds) (.int i) g = .ok d g := by simp only [ixD, atZ_eq, h]
theorem vd_ixL {ds : List D} {d : D} {r : Nat} (h : g[r]? = some (.lst ds)) (h2 : atI ds i = some d) : ixD (.ref r) (.int i) g = .ok d g := by simp only [ixD, atZ_eq, h, h2]
theorem vd_allL {ds : List D} {bs : List Bool} {r : Nat} (h : g[r]? = some (.lst ds)) (h2 : blsD ds = some bs) : allF [.ref r] g = .ok (.bl (bs.all id)) g := by simp only [allF, h, h2]
theorem vd_sumL {ds : List D} {ns : List Int} {r : Nat} (h : g[r]? = some (.lst ds)) (h2 : intsD ds = some ns) : sumF [.ref r] g = .ok (.int ns.sum) g := by simp only [sumF, itemsD, h, h2]
theorem vd_sumT {ds : List D} {ns : List Int} (h2 : intsD ds = some ns) : sumF [.tup ds] g = .ok (.int ns.sum) g := by simp only [sumF, itemsD, h2]
theorem vd_maxL {ds : List D} {ns : List Int} {r : Nat} (h : g[r]? = some (.lst ds)) (h2 : intsD ds = some ns) (h3 : 0 < ns.length) : maxF [.ref r] g = .ok (.int (maxZ ns)) g := by simp only [maxF, h, h2, h3, if_true]
theorem vd_minL {ds : List D} {ns : List Int} {r : Nat} (h : g[r]? = some (.lst ds)) (h2 : intsD ds = some ns) (h3 : 0 < ns.length) : minF [.ref r] g = .ok (.int (minZ ns)) g := by simp only [minF, h, h2, h3, if_true]
theorem vd_addT (xs ys : List D) (h : xs.length + ys.length ≤ 1000000) : addD (.tup xs) (.tup ys) g = .ok (.tup (xs ++ ys)) g := if_pos h
end
theorem at_0 {α : Type} (x : α) (xs : List α) : atI (x :: xs) 0 = some x := by
  have := atI_nat (xs := x :: xs) (j := 0) (v := x) rfl
  exact this
theorem at_1 {α : Type} (x y : α) (xs : List α) : atI (x :: y :: xs) 1 = some y := by
  have := atI_nat (xs := x :: y :: xs) (j := 1) (v := y) rfl
  exact this
theorem at_2 {α : Type} (x y z : α) (xs : List α) : atI (x :: y :: z :: xs) 2 = some z := by
  have := atI_nat (xs := x :: y :: z :: xs) (j := 2) (v := z) rfl
  exact this
def tupR (xs : List D) (g : Gp) : R D := if xs.length ≤ 1000000 then .ok (.tup xs) g else .bad
theorem vd_tup0 : tupR [] g = .ok (.tup []) g := rfl
theorem vd_tup1 (a : D) : tupR [a] g = .ok (.tup [a]) g := rfl
theorem vd_tup2 (a b : D) : tupR [a, b] g = .ok (.tup [a, b]) g := rfl
theorem vd_tup3 (a b c : D) : tupR [a, b, c] g = .ok (.tup [a, b, c]) g := rfl
theorem vd_tup4 (a b c d : D) : tupR [a, b, c, d] g = .ok (.tup [a, b, c, d]) g := rfl
theorem vd_tup5 (a b c d e : D) : tupR [a, b, c, d, e] g = .ok (.tup [a, b, c, d, e]) g := rfl
theorem ev_tup (a : MA) {s : Sl} : mTup a s g = (a s g).bind tupR := rfl
theorem vd_ix0 (x : D) (xs : List D) : ixD (.tup (x :: xs)) (.int 0) g = .ok x g := rfl
theorem vd_ix1 (x y : D) (xs : List D) : ixD (.tup (x :: y :: xs)) (.int 1) g = .ok y g := rfl
theorem vd_ix2 (x y z : D) (xs : List D) : ixD (.tup (x :: y :: z :: xs)) (.int 2) g = .ok z g := rfl
theorem at_get {α : Type} {xs : List α} {i : Int} {v : α} (h0 : 0 ≤ i) (h : xs[i.toNat]? = some v) : atI xs i = some v := by
  have := atI_nat h
  rwa [Int.toNat_of_nonneg h0] at this
/-! ### loops -/
/-- a loop over a range by what holds of it -/
theorem for_rng {P : Nat → Sl → Gp → Prop} {tg : MG} {b : MS} {lo : Int} {n : Nat} (hs : ∀ i s g, i < n → P i s g → ∃ s1 s2 g2, tg (.int (lo + i)) s = some s1 ∧ (b s1 g = .nx s2 g2 ∨ b s1 g = .ct s2 g2) ∧ P (i + 1) s2 g2) :
    ∀ (k i : Nat) (s : Sl) (g : Gp), i + k = n → P i s g → ∃ s' g', loopF tg b (.rng lo n) k i s g = .nx s' g' ∧ P n s' g' := by
  intro k
  induction k with
  | zero =>
    intro i s g e p
    have : i = n := by omega
    subst this
    refine ⟨s, g, ?_, p⟩
    simp [loopF, Src.at]
  | succ k ih =>
    intro i s g e p
    have hi : i < n := by omega
    obtain ⟨s1, s2, g2, h1, h2, h3⟩ := hs i s g hi p
    obtain ⟨s', g', h4, h5⟩ := ih (i + 1) s2 g2 (by omega) h3
    refine ⟨s', g', ?_, h5⟩
    rcases h2 with h2 | h2 <;> simp [loopF, Src.at, hi, h1, h2, h4]
theorem for_rng0 {P : Nat → Sl → Gp → Prop} {tg : MG} {b : MS} {lo : Int} {n : Nat} {s : Sl} {g : Gp} (h0 : P 0 s g) (hs : ∀ i s g, i < n → P i s g → ∃ s1 s2 g2, tg (.int (lo + i)) s = some s1 ∧ (b s1 g = .nx s2 g2 ∨ b s1 g = .ct s2 g2) ∧ P (i + 1) s2 g2) :
    ∃ s' g', loopF tg b (.rng lo n) (Src.len g (.rng lo n)) 0 s g = .nx s' g' ∧ P n s' g' := for_rng hs n 0 s g (by omega) h0
/-- over the items of a tuple -/
theorem for_tup {P : Nat → Sl → Gp → Prop} {tg : MG} {b : MS} {ds : List D} (hs : ∀ i d s g, ds[i]? = some d → P i s g → ∃ s1 s2 g2, tg d s = some s1 ∧ (b s1 g = .nx s2 g2 ∨ b s1 g = .ct s2 g2) ∧ P (i + 1) s2 g2) :
    ∀ (k i : Nat) (s : Sl) (g : Gp), i + k = ds.length → P i s g → ∃ s' g', loopF tg b (.tup ds) k i s g = .nx s' g' ∧ P ds.length s' g' := by
  intro k
  induction k with
  | zero =>
    intro i s g e p
    have : i = ds.length := by omega
    subst this
    refine ⟨s, g, ?_, p⟩
    simp [loopF, Src.at]
  | succ k ih =>
    intro i s g e p
    have hi : i < ds.length := by omega
    have hd : ds[i]? = some ds[i] := List.getElem?_eq_getElem hi
    obtain ⟨s1, s2, g2, h1, h2, h3⟩ := hs i _ s g hd p
    obtain ⟨s', g', h4, h5⟩ := ih (i + 1) s2 g2 (by omega) h3
    refine ⟨s', g', ?_, h5⟩
    rcases h2 with h2 | h2 <;> simp [loopF, Src.at, hi, h1, h2, h4]
theorem for_rom {P : Nat → Sl → Gp → Prop} {tg : MG} {b : MS} {ds : List D} (hs : ∀ i d s g, ds[i]? = some d → P i s g → ∃ s1 s2 g2, tg d s = some s1 ∧ (b s1 g = .nx s2 g2 ∨ b s1 g = .ct s2 g2) ∧ P (i + 1) s2 g2) :
    ∀ (k i : Nat) (s : Sl) (g : Gp), i + k = ds.length → P i s g → ∃ s' g', loopF tg b (.rom ds) k i s g = .nx s' g' ∧ P ds.length s' g' := by
  intro k
  induction k with
  | zero =>
    intro i s g e p
    have : i = ds.length := by omega
    subst this
    refine ⟨s, g, ?_, p⟩
    simp [loopF, Src.at]
  | succ k ih =>
    intro i s g e p
    have hi : i < ds.length := by omega
    have hd : ds[i]? = some ds[i] := List.getElem?_eq_getElem hi
    obtain ⟨s1, s2, g2, h1, h2, h3⟩ := hs i _ s g hd p
    obtain ⟨s', g', h4, h5⟩ := ih (i + 1) s2 g2 (by omega) h3
    refine ⟨s', g', ?_, h5⟩
    rcases h2 with h2 | h2 <;> simp [loopF, Src.at, hi, h1, h2, h4]
/-- over a list that the loop leaves as it is -/
theorem for_lst {P : Nat → Sl → Gp → Prop} {tg : MG} {b : MS} {r : Nat} {ds : List D} (hl : ∀ i s g, P i s g → g[r]? = some (.lst ds)) (hs : ∀ i d s g, ds[i]? = some d → P i s g → ∃ s1 s2 g2, tg d s = some s1 ∧ (b s1 g = .nx s2 g2 ∨ b s1 g = .ct s2 g2) ∧ P (i + 1) s2 g2) :
    ∀ (k i : Nat) (s : Sl) (g : Gp), i + k = ds.length → P i s g → ∃ s' g', loopF tg b (.lst r) k i s g = .nx s' g' ∧ P ds.length s' g' := by
  intro k
  induction k with
  | zero =>
    intro i s g e p
    have : i = ds.length := by omega
    subst this
    refine ⟨s, g, ?_, p⟩
    simp [loopF, Src.at, hl _ _ _ p]
  | succ k ih =>
    intro i s g e p
    have hi : i < ds.length := by omega
    have hd : ds[i]? = some ds[i] := List.getElem?_eq_getElem hi
    obtain ⟨s1, s2, g2, h1, h2, h3⟩ := hs i _ s g hd p
    obtain ⟨s', g', h4, h5⟩ := ih (i + 1) s2 g2 (by omega) h3
    refine ⟨s', g', ?_, h5⟩
    rcases h2 with h2 | h2 <;> simp [loopF, Src.at, hl _ _ _ p, hi, h1, h2, h4]
theorem for_lst0 {P : Nat → Sl → Gp → Prop} {tg : MG} {b : MS} {r : Nat} {ds : List D} {s : Sl} {g : Gp} (h0 : P 0 s g) (hl : ∀ i s g, P i s g → g[r]? = some (.lst ds))
    (hs : ∀ i d s g, ds[i]? = some d → P i s g → ∃ s1 s2 g2, tg d s = some s1 ∧ (b s1 g = .nx s2 g2 ∨ b s1 g = .ct s2 g2) ∧ P (i + 1) s2 g2) :
    ∃ s' g', loopF tg b (.lst r) (Src.len g (.lst r)) 0 s g = .nx s' g' ∧ P ds.length s' g' := by
  have : Src.len g (.lst r) = ds.length := by simp [Src.len, hl _ _ _ h0]
  rw [this]
  exact for_lst hl hs _ 0 s g (by omega) h0
end Sim

end
section
set_option maxRecDepth 100000
set_option maxHeartbeats 1000000
/-! Sim8: comprehensions evaluated. -/
namespace Sim
open PySem PySem.Spec PyProof.Rows L2

/-- a comprehension by what holds of it: the turn, what is made so far, the heap -/
theorem loopC_spec {tg : MG} {tt : MT} {te : ME} {src : Src} {s : Sl} {r : Nat} {xs : List D} {P : Nat → List D → Gp → Prop}
    (hH : ∀ i acc g, P i acc g → (∀ j, src.at g j = some xs[j]?) ∧ g[r]? = some (.lst acc))
    (hs : ∀ i x acc g, xs[i]? = some x → P i acc g → ∃ s1, tg x s = some s1 ∧ ((∃ y g1 g2, tt s1 g = .ok true g1 ∧ te s1 g1 = .ok y g2 ∧ g2[r]? = some (.lst acc) ∧ acc.length < 1000000 ∧ P (i + 1) (acc ++ [y]) (g2.set r (.lst (acc ++ [y])))) ∨
      ∃ g1, tt s1 g = .ok false g1 ∧ P (i + 1) acc g1)) :
    ∀ (k i : Nat) (acc : List D) (g : Gp), i + k = xs.length → P i acc g → ∃ acc' g', loopC tg tt te src s r k i g = .ok (.ref r) g' ∧ P xs.length acc' g' := by
  intro k
  induction k with
  | zero =>
    intro i acc g e p
    have : i = xs.length := by omega
    subst this
    refine ⟨acc, g, ?_, p⟩
    simp [loopC, (hH _ _ _ p).1]
  | succ k ih =>
    intro i acc g e p
    have hi : i < xs.length := by omega
    have hd : xs[i]? = some xs[i] := List.getElem?_eq_getElem hi
    obtain ⟨s1, h1, h2⟩ := hs i _ acc g hd p
    have ha := (hH _ _ _ p).1 i
    rw [hd] at ha
    rcases h2 with ⟨y, g1, g2, h2, h3, h4, h5, h6⟩ | ⟨g1, h2, h6⟩
    · obtain ⟨acc', g', h7, h8⟩ := ih (i + 1) _ _ (by omega) h6
      refine ⟨acc', g', ?_, h8⟩
      simp only [loopC, ha, h1, h2, h3, h4, if_pos h5]
      exact h7
    · obtain ⟨acc', g', h7, h8⟩ := ih (i + 1) _ _ (by omega) h6
      refine ⟨acc', g', ?_, h8⟩
      simp only [loopC, ha, h1, h2]
      exact h7

/-- where nothing is changed by the elements -/
theorem lc_filter {vs : List Nat} {mi : MI} {tg : MG} {tt : MT} {te : ME} {s : Sl} {g g1 : Gp} {src : Src} {xs : List D} {f : D → D} {p : D → Bool} (hi : mi s g = .ok src g1)
    (hsrc : ∀ (L : Gp) (i : Nat), src.at (g1 ++ L) i = some xs[i]?) (hlen : src.len g1 = xs.length) (hz : xs.length ≤ 1000000)
    (he : ∀ x ∈ xs, ∀ L : List D, ∃ s1, tg x (wipeD s vs) = some s1 ∧ tt s1 (g1 ++ [.lst L]) = .ok (p x) (g1 ++ [.lst L]) ∧ (p x = true → te s1 (g1 ++ [.lst L]) = .ok (f x) (g1 ++ [.lst L]))) :
    mLc vs mi tg tt te s g = .ok (.ref g1.length) (g1 ++ [.lst ((xs.filter p).map f)]) := by
  unfold mLc
  rw [hi, R.bind_ok, hlen]
  obtain ⟨acc, g', h1, h2, h3⟩ := loopC_spec (tg := tg) (tt := tt) (te := te) (src := src) (s := wipeD s vs) (r := g1.length) (xs := xs)
    (P := fun i acc g => g = g1 ++ [.lst acc] ∧ acc = ((xs.take i).filter p).map f) (fun i acc g ⟨h, _⟩ => by
      subst h
      exact ⟨hsrc _, get_app⟩) (fun i x acc g hx ⟨h, ha⟩ => by
      subst h
      have hm : x ∈ xs := List.mem_of_getElem? hx
      obtain ⟨s1, h1, h2, h3⟩ := he x hm acc
      refine ⟨s1, h1, ?_⟩
      have ht : xs.take (i + 1) = xs.take i ++ [x] := by rw [List.take_add_one, hx]; rfl
      cases hp : p x with
      | true =>
        rw [hp] at h2
        refine .inl ⟨f x, _, _, h2, h3 hp, get_app, ?_, ?_, ?_⟩
        · rw [ha, List.length_map]
          have h4 := List.length_filter_le p (xs.take i)
          have h5 : (xs.take i).length ≤ i := List.length_take_le i xs
          have := (List.getElem?_eq_some_iff.mp hx).1
          omega
        · rw [set_app0]; rfl
        · rw [ht, List.filter_append, List.map_append, ha]
          simp [hp]
      | false =>
        rw [hp] at h2
        refine .inr ⟨_, h2, rfl, ?_⟩
        rw [ht, List.filter_append, List.map_append, ha]
        simp [hp]) xs.length 0 [] (g1 ++ [.lst []]) (by omega) ⟨rfl, by simp⟩
  rw [h1, h2, h3, List.take_length]
theorem lc_map {vs : List Nat} {mi : MI} {tg : MG} {te : ME} {s : Sl} {g g1 : Gp} {src : Src} {xs : List D} {f : D → D} (hi : mi s g = .ok src g1)
    (hsrc : ∀ (L : Gp) (i : Nat), src.at (g1 ++ L) i = some xs[i]?) (hlen : src.len g1 = xs.length) (hz : xs.length ≤ 1000000)
    (he : ∀ x ∈ xs, ∀ L : List D, ∃ s1, tg x (wipeD s vs) = some s1 ∧ te s1 (g1 ++ [.lst L]) = .ok (f x) (g1 ++ [.lst L])) :
    mLc vs mi tg tYes' te s g = .ok (.ref g1.length) (g1 ++ [.lst (xs.map f)]) := by
  have := lc_filter (p := fun _ => true) (tt := tYes') hi hsrc hlen hz fun x hx L => by
    obtain ⟨s1, h1, h2⟩ := he x hx L
    exact ⟨s1, h1, rfl, fun _ => h2⟩
  rw [this, List.filter_eq_self.mpr (fun _ _ => rfl)]
/-! ### what is walked, as a list -/
theorem src_tup (ds : List D) (g : Gp) (i : Nat) : Src.at g (.tup ds) i = some ds[i]? := rfl
theorem src_rom (ds : List D) (g : Gp) (i : Nat) : Src.at g (.rom ds) i = some ds[i]? := rfl
theorem src_lst {r : Nat} {ds : List D} {g : Gp} (h : g[r]? = some (.lst ds)) (i : Nat) : Src.at g (.lst r) i = some ds[i]? := by simp only [Src.at, h]
def rngL (lo : Int) (n : Nat) : List D := (List.range n).map fun (i : Nat) => D.int (lo + (i : Int))
theorem rngL_len (lo : Int) (n : Nat) : (rngL lo n).length = n := by simp [rngL]
theorem src_rng (lo : Int) (n : Nat) (g : Gp) (i : Nat) : Src.at g (.rng lo n) i = some (rngL lo n)[i]? := by
  simp only [Src.at, rngL, List.getElem?_map]
  by_cases h : i < n
  · rw [if_pos h, List.getElem?_range h]; rfl
  · rw [if_neg h, List.getElem?_eq_none (by simp; omega)]; rfl
theorem mem_rngL {lo : Int} {n : Nat} {x : D} (h : x ∈ rngL lo n) : ∃ i : Nat, i < n ∧ x = .int (lo + i) := by
  obtain ⟨i, h1, h2⟩ := List.mem_map.mp h
  exact ⟨i, List.mem_range.mp h1, h2.symm⟩
theorem i_rg1 {m : MA} {s : Sl} {g g1 : Gp} {j : Int} (h : m s g = .ok [.int j] g1) (h2 : -1000000000000 ≤ j ∧ j ≤ 1000000000000) : iRg1 m s g = .ok (.rng 0 j.toNat) g1 := by
  unfold iRg1
  rw [h, R.bind_ok]
  exact if_pos h2
theorem i_rg2 {m : MA} {s : Sl} {g g1 : Gp} {i j : Int} (h : m s g = .ok [.int i, .int j] g1) (h1 : -1000000000000 ≤ i ∧ i ≤ 1000000000000) (h2 : -1000000000000 ≤ j ∧ j ≤ 1000000000000) : iRg2 m s g = .ok (.rng i (j - i).toNat) g1 := by
  unfold iRg2
  rw [h, R.bind_ok]
  exact if_pos ⟨h1, h2⟩
theorem i_any_tup {m : ME} {s : Sl} {g g1 : Gp} {ds : List D} (h : m s g = .ok (.tup ds) g1) : iAny m s g = .ok (.tup ds) g1 := by
  unfold iAny
  rw [h]; rfl
theorem i_any_rom {m : ME} {s : Sl} {g g1 : Gp} {ds : List D} (h : m s g = .ok (.rom ds) g1) : iAny m s g = .ok (.rom ds) g1 := by
  unfold iAny
  rw [h]; rfl
theorem i_any_lst {m : ME} {s : Sl} {g g1 : Gp} {r : Nat} {ds : List D} (h : m s g = .ok (.ref r) g1) (h2 : g1[r]? = some (.lst ds)) : iAny m s g = .ok (.lst r) g1 := by
  unfold iAny
  rw [h, R.bind_ok]
  simp only [h2]
/-- over a tuple -/
theorem lc_tup {vs : List Nat} {m : ME} {tg : MG} {te : ME} {s : Sl} {g g1 : Gp} {xs : List D} {f : D → D} (hi : m s g = .ok (.tup xs) g1) (hz : xs.length ≤ 1000000)
    (he : ∀ x ∈ xs, ∀ L : List D, ∃ s1, tg x (wipeD s vs) = some s1 ∧ te s1 (g1 ++ [.lst L]) = .ok (f x) (g1 ++ [.lst L])) :
    mLc vs (iAny m) tg tYes' te s g = .ok (.ref g1.length) (g1 ++ [.lst (xs.map f)]) :=
  lc_map (i_any_tup hi) (fun _ => src_tup xs _) rfl hz he
theorem lc_lst {vs : List Nat} {m : ME} {tg : MG} {te : ME} {s : Sl} {g g1 : Gp} {r : Nat} {xs : List D} {f : D → D} (hi : m s g = .ok (.ref r) g1) (hr : g1[r]? = some (.lst xs)) (hz : xs.length ≤ 1000000)
    (he : ∀ x ∈ xs, ∀ L : List D, ∃ s1, tg x (wipeD s vs) = some s1 ∧ te s1 (g1 ++ [.lst L]) = .ok (f x) (g1 ++ [.lst L])) :
    mLc vs (iAny m) tg tYes' te s g = .ok (.ref g1.length) (g1 ++ [.lst (xs.map f)]) :=
  lc_map (i_any_lst hi hr) (fun L => src_lst (get_appL hr)) (by simp only [Src.len, hr]) hz he
theorem lc_rng1 {vs : List Nat} {m : MA} {tg : MG} {te : ME} {s : Sl} {g g1 : Gp} {j : Int} {f : D → D} (hi : m s g = .ok [.int j] g1) (hz : 0 ≤ j ∧ j ≤ 1000000)
    (he : ∀ i : Nat, (i : Int) < j → ∀ L : List D, ∃ s1, tg (.int i) (wipeD s vs) = some s1 ∧ te s1 (g1 ++ [.lst L]) = .ok (f (.int i)) (g1 ++ [.lst L])) :
    mLc vs (iRg1 m) tg tYes' te s g = .ok (.ref g1.length) (g1 ++ [.lst ((rngL 0 j.toNat).map f)]) :=
  lc_map (i_rg1 hi (by omega)) (fun L => src_rng _ _ _) (by rw [rngL_len]; rfl) (by rw [rngL_len]; omega) fun x hx L => by
    obtain ⟨i, h1, rfl⟩ := mem_rngL hx
    have e : (0 : Int) + (i : Int) = i := Int.zero_add _
    rw [e]
    exact he i (by omega) L
theorem lc_rng2 {vs : List Nat} {m : MA} {tg : MG} {te : ME} {s : Sl} {g g1 : Gp} {lo j : Int} {f : D → D} (hi : m s g = .ok [.int lo, .int j] g1) (h0 : -1000000000 ≤ lo ∧ lo ≤ 1000000000) (hz : -1000000000 ≤ j ∧ j ≤ 1000000000 ∧ j - lo ≤ 1000000)
    (he : ∀ i : Int, lo ≤ i → i < j → ∀ L : List D, ∃ s1, tg (.int i) (wipeD s vs) = some s1 ∧ te s1 (g1 ++ [.lst L]) = .ok (f (.int i)) (g1 ++ [.lst L])) :
    mLc vs (iRg2 m) tg tYes' te s g = .ok (.ref g1.length) (g1 ++ [.lst ((rngL lo (j - lo).toNat).map f)]) :=
  lc_map (i_rg2 hi (by omega) (by omega)) (fun L => src_rng _ _ _) (by rw [rngL_len]; rfl) (by rw [rngL_len]; omega) fun x hx L => by
    obtain ⟨i, h1, rfl⟩ := mem_rngL hx
    exact he _ (by omega) (by omega) L
end Sim
namespace Sim
open PySem PySem.Spec PyProof.Rows L2
/-- a loop over a range that may be left by break -/
theorem for_rngB {P : Nat → Sl → Gp → Prop} {Q : Sl → Gp → Prop} {tg : MG} {b : MS} {lo : Int} {n : Nat}
    (hs : ∀ i s g, i < n → P i s g → ∃ s1, tg (.int (lo + i)) s = some s1 ∧ ((∃ s2 g2, (b s1 g = .nx s2 g2 ∨ b s1 g = .ct s2 g2) ∧ P (i + 1) s2 g2) ∨ ∃ s2 g2, b s1 g = .bk s2 g2 ∧ Q s2 g2)) (hd : ∀ s g, P n s g → Q s g) :
    ∀ (k i : Nat) (s : Sl) (g : Gp), i + k = n → P i s g → ∃ s' g', loopF tg b (.rng lo n) k i s g = .nx s' g' ∧ Q s' g' := by
  intro k
  induction k with
  | zero =>
    intro i s g e p
    have : i = n := by omega
    subst this
    refine ⟨s, g, ?_, hd _ _ p⟩
    simp [loopF, Src.at]
  | succ k ih =>
    intro i s g e p
    have hi : i < n := by omega
    obtain ⟨s1, h1, h2⟩ := hs i s g hi p
    rcases h2 with ⟨s2, g2, h2, h3⟩ | ⟨s2, g2, h2, h3⟩
    · obtain ⟨s', g', h4, h5⟩ := ih (i + 1) s2 g2 (by omega) h3
      refine ⟨s', g', ?_, h5⟩
      rcases h2 with h2 | h2 <;> simp [loopF, Src.at, hi, h1, h2, h4]
    · exact ⟨s2, g2, by simp [loopF, Src.at, hi, h1, h2], h3⟩
theorem for_rngB0 {P : Nat → Sl → Gp → Prop} {Q : Sl → Gp → Prop} {tg : MG} {b : MS} {lo : Int} {n : Nat} {s : Sl} {g : Gp} (h0 : P 0 s g)
    (hs : ∀ i s g, i < n → P i s g → ∃ s1, tg (.int (lo + i)) s = some s1 ∧ ((∃ s2 g2, (b s1 g = .nx s2 g2 ∨ b s1 g = .ct s2 g2) ∧ P (i + 1) s2 g2) ∨ ∃ s2 g2, b s1 g = .bk s2 g2 ∧ Q s2 g2)) (hd : ∀ s g, P n s g → Q s g) :
    ∃ s' g', loopF tg b (.rng lo n) (Src.len g (.rng lo n)) 0 s g = .nx s' g' ∧ Q s' g' := for_rngB hs hd n 0 s g (by omega) h0
/-- a loop over a range that may return -/
theorem for_rngR {P : Nat → Sl → Gp → Prop} {Q : F → Prop} {tg : MG} {b : MS} {lo : Int} {n : Nat}
    (hs : ∀ i s g, i < n → P i s g → ∃ s1, tg (.int (lo + i)) s = some s1 ∧ ((∃ s2 g2, (b s1 g = .nx s2 g2 ∨ b s1 g = .ct s2 g2) ∧ P (i + 1) s2 g2) ∨ ∃ d g2, b s1 g = .rt d g2 ∧ Q (.rt d g2))) (hd : ∀ s g, P n s g → Q (.nx s g)) :
    ∀ (k i : Nat) (s : Sl) (g : Gp), i + k = n → P i s g → Q (loopF tg b (.rng lo n) k i s g) := by
  intro k
  induction k with
  | zero =>
    intro i s g e p
    have : i = n := by omega
    subst this
    have : loopF tg b (.rng lo i) 0 i s g = .nx s g := by simp [loopF, Src.at]
    rw [this]
    exact hd _ _ p
  | succ k ih =>
    intro i s g e p
    have hi : i < n := by omega
    obtain ⟨s1, h1, h2⟩ := hs i s g hi p
    rcases h2 with ⟨s2, g2, h2, h3⟩ | ⟨d, g2, h2, h3⟩
    · have := ih (i + 1) s2 g2 (by omega) h3
      rcases h2 with h2 | h2 <;> simp [loopF, Src.at, hi, h1, h2, this]
    · simp [loopF, Src.at, hi, h1, h2, h3]
theorem for_rngR0 {P : Nat → Sl → Gp → Prop} {Q : F → Prop} {tg : MG} {b : MS} {lo : Int} {n : Nat} {s : Sl} {g : Gp} (h0 : P 0 s g)
    (hs : ∀ i s g, i < n → P i s g → ∃ s1, tg (.int (lo + i)) s = some s1 ∧ ((∃ s2 g2, (b s1 g = .nx s2 g2 ∨ b s1 g = .ct s2 g2) ∧ P (i + 1) s2 g2) ∨ ∃ d g2, b s1 g = .rt d g2 ∧ Q (.rt d g2))) (hd : ∀ s g, P n s g → Q (.nx s g)) :
    Q (loopF tg b (.rng lo n) (Src.len g (.rng lo n)) 0 s g) := for_rngR hs hd n 0 s g (by omega) h0
/-- a while by what holds of it; μ falls -/
theorem while_spec {P : Sl → Gp → Prop} {Q : F → Prop} {μ : Sl → Gp → Nat} {c : MT} {b : MS}
    (hs : ∀ s g, P s g → (∃ g1, c s g = .ok false g1 ∧ Q (.nx s g1)) ∨ ∃ g1, c s g = .ok true g1 ∧ ((∃ s2 g2, (b s g1 = .nx s2 g2 ∨ b s g1 = .ct s2 g2) ∧ P s2 g2 ∧ μ s2 g2 < μ s g) ∨ (∃ d g2, b s g1 = .rt d g2 ∧ Q (.rt d g2)))) :
    ∀ (k : Nat) (s : Sl) (g : Gp), μ s g < k → P s g → Q (whileF c b k s g) := by
  intro k
  induction k with
  | zero => intro s g h; omega
  | succ k ih =>
    intro s g h p
    rcases hs s g p with ⟨g1, h1, h2⟩ | ⟨g1, h1, h2⟩
    · simp only [whileF, h1]; exact h2
    · rcases h2 with ⟨s2, g2, h2, h3, h4⟩ | ⟨d, g2, h2, h3⟩
      · have := ih s2 g2 (by omega) h3
        rcases h2 with h2 | h2 <;> simp only [whileF, h1, h2] <;> exact this
      · simp only [whileF, h1, h2]; exact h3
end Sim

end
section
set_option maxRecDepth 100000
set_option maxHeartbeats 1000000
/-! Sim9: a closed call answers the same in a greater heap. -/
namespace Sim
open PySem PySem.Spec PyProof.Rows L2

/-! ### shifted references -/
mutual
def D.sh (n : Nat) : D → D
  | .non => .non
  | .bl b => .bl b
  | .int i => .int i
  | .str x => .str x
  | .ty c => .ty c
  | .tup ds => .tup (D.shs n ds)
  | .rom ds => .rom (D.shs n ds)
  | .ref i => .ref (n + i)
def D.shs (n : Nat) : List D → List D
  | [] => []
  | d :: ds => D.sh n d :: D.shs n ds
end
theorem shs_map (n : Nat) : ∀ ds : List D, D.shs n ds = ds.map (D.sh n)
  | [] => rfl
  | d :: ds => by rw [D.shs, shs_map n ds]; rfl
def O.sh (n : Nat) : O → O
  | .lst ds => .lst (ds.map (D.sh n))
  | .dct kvs => .dct (kvs.map fun p => (p.1.sh n, p.2.sh n))
  | .ins c fs => .ins c (fs.map fun p => (p.1, p.2.sh n))
theorem sh_tup (n : Nat) (ds : List D) : D.sh n (.tup ds) = .tup (ds.map (D.sh n)) := by rw [D.sh, shs_map]
theorem sh_rom (n : Nat) (ds : List D) : D.sh n (.rom ds) = .rom (ds.map (D.sh n)) := by rw [D.sh, shs_map]
mutual
theorem sh_inj (n : Nat) : ∀ a b : D, D.sh n a = D.sh n b → a = b
  | .non, b, h => by cases b <;> simp [D.sh] at h ⊢
  | .bl a, b, h => by cases b <;> simp [D.sh] at h ⊢; exact h
  | .int a, b, h => by cases b <;> simp [D.sh] at h ⊢; exact h
  | .str a, b, h => by cases b <;> simp [D.sh] at h ⊢; exact h
  | .ty a, b, h => by cases b <;> simp [D.sh] at h ⊢; exact h
  | .tup a, b, h => by cases b <;> simp [D.sh] at h ⊢; exact shs_inj n _ _ h
  | .rom a, b, h => by cases b <;> simp [D.sh] at h ⊢; exact shs_inj n _ _ h
  | .ref a, b, h => by cases b <;> simp [D.sh] at h ⊢; exact h
theorem shs_inj (n : Nat) : ∀ a b : List D, D.shs n a = D.shs n b → a = b
  | [], b, h => by cases b <;> simp [D.shs] at h ⊢
  | a :: as, b, h => by
    cases b with
    | nil => simp [D.shs] at h
    | cons b bs =>
      simp only [D.shs, List.cons.injEq] at h
      rw [sh_inj n a b h.1, shs_inj n as bs h.2]
end
theorem map_inj_of {α β : Type} {f : α → β} (hf : ∀ a b, f a = f b → a = b) : ∀ (xs ys : List α), xs.map f = ys.map f → xs = ys
  | [], [], _ => rfl
  | [], _ :: _, h => by simp at h
  | _ :: _, [], h => by simp at h
  | x :: xs, y :: ys, h => by
    simp only [List.map_cons, List.cons.injEq] at h
    rw [hf x y h.1, map_inj_of hf xs ys h.2]
theorem osh_inj (n : Nat) (a b : O) (h : O.sh n a = O.sh n b) : a = b := by
  cases a <;> cases b <;> simp only [O.sh, O.lst.injEq, O.dct.injEq, O.ins.injEq, reduceCtorEq] at h ⊢
  · exact map_inj_of (sh_inj n) _ _ h
  · refine map_inj_of (fun p q e => ?_) _ _ h
    simp only [Prod.mk.injEq] at e
    exact Prod.ext (sh_inj n _ _ e.1) (sh_inj n _ _ e.2)
  · refine ⟨h.1, map_inj_of (fun p q e => ?_) _ _ h.2⟩
    simp only [Prod.mk.injEq] at e
    exact Prod.ext e.1 (sh_inj n _ _ e.2)
mutual
theorem sh_under (n k : Nat) : ∀ d : D, (D.sh n d).under (n + k) = d.under k
  | .non => rfl
  | .bl _ => rfl
  | .int _ => rfl
  | .str _ => rfl
  | .ty _ => rfl
  | .tup ds => by rw [D.sh, D.under, D.under]; exact shs_under n k ds
  | .rom ds => by rw [D.sh, D.under, D.under]; exact shs_under n k ds
  | .ref i => by
    rw [D.sh, D.under, D.under]
    exact decide_eq_decide.mpr (by omega)
theorem shs_under (n k : Nat) : ∀ ds : List D, D.unders (n + k) (D.shs n ds) = D.unders k ds
  | [] => rfl
  | d :: ds => by rw [D.shs, D.unders, D.unders, sh_under n k d, shs_under n k ds]
end
def fr (b g : Gp) : Gp := b ++ g.map (O.sh b.length)
section
variable {b g g' : Gp}
theorem fr_nil : fr b [] = b := by simp [fr]
theorem fr_len : (fr b g).length = b.length + g.length := by simp [fr]
theorem fr_get (i : Nat) : (fr b g)[b.length + i]? = (g[i]?).map (O.sh b.length) := by
  unfold fr
  rw [List.getElem?_append_right (by omega), Nat.add_sub_cancel_left, List.getElem?_map]
theorem fr_app (o : O) : fr b (g ++ [o]) = fr b g ++ [o.sh b.length] := by simp [fr]
theorem fr_set (i : Nat) (o : O) : fr b (g.set i o) = (fr b g).set (b.length + i) (o.sh b.length) := by
  unfold fr
  rw [List.set_append_right _ _ (by omega), Nat.add_sub_cancel_left, List.map_set]
theorem fr_pre : Pre (fr b g) (fr b g') ↔ Pre g g' := by
  constructor
  · intro h i o e
    have h1 := h (b.length + i) (o.sh b.length) (by rw [fr_get, e]; rfl)
    rw [fr_get] at h1
    obtain ⟨o', h2, h3⟩ := Option.map_eq_some_iff.mp h1
    rw [h2, osh_inj _ _ _ h3]
  · intro h i o e
    by_cases hi : i < b.length
    · unfold fr at e ⊢
      rw [List.getElem?_append_left hi] at e ⊢
      exact e
    · obtain ⟨j, rfl⟩ : ∃ j, i = b.length + j := ⟨i - b.length, by omega⟩
      rw [fr_get] at e ⊢
      obtain ⟨o', h2, h3⟩ := Option.map_eq_some_iff.mp e
      rw [h j o' h2, Option.map_some, h3]
end

/-! ### the same answer -/
def Up {α β : Type} (b : Gp) (f : α → β) (r : R α) (r' : R β) : Prop := match r with
  | .ok a g => r' = .ok (f a) (fr b g)
  | .exc c d g => r' = .exc c (d.sh b.length) (fr b g)
  | .bad => True
theorem Up.bad {α β : Type} {b : Gp} {f : α → β} {r' : R β} : Up b f .bad r' := trivial
theorem Up.bind {α β α' β' : Type} {b : Gp} {f : α → β} {f' : α' → β'} {r : R α} {r' : R β} {k : α → Gp → R α'} {k' : β → Gp → R β'} (h : Up b f r r') (hk : ∀ a g, Up b f' (k a g) (k' (f a) (fr b g))) : Up b f' (r.bind k) (r'.bind k') := by
  cases r with
  | ok a g => cases h; exact hk a g
  | exc c d g => cases h; exact rfl
  | bad => trivial
theorem Up.ite {α β : Type} {b : Gp} {f : α → β} {c : Prop} [Decidable c] {r1 : R α} {r2 : R β} (h : Up b f r1 r2) : Up b f (if c then r1 else .bad) (if c then r2 else .bad) := by
  by_cases hc : c
  · rw [if_pos hc, if_pos hc]; exact h
  · rw [if_neg hc, if_neg hc]; trivial
theorem Up.ite2 {α β : Type} {b : Gp} {f : α → β} {c : Prop} [Decidable c] {r1 q1 : R α} {r2 q2 : R β} (h : Up b f r1 r2) (h' : Up b f q1 q2) : Up b f (if c then r1 else q1) (if c then r2 else q2) := by
  by_cases hc : c
  · rw [if_pos hc, if_pos hc]; exact h
  · rw [if_neg hc, if_neg hc]; exact h'
/-- slots: what is unset here may be anything there -/
def mgS (n : Nat) : Sl → Sl → Sl
  | _, [] => []
  | T, some d :: s => some (d.sh n) :: mgS n T.tail s
  | T, none :: s => T.head?.join :: mgS n T.tail s
theorem mg_len (n : Nat) : ∀ (s T : Sl), (mgS n T s).length = s.length
  | [], T => by simp [mgS]
  | some d :: s, T => by simp [mgS, mg_len n s]
  | none :: s, T => by simp [mgS, mg_len n s]
theorem mg_get (n : Nat) : ∀ (s T : Sl) (i : Nat) (d : D), s[i]? = some (some d) → (mgS n T s)[i]? = some (some (d.sh n))
  | [], T, i, d, h => by simp at h
  | some x :: s, T, 0, d, h => by simp at h; subst h; simp [mgS]
  | none :: s, T, 0, d, h => by simp at h
  | some x :: s, T, i + 1, d, h => by rw [mgS]; exact mg_get n s T.tail i d (by simpa using h)
  | none :: s, T, i + 1, d, h => by rw [mgS]; exact mg_get n s T.tail i d (by simpa using h)
theorem mg_none (n : Nat) : ∀ (s T : Sl) (i : Nat), s[i]? = some none → (mgS n T s)[i]? = some ((T[i]?).join)
  | [], T, i, h => by simp at h
  | some x :: s, T, 0, h => by simp at h
  | none :: s, T, 0, h => by cases T <;> simp [mgS]
  | some x :: s, T, i + 1, h => by
    rw [mgS, List.getElem?_cons_succ, mg_none n s T.tail i (by simpa using h)]
    cases T <;> simp
  | none :: s, T, i + 1, h => by
    rw [mgS, List.getElem?_cons_succ, mg_none n s T.tail i (by simpa using h)]
    cases T <;> simp
theorem mg_set (n : Nat) : ∀ (s T : Sl) (i : Nat) (d : D), mgS n T (s.set i (some d)) = (mgS n T s).set i (some (d.sh n))
  | [], T, i, d => by simp [mgS]
  | some x :: s, T, 0, d => by simp [mgS]
  | none :: s, T, 0, d => by simp [mgS]
  | some x :: s, T, i + 1, d => by simp [mgS, mg_set n s]
  | none :: s, T, i + 1, d => by simp [mgS, mg_set n s]
theorem mg_wipe1 (n : Nat) : ∀ (s T : Sl) (i : Nat), mgS n (T.set i none) (s.set i none) = (mgS n T s).set i none
  | [], T, i => by simp [mgS]
  | some x :: s, [], 0 => by simp [mgS]
  | some x :: s, t :: T, 0 => by simp [mgS]
  | none :: s, [], 0 => by simp [mgS]
  | none :: s, t :: T, 0 => by simp [mgS]
  | some x :: s, [], i + 1 => by simpa [mgS] using mg_wipe1 n s [] i
  | some x :: s, t :: T, i + 1 => by simpa [mgS] using mg_wipe1 n s T i
  | none :: s, [], i + 1 => by simpa [mgS] using mg_wipe1 n s [] i
  | none :: s, t :: T, i + 1 => by simpa [mgS] using mg_wipe1 n s T i
theorem mg_wipe (n : Nat) (s T : Sl) : ∀ vs : List Nat, wipeD (mgS n T s) vs = mgS n (wipeD T vs) (wipeD s vs)
  | [] => rfl
  | v :: vs => by rw [wipeD, wipeD, wipeD, mg_wipe1, mg_wipe n s T vs]
theorem mg_slots (n k : Nat) (ds : List D) : mgS n [] (slots k ds) = slots k (ds.map (D.sh n)) := by
  unfold slots
  rw [List.length_map]
  have hr : ∀ m : Nat, mgS n [] (List.replicate m none) = List.replicate m none := fun m => by
    induction m with
    | zero => simp [mgS]
    | succ m ih => rw [List.replicate_succ, mgS, List.tail_nil, ih]; rfl
  generalize k - ds.length = m
  induction ds with
  | nil => simpa using hr m
  | cons d ds ih => simp only [List.map_cons, List.cons_append, mgS, List.tail_nil, ih]

def FE (m : ME) : Prop := ∀ (b : Gp) (T s : Sl) (g : Gp), Up b (D.sh b.length) (m s g) (m (mgS b.length T s) (fr b g))
def FT (m : MT) : Prop := ∀ (b : Gp) (T s : Sl) (g : Gp), Up b id (m s g) (m (mgS b.length T s) (fr b g))
def FA (m : MA) : Prop := ∀ (b : Gp) (T s : Sl) (g : Gp), Up b (List.map (D.sh b.length)) (m s g) (m (mgS b.length T s) (fr b g))
def FO (m : MO) : Prop := ∀ (b : Gp) (T s : Sl) (g : Gp), Up b id (m s g) (m (mgS b.length T s) (fr b g))
def FD (f : D → D → Gp → R D) : Prop := ∀ (b : Gp) (x y : D) (g : Gp), Up b (D.sh b.length) (f x y g) (f (x.sh b.length) (y.sh b.length) (fr b g))
def FU (f : D → Gp → R D) : Prop := ∀ (b : Gp) (x : D) (g : Gp), Up b (D.sh b.length) (f x g) (f (x.sh b.length) (fr b g))
def FF (f : MF) : Prop := ∀ (b : Gp) (ds : List D) (g : Gp), Up b (D.sh b.length) (f ds g) (f (ds.map (D.sh b.length)) (fr b g))
def FM (f : D → MF) : Prop := ∀ (b : Gp) (d : D) (ds : List D) (g : Gp), Up b (D.sh b.length) (f d ds g) (f (d.sh b.length) (ds.map (D.sh b.length)) (fr b g))
def FG (tg : MG) : Prop := ∀ (n : Nat) (T s s' : Sl) (d : D), tg d s = some s' → tg (d.sh n) (mgS n T s) = some (mgS n T s')
def FGs (tg : MGs) : Prop := ∀ (n : Nat) (T s s' : Sl) (ds : List D), tg ds s = some s' → tg (ds.map (D.sh n)) (mgS n T s) = some (mgS n T s')
/-- a constant without references -/
def Flat (d : D) : Prop := ∀ n, d.sh n = d

theorem fe_var (i : Nat) : FE (mVar i) := fun b T s g => by
  unfold mVar
  split
  · rename_i d e
    rw [mg_get _ _ _ _ _ e]
    exact rfl
  · trivial
theorem fe_c {d : D} (h : Flat d) : FE (mC d) := fun b T s g => by
  show _ = _
  rw [h]; rfl
theorem fe_op {f : D → D → Gp → R D} {m m' : ME} (hf : FD f) (h : FE m) (h' : FE m') : FE (mOp f m m') := fun b T s g =>
  (h b T s g).bind fun x g1 => (h' b T s g1).bind fun y g2 => hf b x y g2
theorem fe_un {f : D → Gp → R D} {m : ME} (hf : FU f) (h : FE m) : FE (mUn f m) := fun b T s g => (h b T s g).bind fun x g1 => hf b x g1
theorem fa_nil : FA mNil := fun _ _ _ _ => rfl
theorem fa_cons {m : ME} {a : MA} (h : FE m) (h' : FA a) : FA (mCons m a) := fun b T s g =>
  (h b T s g).bind fun x g1 => (h' b T s g1).bind fun xs g2 => rfl
theorem fe_call {f : MF} {a : MA} (hf : FF f) (h : FA a) : FE (mCall f a) := fun b T s g => (h b T s g).bind fun xs g1 => hf b xs g1
theorem fe_tup {a : MA} (h : FA a) : FE (mTup a) := fun b T s g => (h b T s g).bind fun xs g1 => by
  rw [List.length_map]
  exact Up.ite (by show _ = _; rw [sh_tup])
theorem fe_lst {a : MA} (h : FA a) : FE (mLst a) := fun b T s g => (h b T s g).bind fun xs g1 => by
  rw [List.length_map]
  refine Up.ite ?_
  show _ = _
  rw [fr_app, fr_len]
  rfl
theorem fe_and {m m' : ME} (h : FE m) (h' : FE m') : FE (mAnd m m') := fun b T s g => (h b T s g).bind fun x g1 => by
  cases x with
  | bl k => cases k with
    | true => exact h' b T s g1
    | false => exact rfl
  | _ => trivial
theorem fe_or {m m' : ME} (h : FE m) (h' : FE m') : FE (mOr m m') := fun b T s g => (h b T s g).bind fun x g1 => by
  cases x with
  | bl k => cases k with
    | false => exact h' b T s g1
    | true => exact rfl
  | _ => trivial
theorem fe_not {m : ME} (h : FE m) : FE (mNot m) := fun b T s g => (h b T s g).bind fun x g1 => by
  cases x with
  | bl k => exact rfl
  | _ => trivial
theorem fe_chain {f f' : D → D → Gp → R D} {m m1 m2 : ME} (hf : FD f) (hf' : FD f') (h : FE m) (h1 : FE m1) (h2 : FE m2) : FE (mChain f f' m m1 m2) := fun b T s g =>
  (h b T s g).bind fun x g1 => (h1 b T s g1).bind fun y g2 => (hf b x y g2).bind fun z g3 => by
    cases z with
    | bl k => cases k with
      | true => exact (h2 b T s g3).bind fun w g4 => hf' b y w g4
      | false => exact rfl
    | _ => trivial
theorem ft_and {m m' : MT} (h : FT m) (h' : FT m') : FT (tAnd' m m') := fun b T s g => (h b T s g).bind fun x g1 => by
  cases x with
  | true => exact h' b T s g1
  | false => exact rfl
theorem ft_or {m m' : MT} (h : FT m) (h' : FT m') : FT (tOr' m m') := fun b T s g => (h b T s g).bind fun x g1 => by
  cases x with
  | false => exact h' b T s g1
  | true => exact rfl
theorem ft_not {m : MT} (h : FT m) : FT (tNot' m) := fun b T s g => (h b T s g).bind fun x g1 => rfl
theorem fe_if {t : MT} {m m' : ME} (ht : FT t) (h : FE m) (h' : FE m') : FE (mIf t m m') := fun b T s g => (ht b T s g).bind fun x g1 => by
  cases x with
  | true => exact h b T s g1
  | false => exact h' b T s g1
theorem ft_isb {m : ME} (h : FE m) : FT (isB m) := fun b T s g => (h b T s g).bind fun x g1 => by
  cases x with
  | bl k => exact rfl
  | _ => trivial
theorem f_lst {b g : Gp} {i : Nat} {ds : List D} (e : g[i]? = some (.lst ds)) : (fr b g)[b.length + i]? = some (.lst (ds.map (D.sh b.length))) := by rw [fr_get, e]; rfl
theorem isEmpty_map {α β : Type} (f : α → β) : ∀ xs : List α, (xs.map f).isEmpty = xs.isEmpty
  | [] => rfl
  | _ :: _ => rfl
theorem ft_tru {m : ME} (h : FE m) : FT (tTru m) := fun b T s g => (h b T s g).bind fun x g1 => by
  cases x with
  | ty c => trivial
  | tup ds => show _ = _; rw [sh_tup]; simp [truD, isEmpty_map]
  | rom ds => show _ = _; rw [sh_rom]; simp [truD, isEmpty_map]
  | str y => exact Up.ite rfl
  | ref i =>
    simp only [truD, D.sh]
    split
    · rename_i e
      rw [f_lst e]
      show _ = _
      simp [isEmpty_map]
    · trivial
  | _ => exact rfl
theorem ft_yes : FT tYes' := fun _ _ _ _ => rfl
theorem fo_none : FO oNone := fun _ _ _ _ => rfl
theorem fo_some {m : ME} (h : FE m) : FO (oSome m) := fun b T s g => (h b T s g).bind fun x g1 => by
  cases x with
  | int i => exact rfl
  | _ => trivial
theorem cutD_map (f : D → D) (ds : List D) (lo hi : Option Int) : cutD (ds.map f) lo hi = (cutD ds lo hi).map f := by
  unfold cutD
  rw [List.length_map, List.map_take, List.map_drop]
theorem fe_sl {m : ME} {lo hi : MO} (h : FE m) (h1 : FO lo) (h2 : FO hi) : FE (mSl m lo hi) := fun b T s g =>
  (h b T s g).bind fun x g1 => (h1 b T s g1).bind fun l g2 => (h2 b T s g2).bind fun u g3 => by
    cases x with
    | tup ds => show _ = _; rw [sh_tup]; simp only [slD, id, cutD_map, sh_tup]
    | rom ds => show _ = _; rw [sh_rom]; simp only [slD, id, cutD_map, fr_app, fr_len]; rfl
    | ref a =>
      simp only [slD, D.sh]
      split
      · rename_i e
        rw [f_lst e]
        show _ = _
        simp only [id, cutD_map, fr_app, fr_len]
        rfl
      · trivial
    | str z => exact Up.ite rfl
    | _ => trivial
theorem fg_n (i : Nat) : FG (gN i) := fun n T s s' d h => by
  cases h
  unfold gN
  rw [mg_set]
theorem fg_nil : FGs gNil' := fun n T s s' ds h => by
  cases ds with
  | nil => cases h; rfl
  | cons d ds => cases h
theorem fg_cons {a : MG} {r : MGs} (h : FG a) (h' : FGs r) : FGs (gCons' a r) := fun n T s s' ds e => by
  cases ds with
  | nil => cases e
  | cons d ds =>
    obtain ⟨s1, h1, h2⟩ := Option.bind_eq_some_iff.mp (show (a d s).bind (fun s1 => r ds s1) = some s' from e)
    show (a (d.sh n) (mgS n T s)).bind _ = _
    rw [h n T s s1 d h1]
    exact h' n T s1 s' ds h2
theorem fg_t {k : Nat} {r : MGs} (h : FGs r) : FG (gT k r) := fun n T s s' d e => by
  cases d with
  | tup ds =>
    rw [sh_tup]
    unfold gT at e ⊢
    dsimp only at e ⊢
    rw [List.length_map]
    by_cases hk : ds.length = k
    · rw [if_pos hk] at e ⊢; exact h n T s s' ds e
    · rw [if_neg hk] at e; cases e
  | _ => cases e

/-! ### what is walked -/
def Src.sh (n : Nat) : Src → Src
  | .tup ds => .tup (ds.map (D.sh n))
  | .rom ds => .rom (ds.map (D.sh n))
  | .lst r => .lst (n + r)
  | .rng lo k => .rng lo k
  | .rngC lo c k => .rngC lo c k
  | .revT ds => .revT (ds.map (D.sh n))
  | .revL r k => .revL (n + r) k
  | .enum r => .enum (n + r)
  | .zip a b => .zip (n + a) (n + b)
  | .zipT xs ys => .zipT (xs.map (D.sh n)) (ys.map (D.sh n))
def FI (m : MI) : Prop := ∀ (b : Gp) (T s : Sl) (g : Gp), Up b (Src.sh b.length) (m s g) (m (mgS b.length T s) (fr b g))
theorem src_at {b g : Gp} {src : Src} {i : Nat} {o : Option D} (h : src.at g i = some o) : (src.sh b.length).at (fr b g) i = some (o.map (D.sh b.length)) := by
  cases src with
  | tup ds => cases h; simp [Src.sh, Src.at]
  | rom ds => cases h; simp [Src.sh, Src.at]
  | lst r =>
    simp only [Src.at, Src.sh] at h ⊢
    split at h
    · rename_i e; rw [f_lst e]; cases h; simp
    · cases h
  | rng lo k => cases h; simp only [Src.sh, Src.at]; split <;> rfl
  | rngC lo c k => cases h; simp only [Src.sh, Src.at]; split <;> rfl
  | revT ds => cases h; simp only [Src.sh, Src.at, List.length_map]; split <;> simp
  | revL r k =>
    simp only [Src.at, Src.sh] at h ⊢
    split at h
    · rename_i ds e
      rw [f_lst e]
      dsimp only
      split at h
      · rename_i hk
        rw [if_pos hk, List.getElem?_map]
        split at h
        · rename_i d e1; cases h; rw [e1]; rfl
        · cases h
      · rename_i hk
        rw [if_neg hk]; cases h; rfl
    · cases h
  | enum r =>
    simp only [Src.at, Src.sh] at h ⊢
    split at h
    · rename_i ds e
      rw [f_lst e]
      cases h
      simp only [List.getElem?_map]
      cases ds[i]? with
      | none => rfl
      | some d => simp [D.sh, D.shs]
    · cases h
  | zip x y =>
    simp only [Src.at, Src.sh] at h ⊢
    split at h
    · rename_i xs ys e1 e2
      rw [f_lst e1, f_lst e2]
      cases h
      simp only [List.getElem?_map]
      cases xs[i]? <;> cases ys[i]? <;> simp [sh_tup]
    · cases h
  | zipT xs ys =>
    simp only [Src.at, Src.sh] at h ⊢
    cases h
    simp only [List.getElem?_map]
    cases xs[i]? <;> cases ys[i]? <;> simp [sh_tup]
theorem fi_any {m : ME} (h : FE m) : FI (iAny m) := fun b T s g => (h b T s g).bind fun x g1 => by
  cases x with
  | tup ds => show _ = _; rw [sh_tup]; rfl
  | rom ds => show _ = _; rw [sh_rom]; rfl
  | ref r =>
    simp only [D.sh]
    split
    · rename_i e; rw [f_lst e]; exact rfl
    · trivial
  | _ => trivial
theorem fi_rv {m : ME} (h : FE m) : FI (iRv m) := fun b T s g => (h b T s g).bind fun x g1 => by
  cases x with
  | tup ds => show _ = _; rw [sh_tup]; rfl
  | ref r =>
    simp only [D.sh]
    split
    · rename_i e; rw [f_lst e]; show _ = _; simp [Src.sh]
    · trivial
  | _ => trivial
theorem fi_rg1 {a : MA} (h : FA a) : FI (iRg1 a) := fun b T s g => (h b T s g).bind fun xs g1 => by
  rcases xs with _ | ⟨x, _ | ⟨y, xs⟩⟩
  · trivial
  · cases x with
    | int j => exact Up.ite rfl
    | _ => trivial
  · cases x <;> trivial
theorem fi_rg2 {a : MA} (h : FA a) : FI (iRg2 a) := fun b T s g => (h b T s g).bind fun xs g1 => by
  rcases xs with _ | ⟨x, _ | ⟨y, _ | ⟨z, xs⟩⟩⟩
  · trivial
  · cases x <;> trivial
  · cases x with
    | int i => cases y with
      | int j => exact Up.ite rfl
      | _ => trivial
    | _ => cases y <;> trivial
  · cases x <;> cases y <;> trivial
theorem fi_rgD {a : MA} (h : FA a) : FI (iRgD a) := fun b T s g => (h b T s g).bind fun xs g1 => by
  rcases xs with _ | ⟨x, _ | ⟨y, _ | ⟨z, _ | ⟨w, xs⟩⟩⟩⟩
  · trivial
  · cases x <;> trivial
  · cases x <;> cases y <;> trivial
  · cases x with
    | int i => cases y with
      | int j => cases z with
        | int c => exact Up.ite rfl
        | _ => trivial
      | _ => cases z <;> trivial
    | _ => cases y <;> cases z <;> trivial
  · cases x <;> cases y <;> cases z <;> trivial
theorem fi_en {a : MA} (h : FA a) : FI (iEn a) := fun b T s g => (h b T s g).bind fun xs g1 => by
  rcases xs with _ | ⟨x, _ | ⟨y, xs⟩⟩
  · trivial
  · cases x with
    | ref r =>
      simp only [List.map_cons, List.map_nil, D.sh]
      split
      · rename_i e; rw [f_lst e]; exact rfl
      · trivial
    | _ => trivial
  · cases x <;> trivial
theorem fi_zp {a : MA} (h : FA a) : FI (iZp a) := fun b T s g => (h b T s g).bind fun xs g1 => by
  rcases xs with _ | ⟨x, _ | ⟨y, _ | ⟨z, xs⟩⟩⟩
  · trivial
  · cases x <;> trivial
  · cases x with
    | ref r => cases y with
      | ref q =>
        simp only [List.map_cons, List.map_nil, D.sh]
        split
        · rename_i e1 e2; rw [f_lst e1, f_lst e2]; exact rfl
        · trivial
      | _ => trivial
    | tup ds => cases y with
      | tup es => show _ = _; simp only [List.map_cons, List.map_nil, sh_tup]; rfl
      | _ => trivial
    | _ => cases y <;> trivial
  · cases x <;> cases y <;> trivial

/-! ### blocks -/
def UpF (b : Gp) (T : Sl) (r r' : F) : Prop := match r with
  | .nx s g => r' = .nx (mgS b.length T s) (fr b g)
  | .rt d g => r' = .rt (d.sh b.length) (fr b g)
  | .bk s g => r' = .bk (mgS b.length T s) (fr b g)
  | .ct s g => r' = .ct (mgS b.length T s) (fr b g)
  | .exc c d g => r' = .exc c (d.sh b.length) (fr b g)
  | .bad => True
def FS (m : MS) : Prop := ∀ (b : Gp) (T s : Sl) (g : Gp), UpF b T (m s g) (m (mgS b.length T s) (fr b g))
theorem Up.go {α β : Type} {b : Gp} {T : Sl} {f : α → β} {r : R α} {r' : R β} {k : α → Gp → F} {k' : β → Gp → F} (h : Up b f r r') (hk : ∀ a g, UpF b T (k a g) (k' (f a) (fr b g))) : UpF b T (r.go k) (r'.go k') := by
  cases r with
  | ok a g => cases h; exact hk a g
  | exc c d g => cases h; exact rfl
  | bad => trivial
theorem fs_next : FS sNext := fun _ _ _ _ => rfl
theorem fs_break : FS sBreak := fun _ _ _ _ => rfl
theorem fs_cont : FS sCont := fun _ _ _ _ => rfl
theorem fs_retn : FS sRetN := fun _ _ _ _ => rfl
theorem fs_bad : FS sBad := fun _ _ _ _ => trivial
theorem fs_seq {m m' : MS} (h : FS m) (h' : FS m') : FS (sSeq m m') := fun b T s g => by
  unfold sSeq
  have := h b T s g
  cases e : m s g with
  | nx s1 g1 => rw [e] at this; rw [show m (mgS b.length T s) (fr b g) = _ from this]; exact h' b T s1 g1
  | bad => trivial
  | _ => rw [e] at this; rw [show m (mgS b.length T s) (fr b g) = _ from this]; exact rfl
theorem fs_drop {m : ME} (h : FE m) : FS (sDrop m) := fun b T s g => (h b T s g).go fun _ _ => rfl
theorem fs_ret {m : ME} (h : FE m) : FS (sRet m) := fun b T s g => (h b T s g).go fun _ _ => rfl
theorem fs_if {t : MT} {m m' : MS} (ht : FT t) (h : FS m) (h' : FS m') : FS (sIf t m m') := fun b T s g => (ht b T s g).go fun x g1 => by
  cases x with
  | true => exact h b T s g1
  | false => exact h' b T s g1
theorem fs_set {tg : MG} {m : ME} (ht : FG tg) (h : FE m) : FS (sSet tg m) := fun b T s g => (h b T s g).go fun d g1 => by
  cases e : tg d s with
  | none => trivial
  | some s1 =>
    rw [ht b.length T s s1 d e]
    exact rfl
theorem fs_aug {i : Nat} {f : D → D → Gp → R D} {m : ME} (hf : FD f) (h : FE m) : FS (sAug i f m) := fun b T s g => by
  unfold sAug
  split
  · rename_i x e
    rw [mg_get _ _ _ _ _ e]
    refine (h b T s g).go fun y g1 => (hf b x y g1).go fun z g2 => ?_
    show _ = _
    rw [mg_set]
  · trivial
def FP (f : D → D → D → Gp → Option Gp) : Prop := ∀ (b : Gp) (x y z : D) (g g' : Gp), f x y z g = some g' → f (x.sh b.length) (y.sh b.length) (z.sh b.length) (fr b g) = some (fr b g')
theorem fs_put {f : D → D → D → Gp → Option Gp} {o i m : ME} (hf : FP f) (h1 : FE o) (h2 : FE i) (h : FE m) : FS (sPut f o i m) := fun b T s g =>
  (h b T s g).go fun u g1 => (h1 b T s g1).go fun d g2 => (h2 b T s g2).go fun k g3 => by
    cases e : f d k u g3 with
    | none => trivial
    | some g4 =>
      rw [hf b d k u g3 g4 e]
      exact rfl
theorem fp_setL : FP setLD := fun b x y z g g' h => by
  unfold setLD at h
  split at h
  · split at h
    · rename_i a k xs e
      split at h
      · rename_i j e1
        cases h
        simp only [setLD, D.sh, f_lst e, List.length_map, e1, fr_set, O.sh, List.map_set]
      · cases h
    · cases h
  · cases h
theorem f_loop {tg : MG} {m : MS} (ht : FG tg) (h : FS m) (b : Gp) (T : Sl) (src : Src) : ∀ (n i : Nat) (s : Sl) (g : Gp), UpF b T (loopF tg m src n i s g) (loopF tg m (src.sh b.length) n i (mgS b.length T s) (fr b g))
  | 0, i, s, g => by
    unfold loopF
    split
    · rename_i e
      rw [src_at e]
      exact rfl
    · trivial
  | n + 1, i, s, g => by
    unfold loopF
    cases e : src.at g i with
    | none => trivial
    | some o =>
      rw [src_at e]
      cases o with
      | none => exact rfl
      | some x =>
        simp only [Option.map_some]
        cases e1 : tg x s with
        | none => trivial
        | some s1 =>
          rw [ht b.length T s s1 x e1]
          simp only
          have q := h b T s1 g
          cases e2 : m s1 g with
          | bad => trivial
          | nx s2 g2 => rw [e2] at q; rw [show m (mgS b.length T s1) (fr b g) = _ from q]; exact f_loop ht h b T src n (i + 1) s2 g2
          | ct s2 g2 => rw [e2] at q; rw [show m (mgS b.length T s1) (fr b g) = _ from q]; exact f_loop ht h b T src n (i + 1) s2 g2
          | _ => rw [e2] at q; rw [show m (mgS b.length T s1) (fr b g) = _ from q]; exact rfl
/-- the number of turns is the same there -/
theorem f_len {b g : Gp} (src : Src) : (src.sh b.length).len (fr b g) = src.len g := by
  have key : ∀ r : Nat, (match (fr b g)[b.length + r]? with
    | some (.lst ds) => ds.length
    | _ => 0) = (match g[r]? with
    | some (.lst ds) => ds.length
    | _ => 0) := fun r => by
    rw [fr_get]
    cases g[r]? with
    | none => rfl
    | some o => cases o <;> simp [O.sh]
  cases src with
  | lst r => exact key r
  | enum r => exact key r
  | zip x y => exact key x
  | _ => simp [Src.sh, Src.len]
theorem fs_for {mi : MI} {tg : MG} {m : MS} (hi : FI mi) (ht : FG tg) (h : FS m) : FS (sFor mi tg m) := fun b T s g => (hi b T s g).go fun src g1 => by
  rw [f_len]
  exact f_loop ht h b T src _ 0 s g1
theorem f_while {c : MT} {m : MS} (hc : FT c) (h : FS m) (b : Gp) (T : Sl) : ∀ (n : Nat) (s : Sl) (g : Gp), UpF b T (whileF c m n s g) (whileF c m n (mgS b.length T s) (fr b g))
  | 0, s, g => trivial
  | n + 1, s, g => by
    unfold whileF
    have q := hc b T s g
    cases e : c s g with
    | bad => trivial
    | exc k d g1 => rw [e] at q; rw [show c (mgS b.length T s) (fr b g) = _ from q]; exact rfl
    | ok x g1 =>
      rw [e] at q
      rw [show c (mgS b.length T s) (fr b g) = _ from q]
      cases x with
      | false => exact rfl
      | true =>
        simp only [id]
        have q := h b T s g1
        cases e2 : m s g1 with
        | bad => trivial
        | nx s2 g2 => rw [e2] at q; rw [show m (mgS b.length T s) (fr b g1) = _ from q]; exact f_while hc h b T n s2 g2
        | ct s2 g2 => rw [e2] at q; rw [show m (mgS b.length T s) (fr b g1) = _ from q]; exact f_while hc h b T n s2 g2
        | _ => rw [e2] at q; rw [show m (mgS b.length T s) (fr b g1) = _ from q]; exact rfl
theorem fs_while {k : Nat} {c : MT} {m : MS} (hc : FT c) (h : FS m) : FS (sWhile k c m) := fun b T s g => f_while hc h b T k s g
theorem f_loopC {tg : MG} {tt : MT} {te : ME} (ht : FG tg) (hc : FT tt) (h : FE te) (b : Gp) (T : Sl) (src : Src) (s : Sl) (r : Nat) : ∀ (n i : Nat) (g : Gp), Up b (D.sh b.length) (loopC tg tt te src s r n i g) (loopC tg tt te (src.sh b.length) (mgS b.length T s) (b.length + r) n i (fr b g))
  | 0, i, g => by
    unfold loopC
    split
    · rename_i e
      rw [src_at e]
      exact rfl
    · trivial
  | n + 1, i, g => by
    unfold loopC
    cases e : src.at g i with
    | none => trivial
    | some o =>
      rw [src_at e]
      cases o with
      | none => exact rfl
      | some x =>
        simp only [Option.map_some]
        cases e1 : tg x s with
        | none => trivial
        | some s1 =>
          rw [ht b.length T s s1 x e1]
          simp only
          have q := hc b T s1 g
          cases e2 : tt s1 g with
          | bad => trivial
          | exc _ _ _ => trivial
          | ok y g1 =>
            rw [e2] at q
            rw [show tt (mgS b.length T s1) (fr b g) = _ from q]
            cases y with
            | false => exact f_loopC ht hc h b T src s r n (i + 1) g1
            | true =>
              simp only [id]
              have q := h b T s1 g1
              cases e3 : te s1 g1 with
              | bad => trivial
              | exc _ _ _ => trivial
              | ok y g2 =>
                rw [e3] at q
                rw [show te (mgS b.length T s1) (fr b g1) = _ from q]
                simp only
                split
                · rename_i acc e4
                  rw [f_lst e4]
                  simp only [List.length_map]
                  refine Up.ite ?_
                  have := f_loopC ht hc h b T src s r n (i + 1) (g2.set r (.lst (acc ++ [y])))
                  rw [fr_set] at this
                  simpa [O.sh] using this
                · trivial
theorem fe_lc {vs : List Nat} {mi : MI} {tg : MG} {tt : MT} {te : ME} (hi : FI mi) (ht : FG tg) (hc : FT tt) (h : FE te) : FE (mLc vs mi tg tt te) := fun b T s g => (hi b T s g).bind fun src g1 => by
  rw [f_len, mg_wipe, fr_len]
  have := f_loopC ht hc h b (wipeD T vs) src (wipeD s vs) g1.length (src.len g1) 0 (g1 ++ [.lst []])
  rw [fr_app] at this
  simpa [O.sh] using this

/-! ### calls -/
theorem up_fin {b : Gp} {T : Sl} {r r' : F} (h : UpF b T r r') : Up b (D.sh b.length) (fin r) (fin r') := by
  cases r with
  | nx s g => cases h; exact rfl
  | rt d g => cases h; exact rfl
  | exc c d g => cases h; exact rfl
  | _ => trivial
theorem shs_under' (n k : Nat) (ds : List D) : D.unders (n + k) (ds.map (D.sh n)) = D.unders k ds := by rw [← shs_map]; exact shs_under n k ds
theorem up_gc {b g : Gp} {r r' : R D} (h : Up b (D.sh b.length) r r') : Up b (D.sh b.length) (gc g r) (gc (fr b g) r') := by
  cases r with
  | bad => trivial
  | exc c d g' =>
    cases h
    simp only [gc, fr_pre, fr_len, sh_under]
    exact Up.ite2 rfl rfl
  | ok d g' =>
    cases h
    simp only [gc, fr_pre, fr_len, sh_under]
    refine Up.ite2 rfl ?_
    cases d with
    | ref i =>
      simp only [D.sh]
      rw [fr_get]
      cases e : g'[i]? with
      | none => exact rfl
      | some o => cases o with
        | lst ds =>
          simp only [Option.map_some, O.sh, shs_under', Nat.add_le_add_iff_left]
          refine Up.ite2 ?_ rfl
          show _ = _
          rw [fr_app]
          rfl
        | _ => exact rfl
    | _ => exact rfl
theorem ff_fun {n : Nat} {m : MS} (h : FS m) : FF (mFun n m) := fun b ds g => by
  unfold mFun
  rw [← mg_slots]
  exact up_gc (up_fin (h b [] (slots n ds) g))
theorem ff_bad : FF (fun _ _ => .bad) := fun _ _ _ => trivial

/-! ### operations -/
theorem fd_add : FD addD := fun b x y g => by
  cases x with
  | int i => cases y with
    | int j => exact rfl
    | _ => trivial
  | str i => cases y with
    | str j => exact Up.ite rfl
    | _ => trivial
  | tup xs => cases y with
    | tup ys =>
      rw [sh_tup, sh_tup]
      simp only [addD, List.length_map]
      exact Up.ite (by show _ = _; rw [sh_tup, List.map_append])
    | _ => trivial
  | ref i => cases y with
    | ref j =>
      simp only [addD, D.sh]
      split
      · rename_i e1 e2
        rw [f_lst e1, f_lst e2]
        simp only [List.length_map]
        refine Up.ite ?_
        show _ = _
        rw [fr_app, fr_len]
        simp [O.sh, D.sh]
      · trivial
    | _ => trivial
  | _ => cases y <;> trivial
theorem fd_iadd : FD iaddD := fun b x y g => by
  cases x with
  | int i => cases y with
    | int j => exact rfl
    | _ => trivial
  | str i => cases y with
    | str j => exact Up.ite rfl
    | _ => trivial
  | _ => cases y <;> trivial
theorem fd_sub : FD subD := fun b x y g => by
  cases x with
  | int i => cases y with
    | int j => exact rfl
    | _ => trivial
  | _ => cases y <;> trivial
theorem repD_map (f : D → D) (k : Nat) (xs : List D) : repD k (xs.map f) = (repD k xs).map f := by
  unfold repD
  rw [List.map_flatten, List.map_replicate]
theorem fd_mul : FD mulD := fun b x y g => by
  cases x with
  | int i => cases y with
    | int j => exact Up.ite rfl
    | _ => trivial
  | tup xs => cases y with
    | int j =>
      rw [sh_tup]
      simp only [mulD, D.sh, List.length_map, ne_eq, List.map_eq_nil_iff]
      exact Up.ite (by show _ = _; rw [sh_tup, repD_map])
    | _ => trivial
  | ref i => cases y with
    | int j =>
      simp only [mulD, D.sh]
      split
      · rename_i e1
        rw [f_lst e1]
        simp only [List.length_map]
        refine Up.ite ?_
        show _ = _
        rw [fr_app, fr_len, repD_map]
        simp [O.sh, D.sh]
      · trivial
    | _ => trivial
  | _ => cases y <;> trivial
theorem fd_div : FD divD := fun b x y g => by
  cases x with
  | int i => cases y with
    | int j => exact Up.ite rfl
    | _ => trivial
  | _ => cases y <;> trivial
theorem fd_mod : FD modD := fun b x y g => by
  cases x with
  | int i => cases y with
    | int j => exact Up.ite rfl
    | _ => trivial
  | _ => cases y <;> trivial
theorem fd_pow : FD powD := fun b x y g => by
  cases x with
  | int i => cases y with
    | int j => exact Up.ite rfl
    | _ => trivial
  | _ => cases y <;> trivial
theorem fu_neg : FU negD := fun b x g => by
  cases x with
  | int i => exact rfl
  | _ => trivial
theorem atI_map (f : D → D) (xs : List D) (i : Int) : L2.atI (xs.map f) i = (L2.atI xs i).map f := by
  unfold L2.atI
  rw [List.length_map]
  cases L2.ixN xs.length i with
  | none => rfl
  | some j => simp
theorem fd_ix : FD ixD := fun b x y g => by
  cases x with
  | tup xs => cases y with
    | int i =>
      rw [sh_tup]
      simp only [ixD, D.sh, atZ_eq, atI_map]
      cases L2.atI xs i with
      | none => trivial
      | some d => exact rfl
    | _ => trivial
  | rom xs => cases y with
    | int i =>
      rw [sh_rom]
      simp only [ixD, D.sh, atZ_eq, atI_map]
      cases L2.atI xs i with
      | none => trivial
      | some d => exact rfl
    | _ => trivial
  | ref a => cases y with
    | int i =>
      simp only [ixD, D.sh]
      split
      · rename_i xs e
        rw [f_lst e]
        simp only [atZ_eq, atI_map]
        cases L2.atI xs i with
        | none => trivial
        | some d => exact rfl
      · trivial
    | _ => trivial
  | str z => cases y with
    | int i =>
      refine Up.ite ?_
      split
      · exact rfl
      · trivial
    | _ => trivial
  | _ => cases y <;> trivial
mutual
theorem toP0_sh (n : Nat) : ∀ d : D, toP0 (d.sh n) = toP0 d
  | .non => rfl
  | .bl _ => rfl
  | .int _ => rfl
  | .str _ => rfl
  | .ty _ => rfl
  | .ref _ => rfl
  | .tup ds => by rw [D.sh, toP0, toP0, toPs0_sh n ds]
  | .rom ds => by rw [D.sh, toP0, toP0, toPs0_sh n ds]
theorem toPs0_sh (n : Nat) : ∀ ds : List D, toPs0 (D.shs n ds) = toPs0 ds
  | [] => rfl
  | d :: ds => by rw [D.shs, toPs0, toPs0, toP0_sh n d, toPs0_sh n ds]
end
theorem toP1_sh (b g : Gp) (d : D) : toP1 (fr b g) (d.sh b.length) = toP1 g d := by
  cases d with
  | ref i =>
    simp only [toP1, D.sh]
    rw [fr_get]
    cases g[i]? with
    | none => rfl
    | some o => cases o with
      | lst ds => simp only [Option.map_some, O.sh]; rw [← shs_map, toPs0_sh]
      | _ => rfl
  | tup ds => exact toP0_sh _ (.tup ds)
  | rom ds => exact toP0_sh _ (.rom ds)
  | _ => rfl
def eqG (k : Bool → Bool) (p q : Option PyData) (g : Gp) : R D := match p, q with
  | some d, some e => if SeqAt.shaped d = true ∧ SeqAt.shaped e = true then .ok (.bl (k (PyData.eqv d e))) g else .bad
  | _, _ => .bad
theorem up_eqG {b g : Gp} {k : Bool → Bool} {p q p' q' : Option PyData} (h : p' = p) (h' : q' = q) : Up b (D.sh b.length) (eqG k p q g) (eqG k p' q' (fr b g)) := by
  subst h h'
  unfold eqG
  split
  · exact Up.ite rfl
  · trivial
theorem fd_eq : FD eqD := fun b x y g => by
  have key : Up b (D.sh b.length) (eqG id (toP1 g x) (toP1 g y) g) (eqG id (toP1 (fr b g) (x.sh b.length)) (toP1 (fr b g) (y.sh b.length)) (fr b g)) := up_eqG (toP1_sh b g x) (toP1_sh b g y)
  cases x with
  | int i => cases y with
    | int j => exact rfl
    | _ => exact key
  | str i => cases y with
    | str j => exact rfl
    | _ => exact key
  | bl i => cases y with
    | bl j => exact rfl
    | _ => exact key
  | _ => exact key
theorem fd_ne : FD neD := fun b x y g => by
  have key : Up b (D.sh b.length) (eqG (!·) (toP1 g x) (toP1 g y) g) (eqG (!·) (toP1 (fr b g) (x.sh b.length)) (toP1 (fr b g) (y.sh b.length)) (fr b g)) := up_eqG (toP1_sh b g x) (toP1_sh b g y)
  cases x with
  | int i => cases y with
    | int j => exact rfl
    | _ => exact key
  | str i => cases y with
    | str j => exact rfl
    | _ => exact key
  | bl i => cases y with
    | bl j => exact rfl
    | _ => exact key
  | _ => exact key
def cmG (op : CmpOp) (p q : Option PyData) (g : Gp) : R D := match p, q with
  | some d, some e => if SeqAt.shaped d = true ∧ SeqAt.shaped e = true ∧ cmpOk d e = true then .ok (.bl (cmpP op d e)) g else .bad
  | _, _ => .bad
theorem up_cmG {b g : Gp} {op : CmpOp} {p q p' q' : Option PyData} (h : p' = p) (h' : q' = q) : Up b (D.sh b.length) (cmG op p q g) (cmG op p' q' (fr b g)) := by
  subst h h'
  unfold cmG
  split
  · exact Up.ite rfl
  · trivial
theorem fd_cmp (op : CmpOp) : FD (cmpD op) := fun b x y g => by
  have key : Up b (D.sh b.length) (cmG op (toP1 g x) (toP1 g y) g) (cmG op (toP1 (fr b g) (x.sh b.length)) (toP1 (fr b g) (y.sh b.length)) (fr b g)) := up_cmG (toP1_sh b g x) (toP1_sh b g y)
  cases x with
  | int i => cases y with
    | int j => exact rfl
    | _ => exact key
  | _ => exact key
theorem fd_is : FD isD := fun b x y g => by
  cases y with
  | non => cases x <;> exact rfl
  | _ => trivial
theorem fd_isn : FD isNotD := fun b x y g => by
  cases y with
  | non => cases x <;> exact rfl
  | _ => trivial

/-! ### built-ins -/
theorem items_sh (b g : Gp) (d : D) : itemsD (fr b g) (d.sh b.length) = (itemsD g d).map (List.map (D.sh b.length)) := by
  cases d with
  | ref i =>
    simp only [itemsD, D.sh]
    rw [fr_get]
    cases g[i]? with
    | none => rfl
    | some o => cases o <;> rfl
  | tup ds => rw [sh_tup]; rfl
  | rom ds => rw [sh_rom]; rfl
  | _ => rfl
theorem ints_sh (n : Nat) : ∀ ds : List D, intsD (ds.map (D.sh n)) = intsD ds
  | [] => rfl
  | d :: ds => by
    cases d with
    | int i => simp only [List.map_cons, D.sh, intsD, ints_sh n ds]
    | _ => rfl
theorem bls_sh (n : Nat) : ∀ ds : List D, blsD (ds.map (D.sh n)) = blsD ds
  | [] => rfl
  | d :: ds => by
    cases d with
    | bl i => simp only [List.map_cons, D.sh, blsD, bls_sh n ds]
    | _ => rfl
theorem ty_sh (b g : Gp) (d : D) : tyN (fr b g) (d.sh b.length) = tyN g d := by
  cases d with
  | ref i =>
    simp only [tyN, D.sh]
    rw [fr_get]
    cases g[i]? with
    | none => rfl
    | some o => cases o <;> rfl
  | _ => rfl
theorem map_ints (n : Nat) : ∀ ns : List Int, (ns.map D.int).map (D.sh n) = ns.map D.int
  | [] => rfl
  | i :: ns => by simp only [List.map_cons, D.sh, map_ints n ns]
theorem ff_len : FF lenF := fun b ds g => by
  have key : ∀ d : D, Up b (D.sh b.length) (match itemsD g d with
    | some xs => .ok (.int xs.length) g
    | none => .bad) (match itemsD (fr b g) (d.sh b.length) with
    | some xs => .ok (.int xs.length) (fr b g)
    | none => .bad) := fun d => by
    rw [items_sh]
    cases itemsD g d with
    | none => trivial
    | some xs => show _ = _; simp [D.sh]
  rcases ds with _ | ⟨x, _ | ⟨y, ds⟩⟩
  · trivial
  · cases x with
    | str z => exact Up.ite rfl
    | ref i =>
      simp only [lenF, List.map_cons, List.map_nil, D.sh]
      split
      · rename_i e; rw [f_lst e]; show _ = _; simp [D.sh]
      · trivial
    | tup es => exact key (.tup es)
    | rom es => exact key (.rom es)
    | _ => trivial
  · cases x <;> trivial
theorem ff_int : FF intF := fun b ds g => by
  rcases ds with _ | ⟨x, _ | ⟨y, ds⟩⟩
  · trivial
  · cases x with
    | int i => exact rfl
    | bl k => exact rfl
    | _ => trivial
  · cases x <;> trivial
theorem ff_abs : FF absF := fun b ds g => by
  rcases ds with _ | ⟨x, _ | ⟨y, ds⟩⟩
  · trivial
  · cases x with
    | int i => exact rfl
    | _ => trivial
  · cases x <;> trivial
theorem ff_all : FF allF := fun b ds g => by
  rcases ds with _ | ⟨x, _ | ⟨y, ds⟩⟩
  · trivial
  · cases x with
    | ref i =>
      simp only [allF, List.map_cons, List.map_nil, D.sh]
      split
      · rename_i e
        rw [f_lst e]
        simp only [bls_sh]
        split
        · exact rfl
        · trivial
      · trivial
    | _ => trivial
  · cases x <;> trivial
theorem ff_any : FF anyF := fun b ds g => by
  rcases ds with _ | ⟨x, _ | ⟨y, ds⟩⟩
  · trivial
  · cases x with
    | ref i =>
      simp only [anyF, List.map_cons, List.map_nil, D.sh]
      split
      · rename_i e
        rw [f_lst e]
        simp only [bls_sh]
        split
        · exact rfl
        · trivial
      · trivial
    | _ => trivial
  · cases x <;> trivial
theorem ff_sum : FF sumF := fun b ds g => by
  rcases ds with _ | ⟨x, _ | ⟨y, ds⟩⟩
  · trivial
  · simp only [sumF, List.map_cons, List.map_nil, items_sh]
    cases itemsD g x with
    | none => trivial
    | some xs =>
      simp only [Option.map_some, ints_sh]
      split
      · exact rfl
      · trivial
  · trivial
theorem ff_tuple : FF tupleF := fun b ds g => by
  rcases ds with _ | ⟨x, _ | ⟨y, ds⟩⟩
  · trivial
  · simp only [tupleF, List.map_cons, List.map_nil, items_sh]
    cases itemsD g x with
    | none => trivial
    | some xs => show _ = _; rw [sh_tup]; rfl
  · trivial
theorem ff_list : FF listF := fun b ds g => by
  rcases ds with _ | ⟨x, _ | ⟨y, ds⟩⟩
  · trivial
  · simp only [listF, List.map_cons, List.map_nil, items_sh]
    cases itemsD g x with
    | none => trivial
    | some xs => show _ = _; rw [fr_app, fr_len]; rfl
  · trivial
theorem ff_sorted : FF sortedF := fun b ds g => by
  rcases ds with _ | ⟨x, _ | ⟨y, ds⟩⟩
  · trivial
  · cases x with
    | ref i =>
      simp only [sortedF, List.map_cons, List.map_nil, D.sh]
      split
      · rename_i e
        rw [f_lst e]
        simp only [ints_sh]
        split
        · show _ = _; rw [fr_app, fr_len, O.sh, map_ints]; rfl
        · trivial
      · trivial
    | _ => trivial
  · cases x <;> trivial
theorem ff_max : FF maxF := fun b ds g => by
  rcases ds with _ | ⟨x, _ | ⟨y, _ | ⟨z, ds⟩⟩⟩
  · trivial
  · cases x with
    | ref i =>
      simp only [maxF, List.map_cons, List.map_nil, D.sh]
      split
      · rename_i e
        rw [f_lst e]
        simp only [ints_sh]
        split
        · exact Up.ite rfl
        · trivial
      · trivial
    | _ => trivial
  · cases x with
    | int i => cases y with
      | int j => exact rfl
      | _ => trivial
    | _ => cases y <;> trivial
  · cases x <;> cases y <;> trivial
theorem ff_min : FF minF := fun b ds g => by
  rcases ds with _ | ⟨x, _ | ⟨y, _ | ⟨z, ds⟩⟩⟩
  · trivial
  · cases x with
    | ref i =>
      simp only [minF, List.map_cons, List.map_nil, D.sh]
      split
      · rename_i e
        rw [f_lst e]
        simp only [ints_sh]
        split
        · exact Up.ite rfl
        · trivial
      · trivial
    | _ => trivial
  · cases x with
    | int i => cases y with
      | int j => exact rfl
      | _ => trivial
    | _ => cases y <;> trivial
  · cases x <;> cases y <;> trivial
theorem ff_gcd : FF gcdF := fun b ds g => by
  rcases ds with _ | ⟨x, _ | ⟨y, _ | ⟨z, ds⟩⟩⟩
  · trivial
  · cases x <;> trivial
  · cases x with
    | int i => cases y with
      | int j => exact rfl
      | _ => trivial
    | _ => cases y <;> trivial
  · cases x <;> cases y <;> trivial
theorem ff_isi : FF isiF := fun b ds g => by
  rcases ds with _ | ⟨x, _ | ⟨y, _ | ⟨z, ds⟩⟩⟩
  · trivial
  · cases x <;> trivial
  · cases y with
    | ty n =>
      simp only [isiF, List.map_cons, List.map_nil, D.sh, ty_sh]
      split
      · exact Up.ite rfl
      · trivial
    | _ => trivial
  · cases y <;> trivial
theorem fe_isi2 {n m : String} {a : ME} (h : FE a) : FE (mIsi2 n m a) := fun b T s g => (h b T s g).bind fun x g1 => by
  rw [ty_sh]
  cases tyN g1 x with
  | none => trivial
  | some t => exact rfl
theorem fe_meL {f : D → MF} {o : ME} {a : MA} (hf : FM f) (h : FE o) (ha : FA a) : FE (mMeL f o a) := fun b T s g => (h b T s g).bind fun d g1 => by
  cases d with
  | ref r =>
    simp only [D.sh]
    split
    · rename_i e
      rw [f_lst e]
      exact (ha b T s g1).bind fun xs g2 => hf b (.ref r) xs g2
    · trivial
  | _ => trivial
theorem fm_append : FM appendM := fun b d ds g => by
  cases d with
  | ref a =>
    rcases ds with _ | ⟨x, _ | ⟨y, ds⟩⟩
    · trivial
    · simp only [appendM, List.map_cons, List.map_nil, D.sh]
      split
      · rename_i e
        rw [f_lst e]
        simp only [List.length_map]
        refine Up.ite ?_
        show _ = _
        rw [fr_set]
        simp [O.sh, D.sh]
      · trivial
    · trivial
  | _ => trivial

/-! ### use -/
/-- without references -/
def flatB : D → Bool := D.under 0
mutual
theorem flat_of : ∀ {d : D}, d.under 0 = true → Flat d
  | .non, _ => fun _ => rfl
  | .bl _, _ => fun _ => rfl
  | .int _, _ => fun _ => rfl
  | .str _, _ => fun _ => rfl
  | .ty _, _ => fun _ => rfl
  | .ref _, h => by simp [D.under] at h
  | .tup ds, h => fun n => by rw [D.sh, flats_of (ds := ds) (by simpa [D.under] using h) n]
  | .rom ds, h => fun n => by rw [D.sh, flats_of (ds := ds) (by simpa [D.under] using h) n]
theorem flats_of : ∀ {ds : List D}, D.unders 0 ds = true → ∀ n, D.shs n ds = ds
  | [], _ => fun _ => rfl
  | d :: ds, h => fun n => by
    rw [D.unders, Bool.and_eq_true] at h
    rw [D.shs, flat_of h.1 n, flats_of h.2 n]
end
/-- a closed call's value holds in every heap -/
theorem FF.val {f : MF} (hf : FF f) {ds : List D} {d : D} (h : f ds [] = .ok d []) (hd : D.unders 0 ds = true) (hv : d.under 0 = true) (g : Gp) : f ds g = .ok d g := by
  have := hf g ds []
  rw [h] at this
  have q : f (ds.map (D.sh g.length)) (fr g []) = .ok (d.sh g.length) (fr g []) := this
  rw [← shs_map, flats_of hd, flat_of hv, fr_nil] at q
  exact q
/-- a closed call's list -/
theorem FF.lst {f : MF} (hf : FF f) {ds xs : List D} (h : f ds [] = .ok (.ref 0) [.lst xs]) (hd : D.unders 0 ds = true) (hv : D.unders 0 xs = true) (g : Gp) : f ds g = .ok (.ref g.length) (g ++ [.lst xs]) := by
  have := hf g ds []
  rw [h] at this
  have q : f (ds.map (D.sh g.length)) (fr g []) = .ok ((D.ref 0).sh g.length) (fr g [.lst xs]) := this
  rw [← shs_map, flats_of hd, fr_nil] at q
  rw [q]
  simp only [D.sh, fr, List.map_cons, List.map_nil, O.sh, ← shs_map, flats_of hv, Nat.add_zero]
end Sim

end
section
set_option maxRecDepth 100000
set_option maxHeartbeats 1000000
/-! Sim10: closed blocks. -/
namespace Sim
open PySem PySem.Spec PyProof.Rows L2

def mkS (N : Nat) (L : List (Nat × D)) : Sl := L.foldr (fun p s => s.set p.1 (some p.2)) (List.replicate N none)
theorem mkS_len (N : Nat) : ∀ L : List (Nat × D), (mkS N L).length = N
  | [] => by simp [mkS]
  | p :: L => by
    have := mkS_len N L
    unfold mkS at this ⊢
    rw [List.foldr_cons, List.length_set, this]
theorem mkS_get {N i : Nat} {d : D} : ∀ {L : List (Nat × D)}, (mkS N L)[i]? = some (some d) → (i, d) ∈ L
  | [], h => by
    simp only [mkS, List.foldr_nil, List.getElem?_replicate] at h
    split at h <;> cases h
  | p :: L, h => by
    have e : mkS N (p :: L) = (mkS N L).set p.1 (some p.2) := rfl
    rw [e, List.getElem?_set] at h
    split at h
    · rename_i hp
      split at h
      · injection h with h; injection h with h
        rw [← hp, ← h]; exact List.mem_cons_self
      · cases h
    · exact List.mem_cons_of_mem _ (mkS_get h)
def Has (S : Sl) (L : List (Nat × D)) : Prop := ∀ p ∈ L, S[p.1]? = some (some p.2) ∧ p.2.under 0 = true
theorem Has.nil {S : Sl} : Has S [] := fun p h => absurd h (by simp)
theorem Has.cons {S : Sl} {i : Nat} {d : D} {L : List (Nat × D)} (h1 : S[i]? = some (some d)) (h2 : d.under 0 = true) (h : Has S L) : Has S ((i, d) :: L) := fun p hp => by
  rcases List.mem_cons.mp hp with rfl | hp
  · exact ⟨h1, h2⟩
  · exact h p hp
theorem mg_self {S : Sl} {n N : Nat} {L : List (Nat × D)} (hS : S.length = N) (hL : Has S L) : mgS n S (mkS N L) = S := by
  apply List.ext_getElem?
  intro i
  cases e : (mkS N L)[i]? with
  | none =>
    have h1 : N ≤ i := by rw [← mkS_len N L]; exact List.getElem?_eq_none_iff.mp e
    rw [List.getElem?_eq_none (by rw [mg_len, mkS_len]; exact h1), List.getElem?_eq_none (by omega)]
  | some o => cases o with
    | none =>
      rw [mg_none _ _ _ _ e]
      have h1 : i < N := by rw [← mkS_len N L]; exact (List.getElem?_eq_some_iff.mp e).1
      rw [List.getElem?_eq_getElem (by omega)]
      rfl
    | some d =>
      obtain ⟨h1, h2⟩ := hL _ (mkS_get e)
      rw [mg_get _ _ _ _ _ e, h1, flat_of h2 n]
theorem FS.run {m : MS} (hm : FS m) {S : Sl} {b : Gp} {N : Nat} {L : List (Nat × D)} {s' : Sl} {g' : Gp} (hS : S.length = N) (hL : Has S L) (h : m (mkS N L) [] = .nx s' g') : m S b = .nx (mgS b.length S s') (fr b g') := by
  have := hm b S (mkS N L) []
  rw [h, mg_self hS hL, fr_nil] at this
  exact this
def slB : Sl → Sl → Bool
  | [], [] => true
  | none :: s, none :: t => slB s t
  | some d :: s, some e :: t => match D.beq d e with
    | true => slB s t
    | false => false
  | _, _ => false
theorem slB_eq : ∀ s t : Sl, slB s t = true → s = t
  | [], [], _ => rfl
  | none :: s, none :: t, h => by rw [slB] at h; rw [slB_eq s t h]
  | some d :: s, some e :: t, h => by
    rw [slB] at h
    split at h
    · rename_i h1
      rw [(D.beq_iff d e).mp h1, slB_eq s t h]
    · cases h
  | [], _ :: _, h => by simp [slB] at h
  | _ :: _, [], h => by simp [slB] at h
  | none :: s, some e :: t, h => by simp [slB] at h
  | some d :: s, none :: t, h => by simp [slB] at h
/-- the block ends well, and the first k slots are as they were -/
def keepB (k : Nat) (s : Sl) (r : F) : Bool := match r with
  | .nx s' _ => match Nat.beq s'.length s.length with
    | true => slB (s'.take k) (s.take k)
    | false => false
  | _ => false
theorem FS.keep {m : MS} (hm : FS m) {S : Sl} {N k : Nat} {L : List (Nat × D)} (hS : S.length = N) (hL : Has S L) (h : keepB k (mkS N L) (m (mkS N L) []) = true) (b : Gp) :
    ∃ S' g', m S b = .nx S' (fr b g') ∧ S'.length = N ∧ ∀ i, i < k → S'[i]? = S[i]? := by
  unfold keepB at h
  split at h
  · rename_i s' g' e
    split at h
    · rename_i hl
      have hl : s'.length = (mkS N L).length := Nat.eq_of_beq_eq_true hl
      rw [mkS_len] at hl
      have ht := slB_eq _ _ h
      refine ⟨_, g', hm.run hS hL e, by rw [mg_len, hl], fun i hi => ?_⟩
      have h1 : s'[i]? = (mkS N L)[i]? := by
        have := congrArg (fun l : Sl => l[i]?) ht
        simpa [List.getElem?_take, hi] using this
      have h2 : mgS b.length S (mkS N L) = S := mg_self hS hL
      have h3 : (mgS b.length S (mkS N L))[i]? = S[i]? := by rw [h2]
      rw [← h3]
      cases e1 : (mkS N L)[i]? with
      | none =>
        rw [e1] at h1
        have h4 := List.getElem?_eq_none_iff.mp h1
        have h5 := List.getElem?_eq_none_iff.mp e1
        rw [List.getElem?_eq_none (by rw [mg_len]; exact h4), List.getElem?_eq_none (by rw [mg_len]; exact h5)]
      | some o => cases o with
        | none => rw [e1] at h1; rw [mg_none _ _ _ _ h1, mg_none _ _ _ _ e1]
        | some d => rw [e1] at h1; rw [mg_get _ _ _ _ _ h1, mg_get _ _ _ _ _ e1]
    · cases h
  · cases h
/-- a closed call, by the kernel -/
def isV (d : D) (r : R D) : Bool := match r with
  | .ok e [] => D.beq e d
  | _ => false
theorem isV_eq {d : D} {r : R D} (h : isV d r = true) : r = .ok d [] := by
  unfold isV at h
  split at h
  · rw [(D.beq_iff _ _).mp h]
  · cases h
theorem FF.v {f : MF} (hf : FF f) {ds : List D} {d : D} (h : isV d (f ds []) = true) (hd : D.unders 0 ds = true) (hv : d.under 0 = true) (g : Gp) : f ds g = .ok d g := hf.val (isV_eq h) hd hv g
end Sim

end
section
set_option maxRecDepth 100000
set_option maxHeartbeats 4000000
namespace Gw
open PySem PySem.Spec PyProof.Rows L2 Sim
/-! ### the text -/
def topS (i : Nat) : Stmt := PySem.Challenge.pw_giftwright_k59_trips_and_shares_in_parts.main.body.getD i (.Pass ⟨0, 0, 0, 0⟩)
abbrev s__law_near : Stmt := topS 77
abbrev N__law_near : List Str := ["pence", "rate"]
theorem sc__law_near : FnScope N__law_near ["pence", "rate"] (defScope s__law_near) := ⟨rfl, rfl, rfl, by decide +kernel, rfl, by decide +kernel, by decide +kernel⟩
abbrev s__law_by_parts : Stmt := topS 78
abbrev N__law_by_parts : List Str := ["rate", "top", "best", "pence", "found", "part", "left", "line", "key", "one"]
theorem sc__law_by_parts : FnScope N__law_by_parts ["rate", "top"] (defScope s__law_by_parts) := ⟨rfl, rfl, rfl, by decide +kernel, rfl, by decide +kernel, by decide +kernel⟩
abbrev s__law_less : Stmt := topS 76
abbrev N__law_less : List Str := ["one", "other"]
theorem sc__law_less : FnScope N__law_less ["one", "other"] (defScope s__law_less) := ⟨rfl, rfl, rfl, by decide +kernel, rfl, by decide +kernel, by decide +kernel⟩
abbrev s__law_gcd : Stmt := topS 73
abbrev N__law_gcd : List Str := ["one", "other", "left", "right", "k", "over_by"]
theorem sc__law_gcd : FnScope N__law_gcd ["one", "other"] (defScope s__law_gcd) := ⟨rfl, rfl, rfl, by decide +kernel, rfl, by decide +kernel, by decide +kernel⟩
abbrev s__law_red : Stmt := topS 74
abbrev N__law_red : List Str := ["n", "d", "common"]
theorem sc__law_red : FnScope N__law_red ["n", "d"] (defScope s__law_red) := ⟨rfl, rfl, rfl, by decide +kernel, rfl, by decide +kernel, by decide +kernel⟩
abbrev s__law_mul : Stmt := topS 75
abbrev N__law_mul : List Str := ["one", "other"]
theorem sc__law_mul : FnScope N__law_mul ["one", "other"] (defScope s__law_mul) := ⟨rfl, rfl, rfl, by decide +kernel, rfl, by decide +kernel, by decide +kernel⟩
abbrev s__law_numbers : Stmt := topS 70
abbrev N__law_numbers : List Str := ["script", "row", "single", "left", "k", "stirred"]
theorem sc__law_numbers : FnScope N__law_numbers ["script"] (defScope s__law_numbers) := ⟨rfl, rfl, rfl, by decide +kernel, rfl, by decide +kernel, by decide +kernel⟩
abbrev s__law_so : Stmt := topS 69
abbrev N__law_so : List Str := ["found", "meant", "k"]
theorem sc__law_so : FnScope N__law_so ["found", "meant"] (defScope s__law_so) := ⟨rfl, rfl, rfl, by decide +kernel, rfl, by decide +kernel, by decide +kernel⟩
abbrev s__law_draw : Stmt := topS 71
abbrev N__law_draw : List Str := ["row", "at", "limit", "stirred"]
theorem sc__law_draw : FnScope N__law_draw ["row", "at", "limit"] (defScope s__law_draw) := ⟨rfl, rfl, rfl, by decide +kernel, rfl, by decide +kernel, by decide +kernel⟩
abbrev s__law_take : Stmt := topS 72
abbrev N__law_take : List Str := ["row", "spot", "limit"]
theorem sc__law_take : FnScope N__law_take ["row", "spot", "limit"] (defScope s__law_take) := ⟨rfl, rfl, rfl, by decide +kernel, rfl, by decide +kernel, by decide +kernel⟩
abbrev s_rounded_down : Stmt := topS 17
abbrev N_rounded_down : List Str := ["numerator", "denominator"]
theorem sc_rounded_down : FnScope N_rounded_down ["numerator", "denominator"] (defScope s_rounded_down) := ⟨rfl, rfl, rfl, by decide +kernel, rfl, by decide +kernel, by decide +kernel⟩
abbrev s_at_rate : Stmt := topS 46
abbrev N_at_rate : List Str := ["pence", "rate"]
theorem sc_at_rate : FnScope N_at_rate ["pence", "rate"] (defScope s_at_rate) := ⟨rfl, rfl, rfl, by decide +kernel, rfl, by decide +kernel, by decide +kernel⟩
abbrev s_is_integer : Stmt := topS 6
abbrev N_is_integer : List Str := ["value"]
theorem sc_is_integer : FnScope N_is_integer ["value"] (defScope s_is_integer) := ⟨rfl, rfl, rfl, by decide +kernel, rfl, by decide +kernel, by decide +kernel⟩
abbrev s_is_between : Stmt := topS 7
abbrev N_is_between : List Str := ["value", "least", "most"]
theorem sc_is_between : FnScope N_is_between ["value", "least", "most"] (defScope s_is_between) := ⟨rfl, rfl, rfl, by decide +kernel, rfl, by decide +kernel, by decide +kernel⟩
abbrev s_is_sequence : Stmt := topS 8
abbrev N_is_sequence : List Str := ["value"]
theorem sc_is_sequence : FnScope N_is_sequence ["value"] (defScope s_is_sequence) := ⟨rfl, rfl, rfl, by decide +kernel, rfl, by decide +kernel, by decide +kernel⟩
abbrev s_is_row : Stmt := topS 10
abbrev N_is_row : List Str := ["value", "size"]
theorem sc_is_row : FnScope N_is_row ["value", "size"] (defScope s_is_row) := ⟨rfl, rfl, rfl, by decide +kernel, rfl, by decide +kernel, by decide +kernel⟩
abbrev s_is_fraction : Stmt := topS 14
abbrev N_is_fraction : List Str := ["value"]
theorem sc_is_fraction : FnScope N_is_fraction ["value"] (defScope s_is_fraction) := ⟨rfl, rfl, rfl, by decide +kernel, rfl, by decide +kernel, by decide +kernel⟩
abbrev s_is_rate : Stmt := topS 59
abbrev N_is_rate : List Str := ["value"]
theorem sc_is_rate : FnScope N_is_rate ["value"] (defScope s_is_rate) := ⟨rfl, rfl, rfl, by decide +kernel, rfl, by decide +kernel, by decide +kernel⟩
abbrev s_need : Stmt := topS 5
abbrev N_need : List Str := ["held", "at"]
theorem sc_need : FnScope N_need ["held", "at"] (defScope s_need) := ⟨rfl, rfl, rfl, by decide +kernel, rfl, by decide +kernel, by decide +kernel⟩
abbrev s_exchanged : Stmt := topS 61
abbrev N_exchanged : List Str := ["pence", "rate"]
theorem sc_exchanged : FnScope N_exchanged ["pence", "rate"] (defScope s_exchanged) := ⟨rfl, rfl, rfl, by decide +kernel, rfl, by decide +kernel, by decide +kernel⟩
abbrev s_rounded_nearest : Stmt := topS 18
abbrev N_rounded_nearest : List Str := ["numerator", "denominator"]
theorem sc_rounded_nearest : FnScope N_rounded_nearest ["numerator", "denominator"] (defScope s_rounded_nearest) := ⟨rfl, rfl, rfl, by decide +kernel, rfl, by decide +kernel, by decide +kernel⟩
abbrev s_nearest_at_rate : Stmt := topS 47
abbrev N_nearest_at_rate : List Str := ["pence", "rate"]
theorem sc_nearest_at_rate : FnScope N_nearest_at_rate ["pence", "rate"] (defScope s_nearest_at_rate) := ⟨rfl, rfl, rfl, by decide +kernel, rfl, by decide +kernel, by decide +kernel⟩
abbrev s_exchanged_nearest : Stmt := topS 62
abbrev N_exchanged_nearest : List Str := ["pence", "rate"]
theorem sc_exchanged_nearest : FnScope N_exchanged_nearest ["pence", "rate"] (defScope s_exchanged_nearest) := ⟨rfl, rfl, rfl, by decide +kernel, rfl, by decide +kernel, by decide +kernel⟩
abbrev s_least_cap : Stmt := topS 41
abbrev N_least_cap : List Str := ["rows", "left", "cap", "goal", "low"]
theorem sc_least_cap : FnScope N_least_cap ["rows", "left", "cap", "goal"] (defScope s_least_cap) := ⟨rfl, rfl, rfl, by decide +kernel, rfl, by decide +kernel, by decide +kernel⟩
abbrev s_score_rows : Stmt := topS 40
abbrev N_score_rows : List Str := ["worths", "whole", "base", "ones", "rows", "cap", "ahead", "step", "row", "left", "many"]
theorem sc_score_rows : FnScope N_score_rows ["worths", "whole"] (defScope s_score_rows) := ⟨rfl, rfl, rfl, by decide +kernel, rfl, by decide +kernel, by decide +kernel⟩
abbrev s_best_parts : Stmt := topS 42
abbrev N_best_parts : List Str := ["worths", "whole", "base", "rows", "goal", "most", "parts", "left", "cap"]
theorem sc_best_parts : FnScope N_best_parts ["worths", "whole"] (defScope s_best_parts) := ⟨rfl, rfl, rfl, by decide +kernel, rfl, by decide +kernel, by decide +kernel⟩
abbrev s_made_of_parts : Stmt := topS 65
abbrev N_made_of_parts : List Str := ["rate", "most", "part"]
theorem sc_made_of_parts : FnScope N_made_of_parts ["rate", "most"] (defScope s_made_of_parts) := ⟨rfl, rfl, rfl, by decide +kernel, rfl, by decide +kernel, by decide +kernel⟩
abbrev s_most_by_parts : Stmt := topS 66
abbrev N_most_by_parts : List Str := ["pence", "rate"]
theorem sc_most_by_parts : FnScope N_most_by_parts ["pence", "rate"] (defScope s_most_by_parts) := ⟨rfl, rfl, rfl, by decide +kernel, rfl, by decide +kernel, by decide +kernel⟩
abbrev s_greatest_worths : Stmt := topS 43
abbrev N_greatest_worths : List Str := ["worths", "whole", "greatest", "one", "part"]
theorem sc_greatest_worths : FnScope N_greatest_worths ["worths", "whole"] (defScope s_greatest_worths) := ⟨rfl, rfl, rfl, by decide +kernel, rfl, by decide +kernel, by decide +kernel⟩
abbrev s_first_gain : Stmt := topS 44
abbrev N_first_gain : List Str := ["worths", "most", "greatest", "whole"]
theorem sc_first_gain : FnScope N_first_gain ["worths", "most"] (defScope s_first_gain) := ⟨rfl, rfl, rfl, by decide +kernel, rfl, by decide +kernel, by decide +kernel⟩
abbrev s_parts_gain : Stmt := topS 67
abbrev N_parts_gain : List Str := ["rate", "most"]
theorem sc_parts_gain : FnScope N_parts_gain ["rate", "most"] (defScope s_parts_gain) := ⟨rfl, rfl, rfl, by decide +kernel, rfl, by decide +kernel, by decide +kernel⟩
abbrev s_never_spent : Stmt := topS 20
abbrev N_never_spent : List Str := ["sold", "share", "part", "whole"]
theorem sc_never_spent : FnScope N_never_spent ["sold", "share"] (defScope s_never_spent) := ⟨rfl, rfl, rfl, by decide +kernel, rfl, by decide +kernel, by decide +kernel⟩
abbrev s_earned_by : Stmt := topS 21
abbrev N_earned_by : List Str := ["sold", "share", "use", "part", "whole", "in_measure"]
theorem sc_earned_by : FnScope N_earned_by ["sold", "share", "use"] (defScope s_earned_by) := ⟨rfl, rfl, rfl, by decide +kernel, rfl, by decide +kernel, by decide +kernel⟩
abbrev s_running_sums : Stmt := topS 22
abbrev N_running_sums : List Str := ["numbers", "sums", "so_far", "number"]
theorem sc_running_sums : FnScope N_running_sums ["numbers"] (defScope s_running_sums) := ⟨rfl, rfl, rfl, by decide +kernel, rfl, by decide +kernel, by decide +kernel⟩
abbrev s_steps_of : Stmt := topS 23
abbrev N_steps_of : List Str := ["sums", "steps", "ahead", "so_far"]
theorem sc_steps_of : FnScope N_steps_of ["sums"] (defScope s_steps_of) := ⟨rfl, rfl, rfl, by decide +kernel, rfl, by decide +kernel, by decide +kernel⟩
abbrev s_earned_in_each : Stmt := topS 24
abbrev N_earned_in_each : List Str := ["sold", "share", "used", "in_all", "use"]
theorem sc_earned_in_each : FnScope N_earned_in_each ["sold", "share", "used"] (defScope s_earned_in_each) := ⟨rfl, rfl, rfl, by decide +kernel, rfl, by decide +kernel, by decide +kernel⟩
abbrev s_has_size : Stmt := topS 9
abbrev N_has_size : List Str := ["value", "fewest", "most"]
theorem sc_has_size : FnScope N_has_size ["value", "fewest", "most"] (defScope s_has_size) := ⟨rfl, rfl, rfl, by decide +kernel, rfl, by decide +kernel, by decide +kernel⟩
abbrev s_are_between : Stmt := topS 11
abbrev N_are_between : List Str := ["value", "fewest", "most", "least", "greatest", "one"]
theorem sc_are_between : FnScope N_are_between ["value", "fewest", "most", "least", "greatest"] (defScope s_are_between) := ⟨rfl, rfl, rfl, by decide +kernel, rfl, by decide +kernel, by decide +kernel⟩
abbrev s_is_share : Stmt := topS 32
abbrev N_is_share : List Str := ["value"]
theorem sc_is_share : FnScope N_is_share ["value"] (defScope s_is_share) := ⟨rfl, rfl, rfl, by decide +kernel, rfl, by decide +kernel, by decide +kernel⟩
abbrev s_need_periods : Stmt := topS 35
abbrev N_need_periods : List Str := ["sold", "share", "used"]
theorem sc_need_periods : FnScope N_need_periods ["sold", "share", "used"] (defScope s_need_periods) := ⟨rfl, rfl, rfl, by decide +kernel, rfl, by decide +kernel, by decide +kernel⟩
abbrev s_recognised : Stmt := topS 36
abbrev N_recognised : List Str := ["sold", "share", "used"]
theorem sc_recognised : FnScope N_recognised ["sold", "share", "used"] (defScope s_recognised) := ⟨rfl, rfl, rfl, by decide +kernel, rfl, by decide +kernel, by decide +kernel⟩
abbrev s_are_rates : Stmt := topS 60
abbrev N_are_rates : List Str := ["value", "rate"]
theorem sc_are_rates : FnScope N_are_rates ["value"] (defScope s_are_rates) := ⟨rfl, rfl, rfl, by decide +kernel, rfl, by decide +kernel, by decide +kernel⟩
abbrev s_behind_trip : Stmt := topS 48
abbrev N_behind_trip : List Str := ["pence", "rates", "rate"]
theorem sc_behind_trip : FnScope N_behind_trip ["pence", "rates"] (defScope s_behind_trip) := ⟨rfl, rfl, rfl, by decide +kernel, rfl, by decide +kernel, by decide +kernel⟩
abbrev s_round_trip : Stmt := topS 63
abbrev N_round_trip : List Str := ["pence", "rates"]
theorem sc_round_trip : FnScope N_round_trip ["pence", "rates"] (defScope s_round_trip) := ⟨rfl, rfl, rfl, by decide +kernel, rfl, by decide +kernel, by decide +kernel⟩
abbrev s_is_sale : Stmt := topS 33
abbrev N_is_sale : List Str := ["value"]
theorem sc_is_sale : FnScope N_is_sale ["value"] (defScope s_is_sale) := ⟨rfl, rfl, rfl, by decide +kernel, rfl, by decide +kernel, by decide +kernel⟩
abbrev s_are_sales : Stmt := topS 34
abbrev N_are_sales : List Str := ["value", "card"]
theorem sc_are_sales : FnScope N_are_sales ["value"] (defScope s_are_sales) := ⟨rfl, rfl, rfl, by decide +kernel, rfl, by decide +kernel, by decide +kernel⟩
abbrev s_lowest : Stmt := topS 15
abbrev N_lowest : List Str := ["numerator", "denominator", "shared"]
theorem sc_lowest : FnScope N_lowest ["numerator", "denominator"] (defScope s_lowest) := ⟨rfl, rfl, rfl, by decide +kernel, rfl, by decide +kernel, by decide +kernel⟩
abbrev s_share_of : Stmt := topS 38
abbrev N_share_of : List Str := ["cards", "sold", "spent", "card"]
theorem sc_share_of : FnScope N_share_of ["cards"] (defScope s_share_of) := ⟨rfl, rfl, rfl, by decide +kernel, rfl, by decide +kernel, by decide +kernel⟩
abbrev s_owed_behind : Stmt := topS 25
abbrev N_owed_behind : List Str := ["sold", "share", "used", "use"]
theorem sc_owed_behind : FnScope N_owed_behind ["sold", "share", "used"] (defScope s_owed_behind) := ⟨rfl, rfl, rfl, by decide +kernel, rfl, by decide +kernel, by decide +kernel⟩
abbrev s_still_owed : Stmt := topS 37
abbrev N_still_owed : List Str := ["sold", "share", "used"]
theorem sc_still_owed : FnScope N_still_owed ["sold", "share", "used"] (defScope s_still_owed) := ⟨rfl, rfl, rfl, by decide +kernel, rfl, by decide +kernel, by decide +kernel⟩
abbrev s_least_for : Stmt := topS 50
abbrev N_least_for : List Str := ["goal", "rate"]
theorem sc_least_for : FnScope N_least_for ["goal", "rate"] (defScope s_least_for) := ⟨rfl, rfl, rfl, by decide +kernel, rfl, by decide +kernel, by decide +kernel⟩
abbrev s_least_for_trip : Stmt := topS 51
abbrev N_least_for_trip : List Str := ["goal", "rates", "rate"]
theorem sc_least_for_trip : FnScope N_least_for_trip ["goal", "rates"] (defScope s_least_for_trip) := ⟨rfl, rfl, rfl, by decide +kernel, rfl, by decide +kernel, by decide +kernel⟩
abbrev s_times : Stmt := topS 16
abbrev N_times : List Str := ["one", "other"]
theorem sc_times : FnScope N_times ["one", "other"] (defScope s_times) := ⟨rfl, rfl, rfl, by decide +kernel, rfl, by decide +kernel, by decide +kernel⟩
abbrev s_rate_of_trip : Stmt := topS 49
abbrev N_rate_of_trip : List Str := ["rates", "together", "rate"]
theorem sc_rate_of_trip : FnScope N_rate_of_trip ["rates"] (defScope s_rate_of_trip) := ⟨rfl, rfl, rfl, by decide +kernel, rfl, by decide +kernel, by decide +kernel⟩
abbrev s_first_trip_gain : Stmt := topS 52
abbrev N_first_trip_gain : List Str := ["rates", "most", "above", "below", "pence"]
theorem sc_first_trip_gain : FnScope N_first_trip_gain ["rates", "most"] (defScope s_first_trip_gain) := ⟨rfl, rfl, rfl, by decide +kernel, rfl, by decide +kernel, by decide +kernel⟩
abbrev s_trip_gains : Stmt := topS 64
abbrev N_trip_gains : List Str := ["rates", "most"]
theorem sc_trip_gains : FnScope N_trip_gains ["rates", "most"] (defScope s_trip_gains) := ⟨rfl, rfl, rfl, by decide +kernel, rfl, by decide +kernel, by decide +kernel⟩
abbrev s_law : Stmt := topS 79
abbrev N_law : List Str := ["script", "row", "spot", "part", "count", "a", "b", "rate", "c", "other", "whole", "gain", "meant", "pence", "here", "best", "gains", "sold", "share", "used", "told", "k", "joined", "after", "half", "cut"]
theorem sc_law : FnScope N_law ["script"] (defScope s_law) := ⟨rfl, rfl, rfl, by decide +kernel, rfl, by decide +kernel, by decide +kernel⟩
/-! ### what each def means -/
noncomputable def m__law_near : MF := mFun 2 (sRet (mOp divD (mOp addD (mOp mulD (mOp mulD (mC (.int 2)) (mVar 0)) (mOp ixD (mVar 1) (mC (.int 0)))) (mOp ixD (mVar 1) (mC (.int 1)))) (mOp mulD (mC (.int 2)) (mOp ixD (mVar 1) (mC (.int 1))))))
noncomputable def l__law_by_parts_1 : MS := sSeq (sSet (gN 6) (mOp ixD (mVar 2) (mOp subD (mVar 3) (mVar 5)))) (sSeq (sSet (gN 7) (mCall tupleF (mCons (mCall sortedF (mCons (mOp addD (mLc [9] (iAny (mOp ixD (mVar 6) (mC (.int 2)))) (gN 9) (tYes') (mUn negD (mVar 9))) (mLst (mCons (mUn negD (mVar 5)) (mNil)))) (mNil))) (mNil)))) (sSeq (sSet (gN 8) (mTup (mCons (mOp subD (mOp ixD (mVar 6) (mC (.int 0))) (mCall m__law_near (mCons (mVar 5) (mCons (mVar 0) (mNil))))) (mCons (mOp addD (mOp ixD (mVar 6) (mC (.int 1))) (mC (.int 1))) (mCons (mCall tupleF (mCons (mLc [9] (iAny (mVar 7)) (gN 9) (tYes') (mUn negD (mVar 9))) (mNil))) (mNil)))))) (sSet (gN 4) (mIf (tOr' (isB (mOp isD (mVar 4) (mC .non))) (isB (mOp (cmpD .Lt) (mVar 8) (mVar 4)))) (mVar 8) (mVar 4)))))
noncomputable def l__law_by_parts_0 : MS := sSeq (sSet (gN 4) (mC .non)) (sSeq (sFor (iRg2 (mCons (mC (.int 1)) (mCons (mOp addD (mVar 3) (mC (.int 1))) (mNil)))) (gN 5) l__law_by_parts_1) (sDrop (mMeL appendM (mVar 2) (mCons (mVar 4) (mNil)))))
noncomputable def m__law_by_parts : MF := mFun 10 (sSeq (sSet (gN 2) (mLst (mCons (mTup (mCons (mC (.int 0)) (mCons (mC (.int 0)) (mCons (mTup (mNil)) (mNil))))) (mNil)))) (sSeq (sFor (iRg2 (mCons (mC (.int 1)) (mCons (mOp addD (mVar 1) (mC (.int 1))) (mNil)))) (gN 3) l__law_by_parts_0) (sRet (mVar 2))))
noncomputable def m__law_less : MF := mFun 2 (sRet (mOp (cmpD .Lt) (mOp mulD (mOp ixD (mVar 0) (mC (.int 0))) (mOp ixD (mVar 1) (mC (.int 1)))) (mOp mulD (mOp ixD (mVar 1) (mC (.int 0))) (mOp ixD (mVar 0) (mC (.int 1))))))
noncomputable def l__law_gcd_0 : MS := sSeq (sIf (isB (mOp eqD (mVar 3) (mC (.int 0)))) (sBreak) (sNext)) (sSeq (sSet (gN 5) (mOp modD (mCall intF (mCons (mVar 2) (mNil))) (mVar 3))) (sSeq (sSet (gN 2) (mVar 3)) (sSet (gN 3) (mVar 5))))
noncomputable def m__law_gcd : MF := mFun 6 (sSeq (sSet (gN 2) (mIf (isB (mOp (cmpD .GtE) (mVar 0) (mC (.int 0)))) (mVar 0) (mUn negD (mVar 0)))) (sSeq (sSet (gN 3) (mIf (isB (mOp (cmpD .GtE) (mVar 1) (mC (.int 0)))) (mVar 1) (mUn negD (mVar 1)))) (sSeq (sFor (iRg1 (mCons (mC (.int 20000)) (mNil))) (gN 4) l__law_gcd_0) (sRet (mVar 2)))))
noncomputable def m__law_red : Nat → MF
  | 0 => fun _ _ => .bad
  | k + 1 => mFun 3 (sSeq (sIf (isB (mOp (cmpD .Lt) (mVar 1) (mC (.int 0)))) (sRet (mCall (m__law_red k) (mCons (mUn negD (mVar 0)) (mCons (mUn negD (mVar 1)) (mNil))))) (sNext)) (sSeq (sSet (gN 2) (mCall m__law_gcd (mCons (mVar 0) (mCons (mVar 1) (mNil))))) (sSeq (sIf (isB (mOp eqD (mVar 2) (mC (.int 0)))) (sRet (mTup (mCons (mC (.int 0)) (mCons (mC (.int 1)) (mNil))))) (sNext)) (sRet (mTup (mCons (mOp divD (mVar 0) (mVar 2)) (mCons (mOp divD (mVar 1) (mVar 2)) (mNil))))))))
noncomputable def m__law_mul : MF := mFun 2 (sRet (mCall (m__law_red 12) (mCons (mOp mulD (mOp ixD (mVar 0) (mC (.int 0))) (mOp ixD (mVar 1) (mC (.int 0)))) (mCons (mOp mulD (mOp ixD (mVar 0) (mC (.int 1))) (mOp ixD (mVar 1) (mC (.int 1)))) (mNil)))))
noncomputable def l__law_numbers_1 : MS := sSeq (sIf (isB (mOp eqD (mVar 3) (mC (.int 0)))) (sBreak) (sNext)) (sSeq (sDrop (mMeL appendM (mVar 1) (mCons (mOp modD (mCall intF (mCons (mVar 3) (mNil))) (mC (.int 997))) (mNil)))) (sSet (gN 3) (mOp divD (mVar 3) (mC (.int 997)))))
noncomputable def l__law_numbers_2 : MS := sSeq (sSet (gN 5) (mOp modD (mCall intF (mCons (mOp addD (mOp addD (mOp mulD (mVar 2) (mC (.int 48271))) (mOp mulD (mVar 4) (mC (.int 69621)))) (mC (.int 11))) (mNil))) (mC (.int 2147483647)))) (sDrop (mMeL appendM (mVar 1) (mCons (mOp modD (mCall intF (mCons (mOp addD (mOp mulD (mVar 5) (mC (.int 16807))) (mVar 4)) (mNil))) (mC (.int 2147483629))) (mNil))))
noncomputable def l__law_numbers_0 : MS := sIf (isB (mOp (cmpD .GtE) (mVar 2) (mOp powD (mC (.int 10)) (mC (.int 18))))) (sSeq (sSet (gN 3) (mVar 2)) (sFor (iRg1 (mCons (mC (.int 60)) (mNil))) (gN 4) l__law_numbers_1)) (sFor (iRg1 (mCons (mC (.int 4)) (mNil))) (gN 4) l__law_numbers_2)
noncomputable def m__law_numbers : MF := mFun 6 (sSeq (sSet (gN 1) (mLst (mNil))) (sSeq (sFor (iAny (mSl (mVar 0) (oNone) (oSome (mC (.int 63))))) (gN 2) l__law_numbers_0) (sSeq (sIf (isB (mOp eqD (mCall lenF (mCons (mVar 1) (mNil))) (mC (.int 0)))) (sDrop (mMeL appendM (mVar 1) (mCons (mC (.int 0)) (mNil)))) (sNext)) (sRet (mVar 1)))))
noncomputable def m__law_so : Nat → MF
  | 0 => fun _ _ => .bad
  | k + 1 => mFun 3 (sSeq (sIf (isB (mOp isD (mVar 1) (mC .non))) (sRet (mOp isD (mVar 0) (mC .non))) (sNext)) (sSeq (sIf (tTru (mCall isiF (mCons (mVar 1) (mCons (mC (.ty "tuple")) (mNil))))) (sSeq (sIf (tOr' (tNot' (tTru (mCall isiF (mCons (mVar 0) (mCons (mC (.ty "tuple")) (mNil)))))) (isB (mOp neD (mCall lenF (mCons (mVar 0) (mNil))) (mCall lenF (mCons (mVar 1) (mNil)))))) (sRet (mC (.bl false))) (sNext)) (sSeq (sFor (iRg1 (mCons (mCall lenF (mCons (mVar 1) (mNil))) (mNil))) (gN 2) (sIf (tNot' (tTru (mCall (m__law_so k) (mCons (mOp ixD (mVar 0) (mVar 2)) (mCons (mOp ixD (mVar 1) (mVar 2)) (mNil)))))) (sRet (mC (.bl false))) (sNext))) (sRet (mC (.bl true))))) (sNext)) (sSeq (sIf (tOr' (tTru (mCall isiF (mCons (mVar 1) (mCons (mC (.ty "bool")) (mNil))))) (tTru (mCall isiF (mCons (mVar 0) (mCons (mC (.ty "bool")) (mNil)))))) (sRet (mAnd (mCall isiF (mCons (mVar 1) (mCons (mC (.ty "bool")) (mNil)))) (mAnd (mCall isiF (mCons (mVar 0) (mCons (mC (.ty "bool")) (mNil)))) (mOp eqD (mVar 0) (mVar 1))))) (sNext)) (sSeq (sIf (tTru (mCall isiF (mCons (mVar 1) (mCons (mC (.ty "int")) (mNil))))) (sRet (mAnd (mCall isiF (mCons (mVar 0) (mCons (mC (.ty "int")) (mNil)))) (mOp eqD (mVar 0) (mVar 1)))) (sNext)) (sRet (mAnd (mCall isiF (mCons (mVar 1) (mCons (mC (.ty "str")) (mNil)))) (mAnd (mCall isiF (mCons (mVar 0) (mCons (mC (.ty "str")) (mNil)))) (mOp eqD (mVar 0) (mVar 1)))))))))
noncomputable def m__law_draw : MF := mFun 4 (sSeq (sIf (isB (mOp (cmpD .Lt) (mVar 1) (mCall lenF (mCons (mVar 0) (mNil))))) (sRet (mOp modD (mCall intF (mCons (mOp ixD (mVar 0) (mVar 1)) (mNil))) (mVar 2))) (sNext)) (sSeq (sSet (gN 3) (mOp modD (mCall intF (mCons (mOp addD (mOp addD (mOp mulD (mOp ixD (mVar 0) (mOp modD (mCall intF (mCons (mVar 1) (mNil))) (mCall lenF (mCons (mVar 0) (mNil))))) (mC (.int 40692))) (mOp mulD (mVar 1) (mC (.int 7919)))) (mC (.int 3))) (mNil))) (mC (.int 2147483399)))) (sRet (mOp modD (mCall intF (mCons (mOp modD (mCall intF (mCons (mOp addD (mOp mulD (mVar 3) (mC (.int 48271))) (mVar 1)) (mNil))) (mC (.int 2147483647))) (mNil))) (mVar 2)))))
noncomputable def m__law_take : MF := mFun 3 (sSeq (sPut setLD (mVar 1) (mC (.int 0)) (mOp addD (mOp ixD (mVar 1) (mC (.int 0))) (mC (.int 1)))) (sRet (mCall m__law_draw (mCons (mVar 0) (mCons (mOp subD (mOp ixD (mVar 1) (mC (.int 0))) (mC (.int 1))) (mCons (mVar 2) (mNil)))))))
noncomputable def m_rounded_down : MF := mFun 2 (sRet (mOp divD (mVar 0) (mVar 1)))
noncomputable def m_at_rate : MF := mFun 2 (sRet (mCall m_rounded_down (mCons (mOp mulD (mVar 0) (mOp ixD (mVar 1) (mC (.int 0)))) (mCons (mOp ixD (mVar 1) (mC (.int 1))) (mNil)))))
noncomputable def m_is_integer : MF := mFun 1 (sRet (mAnd (mCall isiF (mCons (mVar 0) (mCons (mC (.ty "int")) (mNil)))) (mNot (mCall isiF (mCons (mVar 0) (mCons (mC (.ty "bool")) (mNil)))))))
noncomputable def m_is_between : MF := mFun 3 (sRet (mAnd (mCall m_is_integer (mCons (mVar 0) (mNil))) (mChain (cmpD .LtE) (cmpD .LtE) (mVar 1) (mVar 0) (mVar 2))))
noncomputable def m_is_sequence : MF := mFun 1 (sRet (mIsi2 "list" "tuple" (mVar 0)))
noncomputable def m_is_row : MF := mFun 2 (sRet (mAnd (mCall m_is_sequence (mCons (mVar 0) (mNil))) (mOp eqD (mCall lenF (mCons (mVar 0) (mNil))) (mVar 1))))
noncomputable def m_is_fraction : MF := mFun 1 (sSeq (sIf (tNot' (tTru (mCall m_is_row (mCons (mVar 0) (mCons (mC (.int 2)) (mNil)))))) (sRet (mC (.bl false))) (sNext)) (sSeq (sIf (tOr' (tNot' (tTru (mCall m_is_between (mCons (mOp ixD (mVar 0) (mC (.int 0))) (mCons (mUn negD (mC (.int 1000000))) (mCons (mC (.int 1000000)) (mNil))))))) (tNot' (tTru (mCall m_is_between (mCons (mOp ixD (mVar 0) (mC (.int 1))) (mCons (mC (.int 1)) (mCons (mC (.int 1000000)) (mNil)))))))) (sRet (mC (.bl false))) (sNext)) (sRet (mOp eqD (mCall gcdF (mCons (mOp ixD (mVar 0) (mC (.int 0))) (mCons (mOp ixD (mVar 0) (mC (.int 1))) (mNil)))) (mC (.int 1))))))
noncomputable def m_is_rate : MF := mFun 1 (sRet (mAnd (mCall m_is_fraction (mCons (mVar 0) (mNil))) (mChain (cmpD .Lt) (cmpD .LtE) (mC (.int 0)) (mOp ixD (mVar 0) (mC (.int 0))) (mOp mulD (mC (.int 1000)) (mOp ixD (mVar 0) (mC (.int 1)))))))
noncomputable def m_need : MF := mFun 2 (sIf (tNot' (tTru (mVar 0))) (sBad) (sNext))
noncomputable def m_exchanged : MF := mFun 2 (sSeq (sDrop (mCall m_need (mCons (mCall m_is_between (mCons (mVar 0) (mCons (mC (.int 0)) (mCons (mC (.int 1000000)) (mNil))))) (mCons (mC (.int 0)) (mNil))))) (sSeq (sDrop (mCall m_need (mCons (mCall m_is_rate (mCons (mVar 1) (mNil))) (mCons (mC (.int 1)) (mNil))))) (sRet (mCall m_at_rate (mCons (mVar 0) (mCons (mVar 1) (mNil)))))))
noncomputable def m_rounded_nearest : MF := mFun 2 (sRet (mOp divD (mOp addD (mOp mulD (mC (.int 2)) (mVar 0)) (mVar 1)) (mOp mulD (mC (.int 2)) (mVar 1))))
noncomputable def m_nearest_at_rate : MF := mFun 2 (sRet (mCall m_rounded_nearest (mCons (mOp mulD (mVar 0) (mOp ixD (mVar 1) (mC (.int 0)))) (mCons (mOp ixD (mVar 1) (mC (.int 1))) (mNil)))))
noncomputable def m_exchanged_nearest : MF := mFun 2 (sSeq (sDrop (mCall m_need (mCons (mCall m_is_between (mCons (mVar 0) (mCons (mC (.int 0)) (mCons (mC (.int 1000000)) (mNil))))) (mCons (mC (.int 0)) (mNil))))) (sSeq (sDrop (mCall m_need (mCons (mCall m_is_rate (mCons (mVar 1) (mNil))) (mCons (mC (.int 1)) (mNil))))) (sRet (mCall m_nearest_at_rate (mCons (mVar 0) (mCons (mVar 1) (mNil)))))))
noncomputable def l_least_cap_0 : MS := sIf (isB (mOp eqD (mOp ixD (mOp ixD (mVar 0) (mOp subD (mVar 4) (mC (.int 1)))) (mVar 1)) (mVar 3))) (sRet (mVar 4)) (sNext)
noncomputable def m_least_cap : MF := mFun 5 (sSeq (sFor (iRg2 (mCons (mC (.int 1)) (mCons (mVar 2) (mNil)))) (gN 4) l_least_cap_0) (sRet (mVar 2)))
noncomputable def l_score_rows_1 : MS := sDrop (mMeL appendM (mVar 8) (mCons (mCall maxF (mCons (mOp ixD (mVar 6) (mVar 9)) (mCons (mOp addD (mOp ixD (mVar 8) (mOp subD (mVar 9) (mVar 5))) (mVar 7)) (mNil)))) (mNil)))
noncomputable def l_score_rows_0 : MS := sSeq (sSet (gN 6) (mOp ixD (mVar 4) (mUn negD (mC (.int 1))))) (sSeq (sSet (gN 7) (mOp subD (mOp mulD (mOp ixD (mVar 0) (mVar 5)) (mVar 2)) (mC (.int 1)))) (sSeq (sSet (gN 8) (mSl (mVar 6) (oNone) (oSome (mVar 5)))) (sSeq (sFor (iRg2 (mCons (mVar 5) (mCons (mOp addD (mVar 1) (mC (.int 1))) (mNil)))) (gN 9) l_score_rows_1) (sDrop (mMeL appendM (mVar 4) (mCons (mVar 8) (mNil)))))))
noncomputable def m_score_rows : MF := mFun 11 (sSeq (sSet (gN 2) (mOp addD (mVar 1) (mC (.int 1)))) (sSeq (sSet (gN 3) (mOp subD (mOp mulD (mOp ixD (mVar 0) (mC (.int 1))) (mVar 2)) (mC (.int 1)))) (sSeq (sSet (gN 4) (mLst (mCons (mLc [10] (iRg1 (mCons (mOp addD (mVar 1) (mC (.int 1))) (mNil))) (gN 10) (tYes') (mOp mulD (mVar 3) (mVar 10))) (mNil)))) (sSeq (sFor (iRg2 (mCons (mC (.int 2)) (mCons (mOp addD (mVar 1) (mC (.int 1))) (mNil)))) (gN 5) l_score_rows_0) (sRet (mVar 4))))))
noncomputable def l_best_parts_0 : MS := sSeq (sSet (gN 8) (mCall m_least_cap (mCons (mVar 3) (mCons (mVar 7) (mCons (mCall minF (mCons (mVar 8) (mCons (mVar 7) (mNil)))) (mCons (mVar 4) (mNil))))))) (sSeq (sDrop (mMeL appendM (mVar 6) (mCons (mVar 8) (mNil)))) (sSeq (sSet (gN 4) (mOp subD (mVar 4) (mOp subD (mOp mulD (mOp ixD (mVar 0) (mVar 8)) (mVar 2)) (mC (.int 1))))) (sSet (gN 7) (mOp subD (mVar 7) (mVar 8)))))
noncomputable def m_best_parts : MF := mFun 9 (sSeq (sIf (isB (mOp eqD (mVar 1) (mC (.int 0)))) (sRet (mTup (mCons (mC (.int 0)) (mCons (mTup (mNil)) (mNil))))) (sNext)) (sSeq (sSet (gN 2) (mOp addD (mVar 1) (mC (.int 1)))) (sSeq (sSet (gN 3) (mCall m_score_rows (mCons (mVar 0) (mCons (mVar 1) (mNil))))) (sSeq (sSet (gN 4) (mOp ixD (mOp ixD (mVar 3) (mOp subD (mVar 1) (mC (.int 1)))) (mVar 1))) (sSeq (sSet (gN 5) (mUn negD (mOp divD (mUn negD (mVar 4)) (mVar 2)))) (sSeq (sSet (gN 6) (mLst (mNil))) (sSeq (sSet (gN 7) (mVar 1)) (sSeq (sSet (gN 8) (mVar 1)) (sSeq (sWhile 100000 (isB (mOp (cmpD .Gt) (mVar 7) (mC (.int 0)))) l_best_parts_0) (sRet (mTup (mCons (mVar 5) (mCons (mCall tupleF (mCons (mVar 6) (mNil))) (mNil))))))))))))))
noncomputable def m_made_of_parts : MF := mFun 3 (sRet (mLc [2] (iRg1 (mCons (mOp addD (mVar 1) (mC (.int 1))) (mNil))) (gN 2) (tYes') (mCall m_nearest_at_rate (mCons (mVar 2) (mCons (mVar 0) (mNil))))))
noncomputable def m_most_by_parts : MF := mFun 2 (sSeq (sDrop (mCall m_need (mCons (mCall m_is_between (mCons (mVar 0) (mCons (mC (.int 0)) (mCons (mC (.int 200)) (mNil))))) (mCons (mC (.int 0)) (mNil))))) (sSeq (sDrop (mCall m_need (mCons (mCall m_is_rate (mCons (mVar 1) (mNil))) (mCons (mC (.int 1)) (mNil))))) (sRet (mCall m_best_parts (mCons (mCall m_made_of_parts (mCons (mVar 1) (mCons (mVar 0) (mNil)))) (mCons (mVar 0) (mNil)))))))
noncomputable def l_greatest_worths_0 : MS := sDrop (mMeL appendM (mVar 2) (mCons (mCall maxF (mCons (mLc [4] (iRg2 (mCons (mC (.int 1)) (mCons (mOp addD (mVar 3) (mC (.int 1))) (mNil)))) (gN 4) (tYes') (mOp addD (mOp ixD (mVar 2) (mOp subD (mVar 3) (mVar 4))) (mOp ixD (mVar 0) (mVar 4)))) (mNil))) (mNil)))
noncomputable def m_greatest_worths : MF := mFun 5 (sSeq (sSet (gN 2) (mLst (mCons (mC (.int 0)) (mNil)))) (sSeq (sFor (iRg2 (mCons (mC (.int 1)) (mCons (mOp addD (mVar 1) (mC (.int 1))) (mNil)))) (gN 3) l_greatest_worths_0) (sRet (mVar 2))))
noncomputable def l_first_gain_0 : MS := sIf (isB (mOp (cmpD .Gt) (mOp ixD (mVar 2) (mVar 3)) (mOp ixD (mVar 0) (mVar 3)))) (sRet (mVar 3)) (sNext)
noncomputable def m_first_gain : MF := mFun 4 (sSeq (sSet (gN 2) (mCall m_greatest_worths (mCons (mVar 0) (mCons (mVar 1) (mNil))))) (sSeq (sFor (iRg2 (mCons (mC (.int 1)) (mCons (mOp addD (mVar 1) (mC (.int 1))) (mNil)))) (gN 3) l_first_gain_0) (sRet (mC .non))))
noncomputable def m_parts_gain : MF := mFun 2 (sSeq (sDrop (mCall m_need (mCons (mCall m_is_rate (mCons (mVar 0) (mNil))) (mCons (mC (.int 0)) (mNil))))) (sSeq (sDrop (mCall m_need (mCons (mCall m_is_between (mCons (mVar 1) (mCons (mC (.int 1)) (mCons (mC (.int 200)) (mNil))))) (mCons (mC (.int 1)) (mNil))))) (sRet (mCall m_first_gain (mCons (mCall m_made_of_parts (mCons (mVar 0) (mCons (mVar 1) (mNil)))) (mCons (mVar 1) (mNil)))))))
noncomputable def m_never_spent : MF := mFun 4 (sSeq (sSet (gT 2 (gCons' (gN 2) (gCons' (gN 3) (gNil')))) (mVar 1)) (sRet (mOp divD (mOp mulD (mVar 0) (mVar 2)) (mVar 3))))
noncomputable def m_earned_by : MF := mFun 6 (sSeq (sSet (gT 2 (gCons' (gN 3) (gCons' (gN 4) (gNil')))) (mVar 1)) (sSeq (sSet (gN 5) (mOp divD (mOp mulD (mVar 2) (mVar 3)) (mOp subD (mVar 4) (mVar 3)))) (sRet (mCall minF (mCons (mVar 5) (mCons (mCall m_never_spent (mCons (mVar 0) (mCons (mVar 1) (mNil)))) (mNil)))))))
noncomputable def l_running_sums_0 : MS := sSeq (sSet (gN 2) (mOp addD (mVar 2) (mVar 3))) (sDrop (mMeL appendM (mVar 1) (mCons (mVar 2) (mNil))))
noncomputable def m_running_sums : MF := mFun 4 (sSeq (sSet (gN 1) (mLst (mNil))) (sSeq (sSet (gN 2) (mC (.int 0))) (sSeq (sFor (iAny (mVar 0)) (gN 3) l_running_sums_0) (sRet (mVar 1)))))
noncomputable def l_steps_of_0 : MS := sSeq (sDrop (mMeL appendM (mVar 1) (mCons (mOp subD (mVar 3) (mVar 2)) (mNil)))) (sSet (gN 2) (mVar 3))
noncomputable def m_steps_of : MF := mFun 4 (sSeq (sSet (gN 1) (mLst (mNil))) (sSeq (sSet (gN 2) (mC (.int 0))) (sSeq (sFor (iAny (mVar 0)) (gN 3) l_steps_of_0) (sRet (mVar 1)))))
noncomputable def m_earned_in_each : MF := mFun 5 (sSeq (sSet (gN 3) (mLc [4] (iAny (mCall m_running_sums (mCons (mVar 2) (mNil)))) (gN 4) (tYes') (mCall m_earned_by (mCons (mVar 0) (mCons (mVar 1) (mCons (mVar 4) (mNil))))))) (sRet (mCall tupleF (mCons (mCall m_steps_of (mCons (mVar 3) (mNil))) (mNil)))))
noncomputable def m_has_size : MF := mFun 3 (sRet (mAnd (mCall m_is_sequence (mCons (mVar 0) (mNil))) (mChain (cmpD .LtE) (cmpD .LtE) (mVar 1) (mCall lenF (mCons (mVar 0) (mNil))) (mVar 2))))
noncomputable def m_are_between : MF := mFun 6 (sSeq (sIf (tNot' (tTru (mCall m_has_size (mCons (mVar 0) (mCons (mVar 1) (mCons (mVar 2) (mNil))))))) (sRet (mC (.bl false))) (sNext)) (sRet (mCall allF (mCons (mLc [5] (iAny (mVar 0)) (gN 5) (tYes') (mCall m_is_between (mCons (mVar 5) (mCons (mVar 3) (mCons (mVar 4) (mNil)))))) (mNil)))))
noncomputable def m_is_share : MF := mFun 1 (sRet (mAnd (mCall m_is_fraction (mCons (mVar 0) (mNil))) (mChain (cmpD .LtE) (cmpD .Lt) (mC (.int 0)) (mOp ixD (mVar 0) (mC (.int 0))) (mOp ixD (mVar 0) (mC (.int 1))))))
noncomputable def m_need_periods : MF := mFun 3 (sSeq (sDrop (mCall m_need (mCons (mCall m_is_between (mCons (mVar 0) (mCons (mC (.int 1)) (mCons (mC (.int 1000000)) (mNil))))) (mCons (mC (.int 0)) (mNil))))) (sSeq (sDrop (mCall m_need (mCons (mCall m_is_share (mCons (mVar 1) (mNil))) (mCons (mC (.int 1)) (mNil))))) (sDrop (mCall m_need (mCons (mCall m_are_between (mCons (mVar 2) (mCons (mC (.int 1)) (mCons (mC (.int 12)) (mCons (mC (.int 0)) (mCons (mC (.int 1000000)) (mNil))))))) (mCons (mC (.int 2)) (mNil)))))))
noncomputable def m_recognised : MF := mFun 3 (sSeq (sDrop (mCall m_need_periods (mCons (mVar 0) (mCons (mVar 1) (mCons (mVar 2) (mNil)))))) (sRet (mCall m_earned_in_each (mCons (mVar 0) (mCons (mVar 1) (mCons (mVar 2) (mNil)))))))
noncomputable def m_are_rates : MF := mFun 2 (sRet (mAnd (mCall m_has_size (mCons (mVar 0) (mCons (mC (.int 0)) (mCons (mC (.int 8)) (mNil))))) (mCall allF (mCons (mLc [1] (iAny (mVar 0)) (gN 1) (tYes') (mCall m_is_rate (mCons (mVar 1) (mNil)))) (mNil)))))
noncomputable def l_behind_trip_0 : MS := sSet (gN 0) (mCall m_at_rate (mCons (mVar 0) (mCons (mVar 2) (mNil))))
noncomputable def m_behind_trip : MF := mFun 3 (sSeq (sFor (iAny (mVar 1)) (gN 2) l_behind_trip_0) (sRet (mVar 0)))
noncomputable def m_round_trip : MF := mFun 2 (sSeq (sDrop (mCall m_need (mCons (mCall m_is_between (mCons (mVar 0) (mCons (mC (.int 0)) (mCons (mC (.int 1000000)) (mNil))))) (mCons (mC (.int 0)) (mNil))))) (sSeq (sDrop (mCall m_need (mCons (mCall m_are_rates (mCons (mVar 1) (mNil))) (mCons (mC (.int 1)) (mNil))))) (sRet (mCall m_behind_trip (mCons (mVar 0) (mCons (mVar 1) (mNil)))))))
noncomputable def m_is_sale : MF := mFun 1 (sSeq (sIf (tNot' (tTru (mCall m_is_row (mCons (mVar 0) (mCons (mC (.int 2)) (mNil)))))) (sRet (mC (.bl false))) (sNext)) (sRet (mAnd (mCall m_is_between (mCons (mOp ixD (mVar 0) (mC (.int 0))) (mCons (mC (.int 1)) (mCons (mC (.int 10000)) (mNil))))) (mCall m_is_between (mCons (mOp ixD (mVar 0) (mC (.int 1))) (mCons (mC (.int 0)) (mCons (mOp ixD (mVar 0) (mC (.int 0))) (mNil))))))))
noncomputable def m_are_sales : MF := mFun 2 (sRet (mAnd (mCall m_has_size (mCons (mVar 0) (mCons (mC (.int 1)) (mCons (mC (.int 20)) (mNil))))) (mCall allF (mCons (mLc [1] (iAny (mVar 0)) (gN 1) (tYes') (mCall m_is_sale (mCons (mVar 1) (mNil)))) (mNil)))))
noncomputable def m_lowest : MF := mFun 3 (sSeq (sSet (gN 2) (mCall gcdF (mCons (mVar 0) (mCons (mVar 1) (mNil))))) (sRet (mTup (mCons (mOp divD (mVar 0) (mVar 2)) (mCons (mOp divD (mVar 1) (mVar 2)) (mNil))))))
noncomputable def m_share_of : MF := mFun 4 (sSeq (sDrop (mCall m_need (mCons (mCall m_are_sales (mCons (mVar 0) (mNil))) (mCons (mC (.int 0)) (mNil))))) (sSeq (sSet (gN 1) (mCall sumF (mCons (mLc [3] (iAny (mVar 0)) (gN 3) (tYes') (mOp ixD (mVar 3) (mC (.int 0)))) (mNil)))) (sSeq (sSet (gN 2) (mCall sumF (mCons (mLc [3] (iAny (mVar 0)) (gN 3) (tYes') (mOp ixD (mVar 3) (mC (.int 1)))) (mNil)))) (sRet (mCall m_lowest (mCons (mOp subD (mVar 1) (mVar 2)) (mCons (mVar 1) (mNil))))))))
noncomputable def m_owed_behind : MF := mFun 4 (sSeq (sSet (gN 3) (mCall sumF (mCons (mVar 2) (mNil)))) (sRet (mCall maxF (mCons (mC (.int 0)) (mCons (mOp subD (mOp subD (mVar 0) (mVar 3)) (mCall m_earned_by (mCons (mVar 0) (mCons (mVar 1) (mCons (mVar 3) (mNil)))))) (mNil))))))
noncomputable def m_still_owed : MF := mFun 3 (sSeq (sDrop (mCall m_need_periods (mCons (mVar 0) (mCons (mVar 1) (mCons (mVar 2) (mNil)))))) (sRet (mCall m_owed_behind (mCons (mVar 0) (mCons (mVar 1) (mCons (mVar 2) (mNil)))))))
noncomputable def m_least_for : MF := mFun 2 (sRet (mUn negD (mCall m_rounded_down (mCons (mOp mulD (mUn negD (mVar 0)) (mOp ixD (mVar 1) (mC (.int 1)))) (mCons (mOp ixD (mVar 1) (mC (.int 0))) (mNil))))))
noncomputable def l_least_for_trip_0 : MS := sSet (gN 0) (mCall m_least_for (mCons (mVar 0) (mCons (mVar 2) (mNil))))
noncomputable def m_least_for_trip : MF := mFun 3 (sSeq (sFor (iRv (mVar 1)) (gN 2) l_least_for_trip_0) (sRet (mVar 0)))
noncomputable def m_times : MF := mFun 2 (sRet (mCall m_lowest (mCons (mOp mulD (mOp ixD (mVar 0) (mC (.int 0))) (mOp ixD (mVar 1) (mC (.int 0)))) (mCons (mOp mulD (mOp ixD (mVar 0) (mC (.int 1))) (mOp ixD (mVar 1) (mC (.int 1)))) (mNil)))))
noncomputable def l_rate_of_trip_0 : MS := sSet (gN 1) (mCall m_times (mCons (mVar 1) (mCons (mVar 2) (mNil))))
noncomputable def m_rate_of_trip : MF := mFun 3 (sSeq (sSet (gN 1) (mTup (mCons (mC (.int 1)) (mCons (mC (.int 1)) (mNil))))) (sSeq (sFor (iAny (mVar 0)) (gN 2) l_rate_of_trip_0) (sRet (mVar 1))))
noncomputable def l_first_trip_gain_0 : MS := sSeq (sIf (isB (mOp (cmpD .Gt) (mCall m_behind_trip (mCons (mVar 4) (mCons (mVar 0) (mNil)))) (mVar 4))) (sRet (mVar 4)) (sNext)) (sSet (gN 4) (mCall maxF (mCons (mOp addD (mVar 4) (mC (.int 1))) (mCons (mCall m_least_for_trip (mCons (mOp addD (mVar 4) (mC (.int 2))) (mCons (mVar 0) (mNil)))) (mNil)))))
noncomputable def m_first_trip_gain : MF := mFun 5 (sSeq (sSet (gT 2 (gCons' (gN 2) (gCons' (gN 3) (gNil')))) (mCall m_rate_of_trip (mCons (mVar 0) (mNil)))) (sSeq (sIf (isB (mOp (cmpD .LtE) (mVar 2) (mVar 3))) (sRet (mC .non)) (sNext)) (sSeq (sSet (gN 4) (mC (.int 1))) (sSeq (sWhile 100000 (isB (mOp (cmpD .LtE) (mVar 4) (mVar 1))) l_first_trip_gain_0) (sRet (mC .non))))))
noncomputable def m_trip_gains : MF := mFun 2 (sSeq (sDrop (mCall m_need (mCons (mCall m_are_rates (mCons (mVar 0) (mNil))) (mCons (mC (.int 0)) (mNil))))) (sSeq (sDrop (mCall m_need (mCons (mCall m_is_between (mCons (mVar 1) (mCons (mC (.int 1)) (mCons (mC (.int 2000)) (mNil))))) (mCons (mC (.int 1)) (mNil))))) (sRet (mCall m_first_trip_gain (mCons (mVar 0) (mCons (mVar 1) (mNil)))))))
noncomputable def t_law_13 : MS := sSet (gN 12) (mIf (tAnd' (isB (mOp isD (mVar 12) (mC .non))) (isB (mOp (cmpD .Gt) (mVar 14) (mVar 13)))) (mVar 13) (mVar 12))
noncomputable def l_law_3 : MS := sSeq (sSet (gN 14) (mOp divD (mOp mulD (mOp divD (mOp mulD (mVar 13) (mOp ixD (mVar 7) (mC (.int 0)))) (mOp ixD (mVar 7) (mC (.int 1)))) (mOp ixD (mVar 9) (mC (.int 0)))) (mOp ixD (mVar 9) (mC (.int 1))))) t_law_13
noncomputable def t_law_14 : MS := sIf (isB (mOp isNotD (mCall m_trip_gains (mCons (mTup (mCons (mVar 7) (mCons (mTup (mCons (mOp ixD (mVar 7) (mC (.int 1))) (mCons (mOp ixD (mVar 7) (mC (.int 0))) (mNil)))) (mNil)))) (mCons (mC (.int 60)) (mNil)))) (mC .non))) (sRet (mC (.bl false))) (sNext)
noncomputable def t_law_12 : MS := sSeq (sIf (tOr' (tNot' (tTru (mCall (m__law_so 12) (mCons (mVar 11) (mCons (mVar 12) (mNil)))))) (tAnd' (isB (mOp isNotD (mVar 11) (mC .non))) (tNot' (tTru (mCall m__law_less (mCons (mTup (mCons (mC (.int 1)) (mCons (mC (.int 1)) (mNil)))) (mCons (mVar 10) (mNil)))))))) (sRet (mC (.bl false))) (sNext)) t_law_14
noncomputable def t_law_11 : MS := sSeq (sFor (iRg2 (mCons (mC (.int 1)) (mCons (mC (.int 61)) (mNil)))) (gN 13) l_law_3) t_law_12
noncomputable def t_law_10 : MS := sSeq (sSet (gN 12) (mC .non)) t_law_11
noncomputable def t_law_9 : MS := sSeq (sSet (gN 11) (mCall m_trip_gains (mCons (mTup (mCons (mVar 7) (mCons (mVar 9) (mNil)))) (mCons (mC (.int 60)) (mNil))))) t_law_10
noncomputable def t_law_8 : MS := sSeq (sSet (gN 10) (mCall m__law_mul (mCons (mVar 7) (mCons (mVar 9) (mNil))))) t_law_9
noncomputable def l_law_2 : MS := sSeq (sSet (gN 9) (mCall (m__law_red 12) (mCons (mVar 8) (mCons (mOp addD (mC (.int 1)) (mCall m__law_take (mCons (mVar 1) (mCons (mVar 2) (mCons (mC (.int 7)) (mNil)))))) (mNil))))) t_law_8
noncomputable def l_law_4 : MS := sIf (tOr' (isB (mOp (cmpD .Gt) (mOp addD (mCall m_exchanged (mCons (mVar 13) (mCons (mVar 7) (mNil)))) (mCall m_exchanged (mCons (mOp addD (mVar 13) (mC (.int 1))) (mCons (mVar 7) (mNil))))) (mCall m_exchanged (mCons (mOp addD (mOp mulD (mC (.int 2)) (mVar 13)) (mC (.int 1))) (mCons (mVar 7) (mNil)))))) (tNot' (tTru (mCall (m__law_so 12) (mCons (mCall m_exchanged_nearest (mCons (mVar 13) (mCons (mVar 7) (mNil)))) (mCons (mOp divD (mOp addD (mOp mulD (mOp mulD (mC (.int 2)) (mVar 13)) (mOp ixD (mVar 7) (mC (.int 0)))) (mOp ixD (mVar 7) (mC (.int 1)))) (mOp mulD (mC (.int 2)) (mOp ixD (mVar 7) (mC (.int 1))))) (mNil))))))) (sRet (mC (.bl false))) (sNext)
noncomputable def l_law_5 : MS := sIf (tNot' (tTru (mCall (m__law_so 12) (mCons (mCall m_most_by_parts (mCons (mVar 13) (mCons (mVar 7) (mNil)))) (mCons (mTup (mCons (mUn negD (mOp ixD (mOp ixD (mVar 15) (mVar 13)) (mC (.int 0)))) (mCons (mOp ixD (mOp ixD (mVar 15) (mVar 13)) (mC (.int 2))) (mNil)))) (mNil)))))) (sRet (mC (.bl false))) (sNext)
noncomputable def t_law_18 : MS := sIf (tNot' (tTru (mCall (m__law_so 12) (mCons (mCall m_parts_gain (mCons (mVar 7) (mCons (mC (.int 16)) (mNil)))) (mCons (mIf (isB (mOp (cmpD .Gt) (mCall lenF (mCons (mVar 16) (mNil))) (mC (.int 0)))) (mOp ixD (mVar 16) (mC (.int 0))) (mC .non)) (mNil)))))) (sRet (mC (.bl false))) (sNext)
noncomputable def t_law_17 : MS := sSeq (sSet (gN 16) (mLc [13] (iRg2 (mCons (mC (.int 1)) (mCons (mC (.int 17)) (mNil)))) (gN 13) (isB (mOp (cmpD .Gt) (mUn negD (mOp ixD (mOp ixD (mVar 15) (mVar 13)) (mC (.int 0)))) (mCall m__law_near (mCons (mVar 13) (mCons (mVar 7) (mNil)))))) (mVar 13))) t_law_18
noncomputable def t_law_16 : MS := sSeq (sFor (iRg2 (mCons (mC (.int 0)) (mCons (mC (.int 17)) (mNil)))) (gN 13) l_law_5) t_law_17
noncomputable def t_law_15 : MS := sSeq (sSet (gN 15) (mCall m__law_by_parts (mCons (mVar 7) (mCons (mC (.int 16)) (mNil))))) t_law_16
noncomputable def t_law_7 : MS := sSeq (sFor (iRg2 (mCons (mC (.int 0)) (mCons (mC (.int 20)) (mNil)))) (gN 13) l_law_4) t_law_15
noncomputable def t_law_6 : MS := sSeq (sFor (iRg2 (mCons (mC (.int 1)) (mCons (mC (.int 7)) (mNil)))) (gN 8) l_law_2) t_law_7
noncomputable def t_law_5 : MS := sIf (isB (mOp eqD (mOp modD (mCall intF (mCons (mVar 4) (mNil))) (mC (.int 4))) (mVar 3))) (sSeq (sSet (gN 7) (mCall (m__law_red 12) (mCons (mVar 5) (mCons (mVar 6) (mNil))))) t_law_6) (sNext)
noncomputable def l_law_1 : MS := sSeq (sSet (gN 4) (mOp addD (mVar 4) (mC (.int 1)))) t_law_5
noncomputable def l_law_0 : MS := sFor (iRg2 (mCons (mC (.int 1)) (mCons (mC (.int 8)) (mNil)))) (gN 6) l_law_1
noncomputable def t_law_28 : MS := sIf (tOr' (isB (mOp neD (mSl (mVar 25) (oNone) (oSome (mVar 21))) (mSl (mVar 20) (oNone) (oSome (mVar 21))))) (tOr' (isB (mOp neD (mOp addD (mOp ixD (mVar 25) (mVar 21)) (mOp ixD (mVar 25) (mOp addD (mVar 21) (mC (.int 1))))) (mOp ixD (mVar 20) (mVar 21)))) (isB (mOp neD (mSl (mVar 25) (oSome (mOp addD (mVar 21) (mC (.int 2)))) (oNone)) (mSl (mVar 20) (oSome (mOp addD (mVar 21) (mC (.int 1)))) (oNone)))))) (sRet (mC (.bl false))) (sNext)
noncomputable def t_law_27 : MS := sSeq (sSet (gN 25) (mCall m_recognised (mCons (mVar 17) (mCons (mVar 18) (mCons (mOp addD (mOp addD (mSl (mVar 19) (oNone) (oSome (mVar 21))) (mTup (mCons (mVar 24) (mCons (mOp subD (mOp ixD (mVar 19) (mVar 21)) (mVar 24)) (mNil))))) (mSl (mVar 19) (oSome (mOp addD (mVar 21) (mC (.int 1)))) (oNone))) (mNil)))))) t_law_28
noncomputable def t_law_26 : MS := sSeq (sSet (gN 24) (mOp divD (mOp ixD (mVar 19) (mVar 21)) (mC (.int 2)))) t_law_27
noncomputable def t_law_25 : MS := sSeq (sIf (tOr' (isB (mOp neD (mVar 23) (mOp addD (mOp addD (mSl (mVar 20) (oNone) (oSome (mVar 21))) (mTup (mCons (mOp addD (mOp ixD (mVar 20) (mVar 21)) (mOp ixD (mVar 20) (mOp addD (mVar 21) (mC (.int 1))))) (mNil)))) (mSl (mVar 20) (oSome (mOp addD (mVar 21) (mC (.int 2)))) (oNone))))) (isB (mOp neD (mCall m_still_owed (mCons (mVar 17) (mCons (mVar 18) (mCons (mVar 22) (mNil))))) (mCall m_still_owed (mCons (mVar 17) (mCons (mVar 18) (mCons (mVar 19) (mNil)))))))) (sRet (mC (.bl false))) (sNext)) t_law_26
noncomputable def t_law_24 : MS := sSeq (sSet (gN 23) (mCall m_recognised (mCons (mVar 17) (mCons (mVar 18) (mCons (mVar 22) (mNil)))))) t_law_25
noncomputable def l_law_6 : MS := sSeq (sSet (gN 22) (mOp addD (mOp addD (mSl (mVar 19) (oNone) (oSome (mVar 21))) (mTup (mCons (mOp addD (mOp ixD (mVar 19) (mVar 21)) (mOp ixD (mVar 19) (mOp addD (mVar 21) (mC (.int 1))))) (mNil)))) (mSl (mVar 19) (oSome (mOp addD (mVar 21) (mC (.int 2)))) (oNone)))) t_law_24
noncomputable def t_law_29 : MS := sRet (mAnd (mOp eqD (mCall m_share_of (mCons (mOp mulD (mTup (mCons (mVar 10) (mNil))) (mC (.int 20))) (mNil))) (mCall m_share_of (mCons (mTup (mCons (mVar 10) (mNil))) (mNil)))) (mOp eqD (mCall m_round_trip (mCons (mVar 17) (mCons (mTup (mNil)) (mNil)))) (mVar 17)))
noncomputable def t_law_23 : MS := sSeq (sSet (gN 10) (mTup (mCons (mVar 17) (mCons (mOp subD (mVar 17) (mCall m__law_take (mCons (mVar 1) (mCons (mVar 2) (mCons (mOp addD (mVar 17) (mC (.int 1))) (mNil)))))) (mNil))))) t_law_29
noncomputable def t_law_22 : MS := sSeq (sFor (iRg1 (mCons (mC (.int 5)) (mNil))) (gN 21) l_law_6) t_law_23
noncomputable def t_law_21 : MS := sSeq (sSet (gN 20) (mCall m_recognised (mCons (mVar 17) (mCons (mVar 18) (mCons (mVar 19) (mNil)))))) t_law_22
noncomputable def t_law_20 : MS := sSeq (sSet (gN 19) (mCall tupleF (mCons (mLc [21] (iRg1 (mCons (mC (.int 6)) (mNil))) (gN 21) (tYes') (mCall m__law_take (mCons (mVar 1) (mCons (mVar 2) (mCons (mC (.int 150)) (mNil)))))) (mNil)))) t_law_21
noncomputable def t_law_19 : MS := sSeq (sSet (gN 18) (mCall (m__law_red 12) (mCons (mCall m__law_take (mCons (mVar 1) (mCons (mVar 2) (mCons (mC (.int 12)) (mNil))))) (mCons (mC (.int 12)) (mNil))))) t_law_20
noncomputable def t_law_4 : MS := sSeq (sSet (gN 17) (mOp addD (mC (.int 1)) (mCall m__law_take (mCons (mVar 1) (mCons (mVar 2) (mCons (mC (.int 997)) (mNil))))))) t_law_19
noncomputable def t_law_3 : MS := sSeq (sFor (iRg2 (mCons (mC (.int 1)) (mCons (mC (.int 8)) (mNil)))) (gN 5) l_law_0) t_law_4
noncomputable def t_law_2 : MS := sSeq (sSet (gN 4) (mC (.int 0))) t_law_3
noncomputable def t_law_1 : MS := sSeq (sSet (gN 3) (mCall m__law_take (mCons (mVar 1) (mCons (mVar 2) (mCons (mC (.int 4)) (mNil)))))) t_law_2
noncomputable def t_law_0 : MS := sSeq (sSet (gN 2) (mLst (mCons (mC (.int 0)) (mNil)))) t_law_1
noncomputable def m_law : MF := mFun 26 (sSeq (sSet (gN 1) (mCall m__law_numbers (mCons (mVar 0) (mNil)))) t_law_0)
/-! ### what stands at the top -/
structure Tops (K : PySem.W.Frag) (mg : Str → Option Value) where
  d__law_near : DefT K mg "_law_near" s__law_near ["pence", "rate"]
  d__law_by_parts : DefT K mg "_law_by_parts" s__law_by_parts ["rate", "top"]
  d__law_less : DefT K mg "_law_less" s__law_less ["one", "other"]
  d__law_gcd : DefT K mg "_law_gcd" s__law_gcd ["one", "other"]
  d__law_red : DefT K mg "_law_red" s__law_red ["n", "d"]
  d__law_mul : DefT K mg "_law_mul" s__law_mul ["one", "other"]
  d__law_numbers : DefT K mg "_law_numbers" s__law_numbers ["script"]
  d__law_so : DefT K mg "_law_so" s__law_so ["found", "meant"]
  d__law_draw : DefT K mg "_law_draw" s__law_draw ["row", "at", "limit"]
  d__law_take : DefT K mg "_law_take" s__law_take ["row", "spot", "limit"]
  d_rounded_down : DefT K mg "rounded_down" s_rounded_down ["numerator", "denominator"]
  d_at_rate : DefT K mg "at_rate" s_at_rate ["pence", "rate"]
  d_is_integer : DefT K mg "is_integer" s_is_integer ["value"]
  d_is_between : DefT K mg "is_between" s_is_between ["value", "least", "most"]
  d_is_sequence : DefT K mg "is_sequence" s_is_sequence ["value"]
  d_is_row : DefT K mg "is_row" s_is_row ["value", "size"]
  d_is_fraction : DefT K mg "is_fraction" s_is_fraction ["value"]
  d_is_rate : DefT K mg "is_rate" s_is_rate ["value"]
  d_need : DefT K mg "need" s_need ["held", "at"]
  d_exchanged : DefT K mg "exchanged" s_exchanged ["pence", "rate"]
  d_rounded_nearest : DefT K mg "rounded_nearest" s_rounded_nearest ["numerator", "denominator"]
  d_nearest_at_rate : DefT K mg "nearest_at_rate" s_nearest_at_rate ["pence", "rate"]
  d_exchanged_nearest : DefT K mg "exchanged_nearest" s_exchanged_nearest ["pence", "rate"]
  d_least_cap : DefT K mg "least_cap" s_least_cap ["rows", "left", "cap", "goal"]
  d_score_rows : DefT K mg "score_rows" s_score_rows ["worths", "whole"]
  d_best_parts : DefT K mg "best_parts" s_best_parts ["worths", "whole"]
  d_made_of_parts : DefT K mg "made_of_parts" s_made_of_parts ["rate", "most"]
  d_most_by_parts : DefT K mg "most_by_parts" s_most_by_parts ["pence", "rate"]
  d_greatest_worths : DefT K mg "greatest_worths" s_greatest_worths ["worths", "whole"]
  d_first_gain : DefT K mg "first_gain" s_first_gain ["worths", "most"]
  d_parts_gain : DefT K mg "parts_gain" s_parts_gain ["rate", "most"]
  d_never_spent : DefT K mg "never_spent" s_never_spent ["sold", "share"]
  d_earned_by : DefT K mg "earned_by" s_earned_by ["sold", "share", "use"]
  d_running_sums : DefT K mg "running_sums" s_running_sums ["numbers"]
  d_steps_of : DefT K mg "steps_of" s_steps_of ["sums"]
  d_earned_in_each : DefT K mg "earned_in_each" s_earned_in_each ["sold", "share", "used"]
  d_has_size : DefT K mg "has_size" s_has_size ["value", "fewest", "most"]
  d_are_between : DefT K mg "are_between" s_are_between ["value", "fewest", "most", "least", "greatest"]
  d_is_share : DefT K mg "is_share" s_is_share ["value"]
  d_need_periods : DefT K mg "need_periods" s_need_periods ["sold", "share", "used"]
  d_recognised : DefT K mg "recognised" s_recognised ["sold", "share", "used"]
  d_are_rates : DefT K mg "are_rates" s_are_rates ["value"]
  d_behind_trip : DefT K mg "behind_trip" s_behind_trip ["pence", "rates"]
  d_round_trip : DefT K mg "round_trip" s_round_trip ["pence", "rates"]
  d_is_sale : DefT K mg "is_sale" s_is_sale ["value"]
  d_are_sales : DefT K mg "are_sales" s_are_sales ["value"]
  d_lowest : DefT K mg "lowest" s_lowest ["numerator", "denominator"]
  d_share_of : DefT K mg "share_of" s_share_of ["cards"]
  d_owed_behind : DefT K mg "owed_behind" s_owed_behind ["sold", "share", "used"]
  d_still_owed : DefT K mg "still_owed" s_still_owed ["sold", "share", "used"]
  d_least_for : DefT K mg "least_for" s_least_for ["goal", "rate"]
  d_least_for_trip : DefT K mg "least_for_trip" s_least_for_trip ["goal", "rates"]
  d_times : DefT K mg "times" s_times ["one", "other"]
  d_rate_of_trip : DefT K mg "rate_of_trip" s_rate_of_trip ["rates"]
  d_first_trip_gain : DefT K mg "first_trip_gain" s_first_trip_gain ["rates", "most"]
  d_trip_gains : DefT K mg "trip_gains" s_trip_gains ["rates", "most"]
  d_law : DefT K mg "law" s_law ["script"]
  n_all : mg "all" = none
  n_bool : mg "bool" = none
  n_int : mg "int" = none
  n_isinstance : mg "isinstance" = none
  n_len : mg "len" = none
  n_list : mg "list" = none
  n_max : mg "max" = none
  n_min : mg "min" = none
  n_range : mg "range" = none
  n_reversed : mg "reversed" = none
  n_sorted : mg "sorted" = none
  n_str : mg "str" = none
  n_sum : mg "sum" = none
  n_tuple : mg "tuple" = none
  t_MOST_CARDS : Tok
  c_MOST_CARDS : mg "MOST_CARDS" = some (.int 20 t_MOST_CARDS)
  t_MOST_ON_CARD : Tok
  c_MOST_ON_CARD : mg "MOST_ON_CARD" = some (.int 10000 t_MOST_ON_CARD)
  t_MOST_PARTED : Tok
  c_MOST_PARTED : mg "MOST_PARTED" = some (.int 200 t_MOST_PARTED)
  t_MOST_PENCE : Tok
  c_MOST_PENCE : mg "MOST_PENCE" = some (.int 1000000 t_MOST_PENCE)
  t_MOST_PERIODS : Tok
  c_MOST_PERIODS : mg "MOST_PERIODS" = some (.int 12 t_MOST_PERIODS)
  t_MOST_RATE : Tok
  c_MOST_RATE : mg "MOST_RATE" = some (.int 1000 t_MOST_RATE)
  t_MOST_RATES : Tok
  c_MOST_RATES : mg "MOST_RATES" = some (.int 8 t_MOST_RATES)
  t_MOST_SOLD : Tok
  c_MOST_SOLD : mg "MOST_SOLD" = some (.int 1000000 t_MOST_SOLD)
  t_MOST_TRIP : Tok
  c_MOST_TRIP : mg "MOST_TRIP" = some (.int 2000 t_MOST_TRIP)
  t_MOST_USED : Tok
  c_MOST_USED : mg "MOST_USED" = some (.int 1000000 t_MOST_USED)
  t_WIDEST : Tok
  c_WIDEST : mg "WIDEST" = some (.int 1000000 t_WIDEST)
  c_gcd : mg "gcd" = some (.builtin "math.gcd")
/-! ### each def keeps its meaning -/
section
variable {P : Program} {w : World} {K : PySem.W.Frag} {mg : Str → Option Value} {base : Heap}
theorem ok__law_near (T : Tops K mg) : FnOk P w K mg base CX0 1 T.d__law_near.f T.d__law_near.fd ["pence", "rate"] (spD K mg 2 m__law_near fun _ => w0) := fn_ok0 (k := 0) T.d__law_near.F sc__law_near fun cdv A outer s H E hr => by
  have nd : (N__law_near).Nodup := sc__law_near.nd
  exact ss_one (s_ret (e_op o_div (e_op o_add (e_op o_mul (e_op o_mul (e_int) (e_var 0)) (e_ix x_ix (e_var 1) (e_int))) (e_ix x_ix (e_var 1) (e_int))) (e_op o_mul (e_int) (e_ix x_ix (e_var 1) (e_int)))))
theorem ok__law_by_parts (T : Tops K mg) : FnOk P w K mg base CX0 2 T.d__law_by_parts.f T.d__law_by_parts.fd ["rate", "top"] (spD K mg 2 m__law_by_parts fun _ => w0) := fn_ok0 (k := 1) T.d__law_by_parts.F sc__law_by_parts fun cdv A outer s H E hr => by
  have nd : (N__law_by_parts).Nodup := sc__law_by_parts.nd
  exact ss_cons (s_set 2 nd (e_lst (a_cons (e_tup (a_cons (e_int) (a_cons (e_int) (a_cons (e_tup (a_nil)) (a_nil))))) (a_nil))))
          (ss_cons (s_for PassesOwn.never (i_range2 T.n_range (a_cons (e_int) (a_cons (e_op o_add (e_var 1) (e_int)) (a_nil)))) (g_name (vs := [3]) 3 nd) (ss_cons (s_set 4 nd (e_non))
          (ss_cons (s_for PassesOwn.never (i_range2 T.n_range (a_cons (e_int) (a_cons (e_op o_add (e_var 3) (e_int)) (a_nil)))) (g_name (vs := [5]) 5 nd) (ss_cons (s_set 6 nd (e_ix x_ix (e_var 2) (e_op o_sub (e_var 3) (e_var 5))))
          (ss_cons (s_set 7 nd (e_callTy c_tuple T.n_tuple (a_cons (e_callB c_sorted T.n_sorted (a_cons (e_op o_add (e_lc [(Str.ofString "one", 9)] nd (i_any (e_ix x_ix (e_var 6) (e_int))) (blkOk_by (by kernel_rfl)) (fun _ _ _ _ _ => g_name 9 nd) (fun _ _ _ _ _ => ts_nil) (fun _ _ _ _ _ => e_un o_neg (e_var 9))) (e_lst (a_cons (e_un o_neg (e_var 5)) (a_nil)))) (a_nil))) (a_nil))))
          (ss_cons (s_set 8 nd (e_tup (a_cons (e_op o_sub (e_ix x_ix (e_var 6) (e_int)) (e_call ((ok__law_near T).mono (by omega)) hr T.d__law_near.g T.d__law_near.F.kp T.d__law_near.b pass0 (fun _ _ _ z => z) (a_cons (e_var 5) (a_cons (e_var 0) (a_nil))) (alen_cons (alen_cons (alen_nil))))) (a_cons (e_op o_add (e_ix x_ix (e_var 6) (e_int)) (e_int)) (a_cons (e_callTy c_tuple T.n_tuple (a_cons (e_lc [(Str.ofString "one", 9)] nd (i_any (e_var 7)) (blkOk_by (by kernel_rfl)) (fun _ _ _ _ _ => g_name 9 nd) (fun _ _ _ _ _ => ts_nil) (fun _ _ _ _ _ => e_un o_neg (e_var 9))) (a_nil))) (a_nil))))))
          (ss_one (s_set 4 nd (e_if (t_w (w_or (t_cmp o_is (e_var 4) (e_non)) (w_one (Or.inr rfl) (t_cmp (o_cmp .Lt rfl hr.units) (e_var 8) (e_var 4))))) (e_var 8) (e_var 4))))))))
          (ss_one (s_expr (e_append (e_var 2) (a_cons (e_var 4) (a_nil))))))))
          (ss_one (s_ret (e_var 2))))
theorem ok__law_less (T : Tops K mg) : FnOk P w K mg base CX0 1 T.d__law_less.f T.d__law_less.fd ["one", "other"] (spD K mg 2 m__law_less fun _ => w0) := fn_ok0 (k := 0) T.d__law_less.F sc__law_less fun cdv A outer s H E hr => by
  have nd : (N__law_less).Nodup := sc__law_less.nd
  exact ss_one (s_ret (e_cmp (o_cmp .Lt rfl hr.units) (e_op o_mul (e_ix x_ix (e_var 0) (e_int)) (e_ix x_ix (e_var 1) (e_int))) (e_op o_mul (e_ix x_ix (e_var 1) (e_int)) (e_ix x_ix (e_var 0) (e_int)))))
theorem ok__law_gcd (T : Tops K mg) : FnOk P w K mg base CX0 1 T.d__law_gcd.f T.d__law_gcd.fd ["one", "other"] (spD K mg 2 m__law_gcd fun _ => w0) := fn_ok0 (k := 0) T.d__law_gcd.F sc__law_gcd fun cdv A outer s H E hr => by
  have nd : (N__law_gcd).Nodup := sc__law_gcd.nd
  exact ss_cons (s_set 2 nd (e_if (t_cmp (o_cmp .GtE rfl hr.units) (e_var 0) (e_int)) (e_var 0) (e_un o_neg (e_var 0))))
          (ss_cons (s_set 3 nd (e_if (t_cmp (o_cmp .GtE rfl hr.units) (e_var 1) (e_int)) (e_var 1) (e_un o_neg (e_var 1))))
          (ss_cons (s_for PassesOwn.never (i_range1 T.n_range (a_cons (e_int) (a_nil))) (g_name (vs := [4]) 4 nd) (ss_cons (s_if (t_cmp (o_eq hr.units) (e_var 3) (e_int)) (ss_one (s_break)) (ss_nil))
          (ss_cons (s_set 5 nd (e_op o_mod (e_callTy c_int T.n_int (a_cons (e_var 2) (a_nil))) (e_var 3)))
          (ss_cons (s_set 2 nd (e_var 3))
          (ss_one (s_set 3 nd (e_var 5)))))))
          (ss_one (s_ret (e_var 2)))))
theorem ok__law_red (T : Tops K mg) : ∀ k : Nat, FnOk P w K mg base CX0 (k + 2) T.d__law_red.f T.d__law_red.fd ["n", "d"] (spD K mg 2 (m__law_red k) fun _ => w0)
  | 0 => fn_bad
  | k + 1 => fn_ok0 T.d__law_red.F sc__law_red fun cdv A outer s H E hr => by
    have nd : (N__law_red).Nodup := sc__law_red.nd
    have IH := ok__law_red T k
    exact ss_cons (s_if (t_cmp (o_cmp .Lt rfl hr.units) (e_var 1) (e_int)) (ss_one (s_ret (e_call IH hr T.d__law_red.g T.d__law_red.F.kp T.d__law_red.b pass0 (fun _ _ _ z => z) (a_cons (e_un o_neg (e_var 0)) (a_cons (e_un o_neg (e_var 1)) (a_nil))) (alen_cons (alen_cons (alen_nil)))))) (ss_nil))
          (ss_cons (s_set 2 nd (e_call ((ok__law_gcd T).mono (by omega)) hr T.d__law_gcd.g T.d__law_gcd.F.kp T.d__law_gcd.b pass0 (fun _ _ _ z => z) (a_cons (e_var 0) (a_cons (e_var 1) (a_nil))) (alen_cons (alen_cons (alen_nil)))))
          (ss_cons (s_if (t_cmp (o_eq hr.units) (e_var 2) (e_int)) (ss_one (s_ret (e_tup (a_cons (e_int) (a_cons (e_int) (a_nil)))))) (ss_nil))
          (ss_one (s_ret (e_tup (a_cons (e_op o_div (e_var 0) (e_var 2)) (a_cons (e_op o_div (e_var 1) (e_var 2)) (a_nil))))))))
theorem ok__law_mul (T : Tops K mg) : FnOk P w K mg base CX0 15 T.d__law_mul.f T.d__law_mul.fd ["one", "other"] (spD K mg 2 m__law_mul fun _ => w0) := fn_ok0 (k := 14) T.d__law_mul.F sc__law_mul fun cdv A outer s H E hr => by
  have nd : (N__law_mul).Nodup := sc__law_mul.nd
  exact ss_one (s_ret (e_call ((ok__law_red T 12).mono (by omega)) hr T.d__law_red.g T.d__law_red.F.kp T.d__law_red.b pass0 (fun _ _ _ z => z) (a_cons (e_op o_mul (e_ix x_ix (e_var 0) (e_int)) (e_ix x_ix (e_var 1) (e_int))) (a_cons (e_op o_mul (e_ix x_ix (e_var 0) (e_int)) (e_ix x_ix (e_var 1) (e_int))) (a_nil))) (alen_cons (alen_cons (alen_nil)))))
theorem ok__law_numbers (T : Tops K mg) : FnOk P w K mg base CX0 1 T.d__law_numbers.f T.d__law_numbers.fd ["script"] (spD K mg 1 m__law_numbers fun _ => w0) := fn_ok0 (k := 0) T.d__law_numbers.F sc__law_numbers fun cdv A outer s H E hr => by
  have nd : (N__law_numbers).Nodup := sc__law_numbers.nd
  exact ss_cons (s_set 1 nd (e_lst (a_nil)))
          (ss_cons (s_for PassesOwn.never (i_any (e_slice (e_var 0) (p_none) (p_some (e_int)))) (g_name (vs := [2]) 2 nd) (ss_one (s_if (t_cmp (o_cmp .GtE rfl hr.units) (e_var 2) (e_op o_pow (e_int) (e_int))) (ss_cons (s_set 3 nd (e_var 2))
          (ss_one (s_for PassesOwn.never (i_range1 T.n_range (a_cons (e_int) (a_nil))) (g_name (vs := [4]) 4 nd) (ss_cons (s_if (t_cmp (o_eq hr.units) (e_var 3) (e_int)) (ss_one (s_break)) (ss_nil))
          (ss_cons (s_expr (e_append (e_var 1) (a_cons (e_op o_mod (e_callTy c_int T.n_int (a_cons (e_var 3) (a_nil))) (e_int)) (a_nil))))
          (ss_one (s_set 3 nd (e_op o_div (e_var 3) (e_int))))))))) (ss_one (s_for PassesOwn.never (i_range1 T.n_range (a_cons (e_int) (a_nil))) (g_name (vs := [4]) 4 nd) (ss_cons (s_set 5 nd (e_op o_mod (e_callTy c_int T.n_int (a_cons (e_op o_add (e_op o_add (e_op o_mul (e_var 2) (e_int)) (e_op o_mul (e_var 4) (e_int))) (e_int)) (a_nil))) (e_int)))
          (ss_one (s_expr (e_append (e_var 1) (a_cons (e_op o_mod (e_callTy c_int T.n_int (a_cons (e_op o_add (e_op o_mul (e_var 5) (e_int)) (e_var 4)) (a_nil))) (e_int)) (a_nil)))))))))))
          (ss_cons (s_if (t_cmp (o_eq hr.units) (e_callB c_len T.n_len (a_cons (e_var 1) (a_nil))) (e_int)) (ss_one (s_expr (e_append (e_var 1) (a_cons (e_int) (a_nil))))) (ss_nil))
          (ss_one (s_ret (e_var 1)))))
theorem ok__law_so (T : Tops K mg) : ∀ k : Nat, FnOk P w K mg base CX0 (k + 1) T.d__law_so.f T.d__law_so.fd ["found", "meant"] (spD K mg 2 (m__law_so k) fun _ => w0)
  | 0 => fn_bad
  | k + 1 => fn_ok0 T.d__law_so.F sc__law_so fun cdv A outer s H E hr => by
    have nd : (N__law_so).Nodup := sc__law_so.nd
    have IH := ok__law_so T k
    exact ss_cons (s_if (t_cmp o_is (e_var 1) (e_non)) (ss_one (s_ret (e_cmp o_is (e_var 0) (e_non)))) (ss_nil))
          (ss_cons (s_if (t_tru (e_callB c_isi T.n_isinstance (a_cons (e_var 1) (a_cons (e_ty T.n_tuple) (a_nil))))) (ss_cons (s_if (t_w (w_or (t_not (t_tru (e_callB c_isi T.n_isinstance (a_cons (e_var 0) (a_cons (e_ty T.n_tuple) (a_nil)))))) (w_one (Or.inr rfl) (t_cmp (o_ne hr.units) (e_callB c_len T.n_len (a_cons (e_var 0) (a_nil))) (e_callB c_len T.n_len (a_cons (e_var 1) (a_nil))))))) (ss_one (s_ret (e_bl))) (ss_nil))
          (ss_cons (s_for PassesOwn.never (i_range1 T.n_range (a_cons (e_callB c_len T.n_len (a_cons (e_var 1) (a_nil))) (a_nil))) (g_name (vs := [2]) 2 nd) (ss_one (s_if (t_not (t_tru (e_call IH hr T.d__law_so.g T.d__law_so.F.kp T.d__law_so.b pass0 (fun _ _ _ z => z) (a_cons (e_ix x_ix (e_var 0) (e_var 2)) (a_cons (e_ix x_ix (e_var 1) (e_var 2)) (a_nil))) (alen_cons (alen_cons (alen_nil)))))) (ss_one (s_ret (e_bl))) (ss_nil))))
          (ss_one (s_ret (e_bl))))) (ss_nil))
          (ss_cons (s_if (t_w (w_or (t_tru (e_callB c_isi T.n_isinstance (a_cons (e_var 1) (a_cons (e_ty T.n_bool) (a_nil))))) (w_one (Or.inr rfl) (t_tru (e_callB c_isi T.n_isinstance (a_cons (e_var 0) (a_cons (e_ty T.n_bool) (a_nil)))))))) (ss_one (s_ret (e_and (e_callB c_isi T.n_isinstance (a_cons (e_var 1) (a_cons (e_ty T.n_bool) (a_nil)))) (e_and (e_callB c_isi T.n_isinstance (a_cons (e_var 0) (a_cons (e_ty T.n_bool) (a_nil)))) (e_one (e_cmp (o_eq hr.units) (e_var 0) (e_var 1))))))) (ss_nil))
          (ss_cons (s_if (t_tru (e_callB c_isi T.n_isinstance (a_cons (e_var 1) (a_cons (e_ty T.n_int) (a_nil))))) (ss_one (s_ret (e_and (e_callB c_isi T.n_isinstance (a_cons (e_var 0) (a_cons (e_ty T.n_int) (a_nil)))) (e_one (e_cmp (o_eq hr.units) (e_var 0) (e_var 1)))))) (ss_nil))
          (ss_one (s_ret (e_and (e_callB c_isi T.n_isinstance (a_cons (e_var 1) (a_cons (e_ty T.n_str) (a_nil)))) (e_and (e_callB c_isi T.n_isinstance (a_cons (e_var 0) (a_cons (e_ty T.n_str) (a_nil)))) (e_one (e_cmp (o_eq hr.units) (e_var 0) (e_var 1))))))))))
theorem ok__law_draw (T : Tops K mg) : FnOk P w K mg base CX0 1 T.d__law_draw.f T.d__law_draw.fd ["row", "at", "limit"] (spD K mg 3 m__law_draw fun _ => w0) := fn_ok0 (k := 0) T.d__law_draw.F sc__law_draw fun cdv A outer s H E hr => by
  have nd : (N__law_draw).Nodup := sc__law_draw.nd
  exact ss_cons (s_if (t_cmp (o_cmp .Lt rfl hr.units) (e_var 1) (e_callB c_len T.n_len (a_cons (e_var 0) (a_nil)))) (ss_one (s_ret (e_op o_mod (e_callTy c_int T.n_int (a_cons (e_ix x_ix (e_var 0) (e_var 1)) (a_nil))) (e_var 2)))) (ss_nil))
          (ss_cons (s_set 3 nd (e_op o_mod (e_callTy c_int T.n_int (a_cons (e_op o_add (e_op o_add (e_op o_mul (e_ix x_ix (e_var 0) (e_op o_mod (e_callTy c_int T.n_int (a_cons (e_var 1) (a_nil))) (e_callB c_len T.n_len (a_cons (e_var 0) (a_nil))))) (e_int)) (e_op o_mul (e_var 1) (e_int))) (e_int)) (a_nil))) (e_int)))
          (ss_one (s_ret (e_op o_mod (e_callTy c_int T.n_int (a_cons (e_op o_mod (e_callTy c_int T.n_int (a_cons (e_op o_add (e_op o_mul (e_var 3) (e_int)) (e_var 1)) (a_nil))) (e_int)) (a_nil))) (e_var 2)))))
theorem ok__law_take (T : Tops K mg) : FnOk P w K mg base CX0 2 T.d__law_take.f T.d__law_take.fd ["row", "spot", "limit"] (spD K mg 3 m__law_take fun _ => w0) := fn_ok0 (k := 1) T.d__law_take.F sc__law_take fun cdv A outer s H E hr => by
  have nd : (N__law_take).Nodup := sc__law_take.nd
  exact ss_cons (s_put st_list (e_op o_add (e_ix x_ix (e_var 1) (e_int)) (e_int)) (e_var 1) (e_int) (pg_sub (e_var 1) (e_int) st_list))
          (ss_one (s_ret (e_call ((ok__law_draw T).mono (by omega)) hr T.d__law_draw.g T.d__law_draw.F.kp T.d__law_draw.b pass0 (fun _ _ _ z => z) (a_cons (e_var 0) (a_cons (e_op o_sub (e_ix x_ix (e_var 1) (e_int)) (e_int)) (a_cons (e_var 2) (a_nil)))) (alen_cons (alen_cons (alen_cons (alen_nil)))))))
theorem ok_rounded_down (T : Tops K mg) : FnOk P w K mg base CX0 1 T.d_rounded_down.f T.d_rounded_down.fd ["numerator", "denominator"] (spD K mg 2 m_rounded_down fun _ => w0) := fn_ok0 (k := 0) T.d_rounded_down.F sc_rounded_down fun cdv A outer s H E hr => by
  have nd : (N_rounded_down).Nodup := sc_rounded_down.nd
  exact ss_one (s_ret (e_op o_div (e_var 0) (e_var 1)))
theorem ok_at_rate (T : Tops K mg) : FnOk P w K mg base CX0 2 T.d_at_rate.f T.d_at_rate.fd ["pence", "rate"] (spD K mg 2 m_at_rate fun _ => w0) := fn_ok0 (k := 1) T.d_at_rate.F sc_at_rate fun cdv A outer s H E hr => by
  have nd : (N_at_rate).Nodup := sc_at_rate.nd
  exact ss_one (s_ret (e_call ((ok_rounded_down T).mono (by omega)) hr T.d_rounded_down.g T.d_rounded_down.F.kp T.d_rounded_down.b pass0 (fun _ _ _ z => z) (a_cons (e_op o_mul (e_var 0) (e_ix x_ix (e_var 1) (e_int))) (a_cons (e_ix x_ix (e_var 1) (e_int)) (a_nil))) (alen_cons (alen_cons (alen_nil)))))
theorem ok_is_integer (T : Tops K mg) : FnOk P w K mg base CX0 1 T.d_is_integer.f T.d_is_integer.fd ["value"] (spD K mg 1 m_is_integer fun _ => w0) := fn_ok0 (k := 0) T.d_is_integer.F sc_is_integer fun cdv A outer s H E hr => by
  have nd : (N_is_integer).Nodup := sc_is_integer.nd
  exact ss_one (s_ret (e_and (e_callB c_isi T.n_isinstance (a_cons (e_var 0) (a_cons (e_ty T.n_int) (a_nil)))) (e_one (e_not (e_callB c_isi T.n_isinstance (a_cons (e_var 0) (a_cons (e_ty T.n_bool) (a_nil))))))))
theorem ok_is_between (T : Tops K mg) : FnOk P w K mg base CX0 2 T.d_is_between.f T.d_is_between.fd ["value", "least", "most"] (spD K mg 3 m_is_between fun _ => w0) := fn_ok0 (k := 1) T.d_is_between.F sc_is_between fun cdv A outer s H E hr => by
  have nd : (N_is_between).Nodup := sc_is_between.nd
  exact ss_one (s_ret (e_and (e_call ((ok_is_integer T).mono (by omega)) hr T.d_is_integer.g T.d_is_integer.F.kp T.d_is_integer.b pass0 (fun _ _ _ z => z) (a_cons (e_var 0) (a_nil)) (alen_cons (alen_nil))) (e_one (e_chain (o_cmp .LtE rfl hr.units) (o_cmp .LtE rfl hr.units) (e_var 1) (e_var 0) (e_var 2)))))
theorem ok_is_sequence (T : Tops K mg) : FnOk P w K mg base CX0 1 T.d_is_sequence.f T.d_is_sequence.fd ["value"] (spD K mg 1 m_is_sequence fun _ => w0) := fn_ok0 (k := 0) T.d_is_sequence.F sc_is_sequence fun cdv A outer s H E hr => by
  have nd : (N_is_sequence).Nodup := sc_is_sequence.nd
  exact ss_one (s_ret (e_isi2 (e_var 0) T.n_isinstance T.n_list T.n_tuple))
theorem ok_is_row (T : Tops K mg) : FnOk P w K mg base CX0 2 T.d_is_row.f T.d_is_row.fd ["value", "size"] (spD K mg 2 m_is_row fun _ => w0) := fn_ok0 (k := 1) T.d_is_row.F sc_is_row fun cdv A outer s H E hr => by
  have nd : (N_is_row).Nodup := sc_is_row.nd
  exact ss_one (s_ret (e_and (e_call ((ok_is_sequence T).mono (by omega)) hr T.d_is_sequence.g T.d_is_sequence.F.kp T.d_is_sequence.b pass0 (fun _ _ _ z => z) (a_cons (e_var 0) (a_nil)) (alen_cons (alen_nil))) (e_one (e_cmp (o_eq hr.units) (e_callB c_len T.n_len (a_cons (e_var 0) (a_nil))) (e_var 1)))))
theorem ok_is_fraction (T : Tops K mg) : FnOk P w K mg base CX0 3 T.d_is_fraction.f T.d_is_fraction.fd ["value"] (spD K mg 1 m_is_fraction fun _ => w0) := fn_ok0 (k := 2) T.d_is_fraction.F sc_is_fraction fun cdv A outer s H E hr => by
  have nd : (N_is_fraction).Nodup := sc_is_fraction.nd
  exact ss_cons (s_if (t_not (t_tru (e_call ((ok_is_row T).mono (by omega)) hr T.d_is_row.g T.d_is_row.F.kp T.d_is_row.b pass0 (fun _ _ _ z => z) (a_cons (e_var 0) (a_cons (e_int) (a_nil))) (alen_cons (alen_cons (alen_nil)))))) (ss_one (s_ret (e_bl))) (ss_nil))
          (ss_cons (s_if (t_w (w_or (t_not (t_tru (e_call ((ok_is_between T).mono (by omega)) hr T.d_is_between.g T.d_is_between.F.kp T.d_is_between.b pass0 (fun _ _ _ z => z) (a_cons (e_ix x_ix (e_var 0) (e_int)) (a_cons (e_un o_neg (e_globI T.c_WIDEST)) (a_cons (e_globI T.c_WIDEST) (a_nil)))) (alen_cons (alen_cons (alen_cons (alen_nil))))))) (w_one (Or.inr rfl) (t_not (t_tru (e_call ((ok_is_between T).mono (by omega)) hr T.d_is_between.g T.d_is_between.F.kp T.d_is_between.b pass0 (fun _ _ _ z => z) (a_cons (e_ix x_ix (e_var 0) (e_int)) (a_cons (e_int) (a_cons (e_globI T.c_WIDEST) (a_nil)))) (alen_cons (alen_cons (alen_cons (alen_nil)))))))))) (ss_one (s_ret (e_bl))) (ss_nil))
          (ss_one (s_ret (e_cmp (o_eq hr.units) (e_callBfun c_gcd T.c_gcd (a_cons (e_ix x_ix (e_var 0) (e_int)) (a_cons (e_ix x_ix (e_var 0) (e_int)) (a_nil)))) (e_int)))))
theorem ok_is_rate (T : Tops K mg) : FnOk P w K mg base CX0 4 T.d_is_rate.f T.d_is_rate.fd ["value"] (spD K mg 1 m_is_rate fun _ => w0) := fn_ok0 (k := 3) T.d_is_rate.F sc_is_rate fun cdv A outer s H E hr => by
  have nd : (N_is_rate).Nodup := sc_is_rate.nd
  exact ss_one (s_ret (e_and (e_call ((ok_is_fraction T).mono (by omega)) hr T.d_is_fraction.g T.d_is_fraction.F.kp T.d_is_fraction.b pass0 (fun _ _ _ z => z) (a_cons (e_var 0) (a_nil)) (alen_cons (alen_nil))) (e_one (e_chain (o_cmp .Lt rfl hr.units) (o_cmp .LtE rfl hr.units) (e_int) (e_ix x_ix (e_var 0) (e_int)) (e_op o_mul (e_globI T.c_MOST_RATE) (e_ix x_ix (e_var 0) (e_int)))))))
theorem ok_need (T : Tops K mg) : FnOk P w K mg base CX0 1 T.d_need.f T.d_need.fd ["held", "at"] (spD K mg 2 m_need fun _ => w0) := fn_ok0 (k := 0) T.d_need.F sc_need fun cdv A outer s H E hr => by
  have nd : (N_need).Nodup := sc_need.nd
  exact ss_one (s_if (t_not (t_tru (e_var 0))) (ss_one (s_never)) (ss_nil))
theorem ok_exchanged (T : Tops K mg) : FnOk P w K mg base CX0 5 T.d_exchanged.f T.d_exchanged.fd ["pence", "rate"] (spD K mg 2 m_exchanged fun _ => w0) := fn_ok0 (k := 4) T.d_exchanged.F sc_exchanged fun cdv A outer s H E hr => by
  have nd : (N_exchanged).Nodup := sc_exchanged.nd
  exact ss_cons (s_expr (e_call ((ok_need T).mono (by omega)) hr T.d_need.g T.d_need.F.kp T.d_need.b pass0 (fun _ _ _ z => z) (a_cons (e_call ((ok_is_between T).mono (by omega)) hr T.d_is_between.g T.d_is_between.F.kp T.d_is_between.b pass0 (fun _ _ _ z => z) (a_cons (e_var 0) (a_cons (e_int) (a_cons (e_globI T.c_MOST_PENCE) (a_nil)))) (alen_cons (alen_cons (alen_cons (alen_nil))))) (a_cons (e_int) (a_nil))) (alen_cons (alen_cons (alen_nil)))))
          (ss_cons (s_expr (e_call ((ok_need T).mono (by omega)) hr T.d_need.g T.d_need.F.kp T.d_need.b pass0 (fun _ _ _ z => z) (a_cons (e_call ((ok_is_rate T).mono (by omega)) hr T.d_is_rate.g T.d_is_rate.F.kp T.d_is_rate.b pass0 (fun _ _ _ z => z) (a_cons (e_var 1) (a_nil)) (alen_cons (alen_nil))) (a_cons (e_int) (a_nil))) (alen_cons (alen_cons (alen_nil)))))
          (ss_one (s_ret (e_call ((ok_at_rate T).mono (by omega)) hr T.d_at_rate.g T.d_at_rate.F.kp T.d_at_rate.b pass0 (fun _ _ _ z => z) (a_cons (e_var 0) (a_cons (e_var 1) (a_nil))) (alen_cons (alen_cons (alen_nil)))))))
theorem ok_rounded_nearest (T : Tops K mg) : FnOk P w K mg base CX0 1 T.d_rounded_nearest.f T.d_rounded_nearest.fd ["numerator", "denominator"] (spD K mg 2 m_rounded_nearest fun _ => w0) := fn_ok0 (k := 0) T.d_rounded_nearest.F sc_rounded_nearest fun cdv A outer s H E hr => by
  have nd : (N_rounded_nearest).Nodup := sc_rounded_nearest.nd
  exact ss_one (s_ret (e_op o_div (e_op o_add (e_op o_mul (e_int) (e_var 0)) (e_var 1)) (e_op o_mul (e_int) (e_var 1))))
theorem ok_nearest_at_rate (T : Tops K mg) : FnOk P w K mg base CX0 2 T.d_nearest_at_rate.f T.d_nearest_at_rate.fd ["pence", "rate"] (spD K mg 2 m_nearest_at_rate fun _ => w0) := fn_ok0 (k := 1) T.d_nearest_at_rate.F sc_nearest_at_rate fun cdv A outer s H E hr => by
  have nd : (N_nearest_at_rate).Nodup := sc_nearest_at_rate.nd
  exact ss_one (s_ret (e_call ((ok_rounded_nearest T).mono (by omega)) hr T.d_rounded_nearest.g T.d_rounded_nearest.F.kp T.d_rounded_nearest.b pass0 (fun _ _ _ z => z) (a_cons (e_op o_mul (e_var 0) (e_ix x_ix (e_var 1) (e_int))) (a_cons (e_ix x_ix (e_var 1) (e_int)) (a_nil))) (alen_cons (alen_cons (alen_nil)))))
theorem ok_exchanged_nearest (T : Tops K mg) : FnOk P w K mg base CX0 5 T.d_exchanged_nearest.f T.d_exchanged_nearest.fd ["pence", "rate"] (spD K mg 2 m_exchanged_nearest fun _ => w0) := fn_ok0 (k := 4) T.d_exchanged_nearest.F sc_exchanged_nearest fun cdv A outer s H E hr => by
  have nd : (N_exchanged_nearest).Nodup := sc_exchanged_nearest.nd
  exact ss_cons (s_expr (e_call ((ok_need T).mono (by omega)) hr T.d_need.g T.d_need.F.kp T.d_need.b pass0 (fun _ _ _ z => z) (a_cons (e_call ((ok_is_between T).mono (by omega)) hr T.d_is_between.g T.d_is_between.F.kp T.d_is_between.b pass0 (fun _ _ _ z => z) (a_cons (e_var 0) (a_cons (e_int) (a_cons (e_globI T.c_MOST_PENCE) (a_nil)))) (alen_cons (alen_cons (alen_cons (alen_nil))))) (a_cons (e_int) (a_nil))) (alen_cons (alen_cons (alen_nil)))))
          (ss_cons (s_expr (e_call ((ok_need T).mono (by omega)) hr T.d_need.g T.d_need.F.kp T.d_need.b pass0 (fun _ _ _ z => z) (a_cons (e_call ((ok_is_rate T).mono (by omega)) hr T.d_is_rate.g T.d_is_rate.F.kp T.d_is_rate.b pass0 (fun _ _ _ z => z) (a_cons (e_var 1) (a_nil)) (alen_cons (alen_nil))) (a_cons (e_int) (a_nil))) (alen_cons (alen_cons (alen_nil)))))
          (ss_one (s_ret (e_call ((ok_nearest_at_rate T).mono (by omega)) hr T.d_nearest_at_rate.g T.d_nearest_at_rate.F.kp T.d_nearest_at_rate.b pass0 (fun _ _ _ z => z) (a_cons (e_var 0) (a_cons (e_var 1) (a_nil))) (alen_cons (alen_cons (alen_nil)))))))
theorem ok_least_cap (T : Tops K mg) : FnOk P w K mg base CX0 1 T.d_least_cap.f T.d_least_cap.fd ["rows", "left", "cap", "goal"] (spD K mg 4 m_least_cap fun _ => w0) := fn_ok0 (k := 0) T.d_least_cap.F sc_least_cap fun cdv A outer s H E hr => by
  have nd : (N_least_cap).Nodup := sc_least_cap.nd
  exact ss_cons (s_for PassesOwn.never (i_range2 T.n_range (a_cons (e_int) (a_cons (e_var 2) (a_nil)))) (g_name (vs := [4]) 4 nd) (ss_one (s_if (t_cmp (o_eq hr.units) (e_ix x_ix (e_ix x_ix (e_var 0) (e_op o_sub (e_var 4) (e_int))) (e_var 1)) (e_var 3)) (ss_one (s_ret (e_var 4))) (ss_nil))))
          (ss_one (s_ret (e_var 2)))
theorem ok_score_rows (T : Tops K mg) : FnOk P w K mg base CX0 1 T.d_score_rows.f T.d_score_rows.fd ["worths", "whole"] (spD K mg 2 m_score_rows fun _ => w0) := fn_ok0 (k := 0) T.d_score_rows.F sc_score_rows fun cdv A outer s H E hr => by
  have nd : (N_score_rows).Nodup := sc_score_rows.nd
  exact ss_cons (s_set 2 nd (e_op o_add (e_var 1) (e_int)))
          (ss_cons (s_set 3 nd (e_op o_sub (e_op o_mul (e_ix x_ix (e_var 0) (e_int)) (e_var 2)) (e_int)))
          (ss_cons (s_set 4 nd (e_lst (a_cons (e_lc [(Str.ofString "many", 10)] nd (i_range1 T.n_range (a_cons (e_op o_add (e_var 1) (e_int)) (a_nil))) (blkOk_by (by kernel_rfl)) (fun _ _ _ _ _ => g_name 10 nd) (fun _ _ _ _ _ => ts_nil) (fun _ _ _ _ _ => e_op o_mul (e_var 3) (e_var 10))) (a_nil))))
          (ss_cons (s_for PassesOwn.never (i_range2 T.n_range (a_cons (e_int) (a_cons (e_op o_add (e_var 1) (e_int)) (a_nil)))) (g_name (vs := [5]) 5 nd) (ss_cons (s_set 6 nd (e_ix x_ix (e_var 4) (e_un o_neg (e_int))))
          (ss_cons (s_set 7 nd (e_op o_sub (e_op o_mul (e_ix x_ix (e_var 0) (e_var 5)) (e_var 2)) (e_int)))
          (ss_cons (s_set 8 nd (e_slice (e_var 6) (p_none) (p_some (e_var 5))))
          (ss_cons (s_for PassesOwn.never (i_range2 T.n_range (a_cons (e_var 5) (a_cons (e_op o_add (e_var 1) (e_int)) (a_nil)))) (g_name (vs := [9]) 9 nd) (ss_one (s_expr (e_append (e_var 8) (a_cons (e_callB (c_max rfl) T.n_max (a_cons (e_ix x_ix (e_var 6) (e_var 9)) (a_cons (e_op o_add (e_ix x_ix (e_var 8) (e_op o_sub (e_var 9) (e_var 5))) (e_var 7)) (a_nil)))) (a_nil))))))
          (ss_one (s_expr (e_append (e_var 4) (a_cons (e_var 8) (a_nil))))))))))
          (ss_one (s_ret (e_var 4))))))
theorem ok_best_parts (T : Tops K mg) : FnOk P w K mg base CX0 2 T.d_best_parts.f T.d_best_parts.fd ["worths", "whole"] (spD K mg 2 m_best_parts fun _ => w0) := fn_ok0 (k := 1) T.d_best_parts.F sc_best_parts fun cdv A outer s H E hr => by
  have nd : (N_best_parts).Nodup := sc_best_parts.nd
  exact ss_cons (s_if (t_cmp (o_eq hr.units) (e_var 1) (e_int)) (ss_one (s_ret (e_tup (a_cons (e_int) (a_cons (e_tup (a_nil)) (a_nil)))))) (ss_nil))
          (ss_cons (s_set 2 nd (e_op o_add (e_var 1) (e_int)))
          (ss_cons (s_set 3 nd (e_call ((ok_score_rows T).mono (by omega)) hr T.d_score_rows.g T.d_score_rows.F.kp T.d_score_rows.b pass0 (fun _ _ _ z => z) (a_cons (e_var 0) (a_cons (e_var 1) (a_nil))) (alen_cons (alen_cons (alen_nil)))))
          (ss_cons (s_set 4 nd (e_ix x_ix (e_ix x_ix (e_var 3) (e_op o_sub (e_var 1) (e_int))) (e_var 1)))
          (ss_cons (s_set 5 nd (e_un o_neg (e_op o_div (e_un o_neg (e_var 4)) (e_var 2))))
          (ss_cons (s_set 6 nd (e_lst (a_nil)))
          (ss_cons (s_set 7 nd (e_var 1))
          (ss_cons (s_set 8 nd (e_var 1))
          (ss_cons (s_while 100000 PassesOwn.never (t_cmp (o_cmp .Gt rfl hr.units) (e_var 7) (e_int)) (ss_cons (s_set 8 nd (e_call ((ok_least_cap T).mono (by omega)) hr T.d_least_cap.g T.d_least_cap.F.kp T.d_least_cap.b pass0 (fun _ _ _ z => z) (a_cons (e_var 3) (a_cons (e_var 7) (a_cons (e_callB (c_min rfl) T.n_min (a_cons (e_var 8) (a_cons (e_var 7) (a_nil)))) (a_cons (e_var 4) (a_nil))))) (alen_cons (alen_cons (alen_cons (alen_cons (alen_nil)))))))
          (ss_cons (s_expr (e_append (e_var 6) (a_cons (e_var 8) (a_nil))))
          (ss_cons (s_set 4 nd (e_op o_sub (e_var 4) (e_op o_sub (e_op o_mul (e_ix x_ix (e_var 0) (e_var 8)) (e_var 2)) (e_int))))
          (ss_one (s_set 7 nd (e_op o_sub (e_var 7) (e_var 8))))))))
          (ss_one (s_ret (e_tup (a_cons (e_var 5) (a_cons (e_callTy c_tuple T.n_tuple (a_cons (e_var 6) (a_nil))) (a_nil))))))))))))))
theorem ok_made_of_parts (T : Tops K mg) : FnOk P w K mg base CX0 3 T.d_made_of_parts.f T.d_made_of_parts.fd ["rate", "most"] (spD K mg 2 m_made_of_parts fun _ => w0) := fn_ok0 (k := 2) T.d_made_of_parts.F sc_made_of_parts fun cdv A outer s H E hr => by
  have nd : (N_made_of_parts).Nodup := sc_made_of_parts.nd
  exact ss_one (s_ret (e_lc [(Str.ofString "part", 2)] nd (i_range1 T.n_range (a_cons (e_op o_add (e_var 1) (e_int)) (a_nil))) (blkOk_by (by kernel_rfl)) (fun _ _ _ _ _ => g_name 2 nd) (fun _ _ _ _ _ => ts_nil) (fun _ _ _ _ _ => e_call ((ok_nearest_at_rate T).mono (by omega)) hr T.d_nearest_at_rate.g T.d_nearest_at_rate.F.kp T.d_nearest_at_rate.b pass0 (fun _ _ _ z => z) (a_cons (e_var 2) (a_cons (e_var 0) (a_nil))) (alen_cons (alen_cons (alen_nil))))))
theorem ok_most_by_parts (T : Tops K mg) : FnOk P w K mg base CX0 5 T.d_most_by_parts.f T.d_most_by_parts.fd ["pence", "rate"] (spD K mg 2 m_most_by_parts fun _ => w0) := fn_ok0 (k := 4) T.d_most_by_parts.F sc_most_by_parts fun cdv A outer s H E hr => by
  have nd : (N_most_by_parts).Nodup := sc_most_by_parts.nd
  exact ss_cons (s_expr (e_call ((ok_need T).mono (by omega)) hr T.d_need.g T.d_need.F.kp T.d_need.b pass0 (fun _ _ _ z => z) (a_cons (e_call ((ok_is_between T).mono (by omega)) hr T.d_is_between.g T.d_is_between.F.kp T.d_is_between.b pass0 (fun _ _ _ z => z) (a_cons (e_var 0) (a_cons (e_int) (a_cons (e_globI T.c_MOST_PARTED) (a_nil)))) (alen_cons (alen_cons (alen_cons (alen_nil))))) (a_cons (e_int) (a_nil))) (alen_cons (alen_cons (alen_nil)))))
          (ss_cons (s_expr (e_call ((ok_need T).mono (by omega)) hr T.d_need.g T.d_need.F.kp T.d_need.b pass0 (fun _ _ _ z => z) (a_cons (e_call ((ok_is_rate T).mono (by omega)) hr T.d_is_rate.g T.d_is_rate.F.kp T.d_is_rate.b pass0 (fun _ _ _ z => z) (a_cons (e_var 1) (a_nil)) (alen_cons (alen_nil))) (a_cons (e_int) (a_nil))) (alen_cons (alen_cons (alen_nil)))))
          (ss_one (s_ret (e_call ((ok_best_parts T).mono (by omega)) hr T.d_best_parts.g T.d_best_parts.F.kp T.d_best_parts.b pass0 (fun _ _ _ z => z) (a_cons (e_call ((ok_made_of_parts T).mono (by omega)) hr T.d_made_of_parts.g T.d_made_of_parts.F.kp T.d_made_of_parts.b pass0 (fun _ _ _ z => z) (a_cons (e_var 1) (a_cons (e_var 0) (a_nil))) (alen_cons (alen_cons (alen_nil)))) (a_cons (e_var 0) (a_nil))) (alen_cons (alen_cons (alen_nil)))))))
theorem ok_greatest_worths (T : Tops K mg) : FnOk P w K mg base CX0 1 T.d_greatest_worths.f T.d_greatest_worths.fd ["worths", "whole"] (spD K mg 2 m_greatest_worths fun _ => w0) := fn_ok0 (k := 0) T.d_greatest_worths.F sc_greatest_worths fun cdv A outer s H E hr => by
  have nd : (N_greatest_worths).Nodup := sc_greatest_worths.nd
  exact ss_cons (s_set 2 nd (e_lst (a_cons (e_int) (a_nil))))
          (ss_cons (s_for PassesOwn.never (i_range2 T.n_range (a_cons (e_int) (a_cons (e_op o_add (e_var 1) (e_int)) (a_nil)))) (g_name (vs := [3]) 3 nd) (ss_one (s_expr (e_append (e_var 2) (a_cons (e_callB (c_max rfl) T.n_max (a_cons (e_lc [(Str.ofString "part", 4)] nd (i_range2 T.n_range (a_cons (e_int) (a_cons (e_op o_add (e_var 3) (e_int)) (a_nil)))) (blkOk_by (by kernel_rfl)) (fun _ _ _ _ _ => g_name 4 nd) (fun _ _ _ _ _ => ts_nil) (fun _ _ _ _ _ => e_op o_add (e_ix x_ix (e_var 2) (e_op o_sub (e_var 3) (e_var 4))) (e_ix x_ix (e_var 0) (e_var 4)))) (a_nil))) (a_nil))))))
          (ss_one (s_ret (e_var 2))))
theorem ok_first_gain (T : Tops K mg) : FnOk P w K mg base CX0 2 T.d_first_gain.f T.d_first_gain.fd ["worths", "most"] (spD K mg 2 m_first_gain fun _ => w0) := fn_ok0 (k := 1) T.d_first_gain.F sc_first_gain fun cdv A outer s H E hr => by
  have nd : (N_first_gain).Nodup := sc_first_gain.nd
  exact ss_cons (s_set 2 nd (e_call ((ok_greatest_worths T).mono (by omega)) hr T.d_greatest_worths.g T.d_greatest_worths.F.kp T.d_greatest_worths.b pass0 (fun _ _ _ z => z) (a_cons (e_var 0) (a_cons (e_var 1) (a_nil))) (alen_cons (alen_cons (alen_nil)))))
          (ss_cons (s_for PassesOwn.never (i_range2 T.n_range (a_cons (e_int) (a_cons (e_op o_add (e_var 1) (e_int)) (a_nil)))) (g_name (vs := [3]) 3 nd) (ss_one (s_if (t_cmp (o_cmp .Gt rfl hr.units) (e_ix x_ix (e_var 2) (e_var 3)) (e_ix x_ix (e_var 0) (e_var 3))) (ss_one (s_ret (e_var 3))) (ss_nil))))
          (ss_one (s_ret (e_non))))
theorem ok_parts_gain (T : Tops K mg) : FnOk P w K mg base CX0 5 T.d_parts_gain.f T.d_parts_gain.fd ["rate", "most"] (spD K mg 2 m_parts_gain fun _ => w0) := fn_ok0 (k := 4) T.d_parts_gain.F sc_parts_gain fun cdv A outer s H E hr => by
  have nd : (N_parts_gain).Nodup := sc_parts_gain.nd
  exact ss_cons (s_expr (e_call ((ok_need T).mono (by omega)) hr T.d_need.g T.d_need.F.kp T.d_need.b pass0 (fun _ _ _ z => z) (a_cons (e_call ((ok_is_rate T).mono (by omega)) hr T.d_is_rate.g T.d_is_rate.F.kp T.d_is_rate.b pass0 (fun _ _ _ z => z) (a_cons (e_var 0) (a_nil)) (alen_cons (alen_nil))) (a_cons (e_int) (a_nil))) (alen_cons (alen_cons (alen_nil)))))
          (ss_cons (s_expr (e_call ((ok_need T).mono (by omega)) hr T.d_need.g T.d_need.F.kp T.d_need.b pass0 (fun _ _ _ z => z) (a_cons (e_call ((ok_is_between T).mono (by omega)) hr T.d_is_between.g T.d_is_between.F.kp T.d_is_between.b pass0 (fun _ _ _ z => z) (a_cons (e_var 1) (a_cons (e_int) (a_cons (e_globI T.c_MOST_PARTED) (a_nil)))) (alen_cons (alen_cons (alen_cons (alen_nil))))) (a_cons (e_int) (a_nil))) (alen_cons (alen_cons (alen_nil)))))
          (ss_one (s_ret (e_call ((ok_first_gain T).mono (by omega)) hr T.d_first_gain.g T.d_first_gain.F.kp T.d_first_gain.b pass0 (fun _ _ _ z => z) (a_cons (e_call ((ok_made_of_parts T).mono (by omega)) hr T.d_made_of_parts.g T.d_made_of_parts.F.kp T.d_made_of_parts.b pass0 (fun _ _ _ z => z) (a_cons (e_var 0) (a_cons (e_var 1) (a_nil))) (alen_cons (alen_cons (alen_nil)))) (a_cons (e_var 1) (a_nil))) (alen_cons (alen_cons (alen_nil)))))))
theorem ok_never_spent (T : Tops K mg) : FnOk P w K mg base CX0 1 T.d_never_spent.f T.d_never_spent.fd ["sold", "share"] (spD K mg 2 m_never_spent fun _ => w0) := fn_ok0 (k := 0) T.d_never_spent.F sc_never_spent fun cdv A outer s H E hr => by
  have nd : (N_never_spent).Nodup := sc_never_spent.nd
  exact ss_cons (s_asg (e_var 1) (g_tup 2 rfl (gs_cons (g_name (vs := [2, 3]) 2 nd) (gs_cons (g_name (vs := [2, 3]) 3 nd) (gs_nil)))))
          (ss_one (s_ret (e_op o_div (e_op o_mul (e_var 0) (e_var 2)) (e_var 3))))
theorem ok_earned_by (T : Tops K mg) : FnOk P w K mg base CX0 2 T.d_earned_by.f T.d_earned_by.fd ["sold", "share", "use"] (spD K mg 3 m_earned_by fun _ => w0) := fn_ok0 (k := 1) T.d_earned_by.F sc_earned_by fun cdv A outer s H E hr => by
  have nd : (N_earned_by).Nodup := sc_earned_by.nd
  exact ss_cons (s_asg (e_var 1) (g_tup 2 rfl (gs_cons (g_name (vs := [3, 4]) 3 nd) (gs_cons (g_name (vs := [3, 4]) 4 nd) (gs_nil)))))
          (ss_cons (s_set 5 nd (e_op o_div (e_op o_mul (e_var 2) (e_var 3)) (e_op o_sub (e_var 4) (e_var 3))))
          (ss_one (s_ret (e_callB (c_min rfl) T.n_min (a_cons (e_var 5) (a_cons (e_call ((ok_never_spent T).mono (by omega)) hr T.d_never_spent.g T.d_never_spent.F.kp T.d_never_spent.b pass0 (fun _ _ _ z => z) (a_cons (e_var 0) (a_cons (e_var 1) (a_nil))) (alen_cons (alen_cons (alen_nil)))) (a_nil)))))))
theorem ok_running_sums (T : Tops K mg) : FnOk P w K mg base CX0 1 T.d_running_sums.f T.d_running_sums.fd ["numbers"] (spD K mg 1 m_running_sums fun _ => w0) := fn_ok0 (k := 0) T.d_running_sums.F sc_running_sums fun cdv A outer s H E hr => by
  have nd : (N_running_sums).Nodup := sc_running_sums.nd
  exact ss_cons (s_set 1 nd (e_lst (a_nil)))
          (ss_cons (s_set 2 nd (e_int))
          (ss_cons (s_for PassesOwn.never (i_any (e_var 0)) (g_name (vs := [3]) 3 nd) (ss_cons (s_set 2 nd (e_op o_add (e_var 2) (e_var 3)))
          (ss_one (s_expr (e_append (e_var 1) (a_cons (e_var 2) (a_nil)))))))
          (ss_one (s_ret (e_var 1)))))
theorem ok_steps_of (T : Tops K mg) : FnOk P w K mg base CX0 1 T.d_steps_of.f T.d_steps_of.fd ["sums"] (spD K mg 1 m_steps_of fun _ => w0) := fn_ok0 (k := 0) T.d_steps_of.F sc_steps_of fun cdv A outer s H E hr => by
  have nd : (N_steps_of).Nodup := sc_steps_of.nd
  exact ss_cons (s_set 1 nd (e_lst (a_nil)))
          (ss_cons (s_set 2 nd (e_int))
          (ss_cons (s_for PassesOwn.never (i_any (e_var 0)) (g_name (vs := [3]) 3 nd) (ss_cons (s_expr (e_append (e_var 1) (a_cons (e_op o_sub (e_var 3) (e_var 2)) (a_nil))))
          (ss_one (s_set 2 nd (e_var 3)))))
          (ss_one (s_ret (e_var 1)))))
theorem ok_earned_in_each (T : Tops K mg) : FnOk P w K mg base CX0 3 T.d_earned_in_each.f T.d_earned_in_each.fd ["sold", "share", "used"] (spD K mg 3 m_earned_in_each fun _ => w0) := fn_ok0 (k := 2) T.d_earned_in_each.F sc_earned_in_each fun cdv A outer s H E hr => by
  have nd : (N_earned_in_each).Nodup := sc_earned_in_each.nd
  exact ss_cons (s_setLc 3 [(Str.ofString "use", 4)] nd (i_any (e_call ((ok_running_sums T).mono (by omega)) hr T.d_running_sums.g T.d_running_sums.F.kp T.d_running_sums.b pass0 (fun _ _ _ z => z) (a_cons (e_var 2) (a_nil)) (alen_cons (alen_nil)))) (blkOk_by (by kernel_rfl)) (fun _ _ _ _ _ => g_name 4 nd) (fun _ _ _ _ _ => ts_nil) (fun _ _ _ _ _ => e_call ((ok_earned_by T).mono (by omega)) hr T.d_earned_by.g T.d_earned_by.F.kp T.d_earned_by.b pass0 (fun _ _ _ z => z) (a_cons (e_var 0) (a_cons (e_var 1) (a_cons (e_var 4) (a_nil)))) (alen_cons (alen_cons (alen_cons (alen_nil))))) (sw_true rfl rfl rfl (by decide +kernel)))
          (ss_one (s_ret (e_callTy c_tuple T.n_tuple (a_cons (e_call ((ok_steps_of T).mono (by omega)) hr T.d_steps_of.g T.d_steps_of.F.kp T.d_steps_of.b pass0 (fun _ _ _ z => z) (a_cons (e_var 3) (a_nil)) (alen_cons (alen_nil))) (a_nil)))))
theorem ok_has_size (T : Tops K mg) : FnOk P w K mg base CX0 2 T.d_has_size.f T.d_has_size.fd ["value", "fewest", "most"] (spD K mg 3 m_has_size fun _ => w0) := fn_ok0 (k := 1) T.d_has_size.F sc_has_size fun cdv A outer s H E hr => by
  have nd : (N_has_size).Nodup := sc_has_size.nd
  exact ss_one (s_ret (e_and (e_call ((ok_is_sequence T).mono (by omega)) hr T.d_is_sequence.g T.d_is_sequence.F.kp T.d_is_sequence.b pass0 (fun _ _ _ z => z) (a_cons (e_var 0) (a_nil)) (alen_cons (alen_nil))) (e_one (e_chain (o_cmp .LtE rfl hr.units) (o_cmp .LtE rfl hr.units) (e_var 1) (e_callB c_len T.n_len (a_cons (e_var 0) (a_nil))) (e_var 2)))))
theorem ok_are_between (T : Tops K mg) : FnOk P w K mg base CX0 3 T.d_are_between.f T.d_are_between.fd ["value", "fewest", "most", "least", "greatest"] (spD K mg 5 m_are_between fun _ => w0) := fn_ok0 (k := 2) T.d_are_between.F sc_are_between fun cdv A outer s H E hr => by
  have nd : (N_are_between).Nodup := sc_are_between.nd
  exact ss_cons (s_if (t_not (t_tru (e_call ((ok_has_size T).mono (by omega)) hr T.d_has_size.g T.d_has_size.F.kp T.d_has_size.b pass0 (fun _ _ _ z => z) (a_cons (e_var 0) (a_cons (e_var 1) (a_cons (e_var 2) (a_nil)))) (alen_cons (alen_cons (alen_cons (alen_nil))))))) (ss_one (s_ret (e_bl))) (ss_nil))
          (ss_one (s_ret (e_callB (c_all rfl) T.n_all (a_cons (e_lc [(Str.ofString "one", 5)] nd (i_any (e_var 0)) (blkOk_by (by kernel_rfl)) (fun _ _ _ _ _ => g_name 5 nd) (fun _ _ _ _ _ => ts_nil) (fun _ _ _ _ _ => e_call ((ok_is_between T).mono (by omega)) hr T.d_is_between.g T.d_is_between.F.kp T.d_is_between.b pass0 (fun _ _ _ z => z) (a_cons (e_var 5) (a_cons (e_var 3) (a_cons (e_var 4) (a_nil)))) (alen_cons (alen_cons (alen_cons (alen_nil)))))) (a_nil)))))
theorem ok_is_share (T : Tops K mg) : FnOk P w K mg base CX0 4 T.d_is_share.f T.d_is_share.fd ["value"] (spD K mg 1 m_is_share fun _ => w0) := fn_ok0 (k := 3) T.d_is_share.F sc_is_share fun cdv A outer s H E hr => by
  have nd : (N_is_share).Nodup := sc_is_share.nd
  exact ss_one (s_ret (e_and (e_call ((ok_is_fraction T).mono (by omega)) hr T.d_is_fraction.g T.d_is_fraction.F.kp T.d_is_fraction.b pass0 (fun _ _ _ z => z) (a_cons (e_var 0) (a_nil)) (alen_cons (alen_nil))) (e_one (e_chain (o_cmp .LtE rfl hr.units) (o_cmp .Lt rfl hr.units) (e_int) (e_ix x_ix (e_var 0) (e_int)) (e_ix x_ix (e_var 0) (e_int))))))
theorem ok_need_periods (T : Tops K mg) : FnOk P w K mg base CX0 5 T.d_need_periods.f T.d_need_periods.fd ["sold", "share", "used"] (spD K mg 3 m_need_periods fun _ => w0) := fn_ok0 (k := 4) T.d_need_periods.F sc_need_periods fun cdv A outer s H E hr => by
  have nd : (N_need_periods).Nodup := sc_need_periods.nd
  exact ss_cons (s_expr (e_call ((ok_need T).mono (by omega)) hr T.d_need.g T.d_need.F.kp T.d_need.b pass0 (fun _ _ _ z => z) (a_cons (e_call ((ok_is_between T).mono (by omega)) hr T.d_is_between.g T.d_is_between.F.kp T.d_is_between.b pass0 (fun _ _ _ z => z) (a_cons (e_var 0) (a_cons (e_int) (a_cons (e_globI T.c_MOST_SOLD) (a_nil)))) (alen_cons (alen_cons (alen_cons (alen_nil))))) (a_cons (e_int) (a_nil))) (alen_cons (alen_cons (alen_nil)))))
          (ss_cons (s_expr (e_call ((ok_need T).mono (by omega)) hr T.d_need.g T.d_need.F.kp T.d_need.b pass0 (fun _ _ _ z => z) (a_cons (e_call ((ok_is_share T).mono (by omega)) hr T.d_is_share.g T.d_is_share.F.kp T.d_is_share.b pass0 (fun _ _ _ z => z) (a_cons (e_var 1) (a_nil)) (alen_cons (alen_nil))) (a_cons (e_int) (a_nil))) (alen_cons (alen_cons (alen_nil)))))
          (ss_one (s_expr (e_call ((ok_need T).mono (by omega)) hr T.d_need.g T.d_need.F.kp T.d_need.b pass0 (fun _ _ _ z => z) (a_cons (e_call ((ok_are_between T).mono (by omega)) hr T.d_are_between.g T.d_are_between.F.kp T.d_are_between.b pass0 (fun _ _ _ z => z) (a_cons (e_var 2) (a_cons (e_int) (a_cons (e_globI T.c_MOST_PERIODS) (a_cons (e_int) (a_cons (e_globI T.c_MOST_USED) (a_nil)))))) (alen_cons (alen_cons (alen_cons (alen_cons (alen_cons (alen_nil))))))) (a_cons (e_int) (a_nil))) (alen_cons (alen_cons (alen_nil)))))))
theorem ok_recognised (T : Tops K mg) : FnOk P w K mg base CX0 6 T.d_recognised.f T.d_recognised.fd ["sold", "share", "used"] (spD K mg 3 m_recognised fun _ => w0) := fn_ok0 (k := 5) T.d_recognised.F sc_recognised fun cdv A outer s H E hr => by
  have nd : (N_recognised).Nodup := sc_recognised.nd
  exact ss_cons (s_expr (e_call ((ok_need_periods T).mono (by omega)) hr T.d_need_periods.g T.d_need_periods.F.kp T.d_need_periods.b pass0 (fun _ _ _ z => z) (a_cons (e_var 0) (a_cons (e_var 1) (a_cons (e_var 2) (a_nil)))) (alen_cons (alen_cons (alen_cons (alen_nil))))))
          (ss_one (s_ret (e_call ((ok_earned_in_each T).mono (by omega)) hr T.d_earned_in_each.g T.d_earned_in_each.F.kp T.d_earned_in_each.b pass0 (fun _ _ _ z => z) (a_cons (e_var 0) (a_cons (e_var 1) (a_cons (e_var 2) (a_nil)))) (alen_cons (alen_cons (alen_cons (alen_nil)))))))
theorem ok_are_rates (T : Tops K mg) : FnOk P w K mg base CX0 5 T.d_are_rates.f T.d_are_rates.fd ["value"] (spD K mg 1 m_are_rates fun _ => w0) := fn_ok0 (k := 4) T.d_are_rates.F sc_are_rates fun cdv A outer s H E hr => by
  have nd : (N_are_rates).Nodup := sc_are_rates.nd
  exact ss_one (s_ret (e_and (e_call ((ok_has_size T).mono (by omega)) hr T.d_has_size.g T.d_has_size.F.kp T.d_has_size.b pass0 (fun _ _ _ z => z) (a_cons (e_var 0) (a_cons (e_int) (a_cons (e_globI T.c_MOST_RATES) (a_nil)))) (alen_cons (alen_cons (alen_cons (alen_nil))))) (e_one (e_callB (c_all rfl) T.n_all (a_cons (e_lc [(Str.ofString "rate", 1)] nd (i_any (e_var 0)) (blkOk_by (by kernel_rfl)) (fun _ _ _ _ _ => g_name 1 nd) (fun _ _ _ _ _ => ts_nil) (fun _ _ _ _ _ => e_call ((ok_is_rate T).mono (by omega)) hr T.d_is_rate.g T.d_is_rate.F.kp T.d_is_rate.b pass0 (fun _ _ _ z => z) (a_cons (e_var 1) (a_nil)) (alen_cons (alen_nil)))) (a_nil))))))
theorem ok_behind_trip (T : Tops K mg) : FnOk P w K mg base CX0 3 T.d_behind_trip.f T.d_behind_trip.fd ["pence", "rates"] (spD K mg 2 m_behind_trip fun _ => w0) := fn_ok0 (k := 2) T.d_behind_trip.F sc_behind_trip fun cdv A outer s H E hr => by
  have nd : (N_behind_trip).Nodup := sc_behind_trip.nd
  exact ss_cons (s_for PassesOwn.never (i_any (e_var 1)) (g_name (vs := [2]) 2 nd) (ss_one (s_set 0 nd (e_call ((ok_at_rate T).mono (by omega)) hr T.d_at_rate.g T.d_at_rate.F.kp T.d_at_rate.b pass0 (fun _ _ _ z => z) (a_cons (e_var 0) (a_cons (e_var 2) (a_nil))) (alen_cons (alen_cons (alen_nil)))))))
          (ss_one (s_ret (e_var 0)))
theorem ok_round_trip (T : Tops K mg) : FnOk P w K mg base CX0 6 T.d_round_trip.f T.d_round_trip.fd ["pence", "rates"] (spD K mg 2 m_round_trip fun _ => w0) := fn_ok0 (k := 5) T.d_round_trip.F sc_round_trip fun cdv A outer s H E hr => by
  have nd : (N_round_trip).Nodup := sc_round_trip.nd
  exact ss_cons (s_expr (e_call ((ok_need T).mono (by omega)) hr T.d_need.g T.d_need.F.kp T.d_need.b pass0 (fun _ _ _ z => z) (a_cons (e_call ((ok_is_between T).mono (by omega)) hr T.d_is_between.g T.d_is_between.F.kp T.d_is_between.b pass0 (fun _ _ _ z => z) (a_cons (e_var 0) (a_cons (e_int) (a_cons (e_globI T.c_MOST_PENCE) (a_nil)))) (alen_cons (alen_cons (alen_cons (alen_nil))))) (a_cons (e_int) (a_nil))) (alen_cons (alen_cons (alen_nil)))))
          (ss_cons (s_expr (e_call ((ok_need T).mono (by omega)) hr T.d_need.g T.d_need.F.kp T.d_need.b pass0 (fun _ _ _ z => z) (a_cons (e_call ((ok_are_rates T).mono (by omega)) hr T.d_are_rates.g T.d_are_rates.F.kp T.d_are_rates.b pass0 (fun _ _ _ z => z) (a_cons (e_var 1) (a_nil)) (alen_cons (alen_nil))) (a_cons (e_int) (a_nil))) (alen_cons (alen_cons (alen_nil)))))
          (ss_one (s_ret (e_call ((ok_behind_trip T).mono (by omega)) hr T.d_behind_trip.g T.d_behind_trip.F.kp T.d_behind_trip.b pass0 (fun _ _ _ z => z) (a_cons (e_var 0) (a_cons (e_var 1) (a_nil))) (alen_cons (alen_cons (alen_nil)))))))
theorem ok_is_sale (T : Tops K mg) : FnOk P w K mg base CX0 3 T.d_is_sale.f T.d_is_sale.fd ["value"] (spD K mg 1 m_is_sale fun _ => w0) := fn_ok0 (k := 2) T.d_is_sale.F sc_is_sale fun cdv A outer s H E hr => by
  have nd : (N_is_sale).Nodup := sc_is_sale.nd
  exact ss_cons (s_if (t_not (t_tru (e_call ((ok_is_row T).mono (by omega)) hr T.d_is_row.g T.d_is_row.F.kp T.d_is_row.b pass0 (fun _ _ _ z => z) (a_cons (e_var 0) (a_cons (e_int) (a_nil))) (alen_cons (alen_cons (alen_nil)))))) (ss_one (s_ret (e_bl))) (ss_nil))
          (ss_one (s_ret (e_and (e_call ((ok_is_between T).mono (by omega)) hr T.d_is_between.g T.d_is_between.F.kp T.d_is_between.b pass0 (fun _ _ _ z => z) (a_cons (e_ix x_ix (e_var 0) (e_int)) (a_cons (e_int) (a_cons (e_globI T.c_MOST_ON_CARD) (a_nil)))) (alen_cons (alen_cons (alen_cons (alen_nil))))) (e_one (e_call ((ok_is_between T).mono (by omega)) hr T.d_is_between.g T.d_is_between.F.kp T.d_is_between.b pass0 (fun _ _ _ z => z) (a_cons (e_ix x_ix (e_var 0) (e_int)) (a_cons (e_int) (a_cons (e_ix x_ix (e_var 0) (e_int)) (a_nil)))) (alen_cons (alen_cons (alen_cons (alen_nil)))))))))
theorem ok_are_sales (T : Tops K mg) : FnOk P w K mg base CX0 4 T.d_are_sales.f T.d_are_sales.fd ["value"] (spD K mg 1 m_are_sales fun _ => w0) := fn_ok0 (k := 3) T.d_are_sales.F sc_are_sales fun cdv A outer s H E hr => by
  have nd : (N_are_sales).Nodup := sc_are_sales.nd
  exact ss_one (s_ret (e_and (e_call ((ok_has_size T).mono (by omega)) hr T.d_has_size.g T.d_has_size.F.kp T.d_has_size.b pass0 (fun _ _ _ z => z) (a_cons (e_var 0) (a_cons (e_int) (a_cons (e_globI T.c_MOST_CARDS) (a_nil)))) (alen_cons (alen_cons (alen_cons (alen_nil))))) (e_one (e_callB (c_all rfl) T.n_all (a_cons (e_lc [(Str.ofString "card", 1)] nd (i_any (e_var 0)) (blkOk_by (by kernel_rfl)) (fun _ _ _ _ _ => g_name 1 nd) (fun _ _ _ _ _ => ts_nil) (fun _ _ _ _ _ => e_call ((ok_is_sale T).mono (by omega)) hr T.d_is_sale.g T.d_is_sale.F.kp T.d_is_sale.b pass0 (fun _ _ _ z => z) (a_cons (e_var 1) (a_nil)) (alen_cons (alen_nil)))) (a_nil))))))
theorem ok_lowest (T : Tops K mg) : FnOk P w K mg base CX0 1 T.d_lowest.f T.d_lowest.fd ["numerator", "denominator"] (spD K mg 2 m_lowest fun _ => w0) := fn_ok0 (k := 0) T.d_lowest.F sc_lowest fun cdv A outer s H E hr => by
  have nd : (N_lowest).Nodup := sc_lowest.nd
  exact ss_cons (s_set 2 nd (e_callBfun c_gcd T.c_gcd (a_cons (e_var 0) (a_cons (e_var 1) (a_nil)))))
          (ss_one (s_ret (e_tup (a_cons (e_op o_div (e_var 0) (e_var 2)) (a_cons (e_op o_div (e_var 1) (e_var 2)) (a_nil))))))
theorem ok_share_of (T : Tops K mg) : FnOk P w K mg base CX0 5 T.d_share_of.f T.d_share_of.fd ["cards"] (spD K mg 1 m_share_of fun _ => w0) := fn_ok0 (k := 4) T.d_share_of.F sc_share_of fun cdv A outer s H E hr => by
  have nd : (N_share_of).Nodup := sc_share_of.nd
  exact ss_cons (s_expr (e_call ((ok_need T).mono (by omega)) hr T.d_need.g T.d_need.F.kp T.d_need.b pass0 (fun _ _ _ z => z) (a_cons (e_call ((ok_are_sales T).mono (by omega)) hr T.d_are_sales.g T.d_are_sales.F.kp T.d_are_sales.b pass0 (fun _ _ _ z => z) (a_cons (e_var 0) (a_nil)) (alen_cons (alen_nil))) (a_cons (e_int) (a_nil))) (alen_cons (alen_cons (alen_nil)))))
          (ss_cons (s_set 1 nd (e_callB (c_sum rfl) T.n_sum (a_cons (e_lc [(Str.ofString "card", 3)] nd (i_any (e_var 0)) (blkOk_by (by kernel_rfl)) (fun _ _ _ _ _ => g_name 3 nd) (fun _ _ _ _ _ => ts_nil) (fun _ _ _ _ _ => e_ix x_ix (e_var 3) (e_int))) (a_nil))))
          (ss_cons (s_set 2 nd (e_callB (c_sum rfl) T.n_sum (a_cons (e_lc [(Str.ofString "card", 3)] nd (i_any (e_var 0)) (blkOk_by (by kernel_rfl)) (fun _ _ _ _ _ => g_name 3 nd) (fun _ _ _ _ _ => ts_nil) (fun _ _ _ _ _ => e_ix x_ix (e_var 3) (e_int))) (a_nil))))
          (ss_one (s_ret (e_call ((ok_lowest T).mono (by omega)) hr T.d_lowest.g T.d_lowest.F.kp T.d_lowest.b pass0 (fun _ _ _ z => z) (a_cons (e_op o_sub (e_var 1) (e_var 2)) (a_cons (e_var 1) (a_nil))) (alen_cons (alen_cons (alen_nil))))))))
theorem ok_owed_behind (T : Tops K mg) : FnOk P w K mg base CX0 3 T.d_owed_behind.f T.d_owed_behind.fd ["sold", "share", "used"] (spD K mg 3 m_owed_behind fun _ => w0) := fn_ok0 (k := 2) T.d_owed_behind.F sc_owed_behind fun cdv A outer s H E hr => by
  have nd : (N_owed_behind).Nodup := sc_owed_behind.nd
  exact ss_cons (s_set 3 nd (e_callB (c_sum rfl) T.n_sum (a_cons (e_var 2) (a_nil))))
          (ss_one (s_ret (e_callB (c_max rfl) T.n_max (a_cons (e_int) (a_cons (e_op o_sub (e_op o_sub (e_var 0) (e_var 3)) (e_call ((ok_earned_by T).mono (by omega)) hr T.d_earned_by.g T.d_earned_by.F.kp T.d_earned_by.b pass0 (fun _ _ _ z => z) (a_cons (e_var 0) (a_cons (e_var 1) (a_cons (e_var 3) (a_nil)))) (alen_cons (alen_cons (alen_cons (alen_nil)))))) (a_nil))))))
theorem ok_still_owed (T : Tops K mg) : FnOk P w K mg base CX0 6 T.d_still_owed.f T.d_still_owed.fd ["sold", "share", "used"] (spD K mg 3 m_still_owed fun _ => w0) := fn_ok0 (k := 5) T.d_still_owed.F sc_still_owed fun cdv A outer s H E hr => by
  have nd : (N_still_owed).Nodup := sc_still_owed.nd
  exact ss_cons (s_expr (e_call ((ok_need_periods T).mono (by omega)) hr T.d_need_periods.g T.d_need_periods.F.kp T.d_need_periods.b pass0 (fun _ _ _ z => z) (a_cons (e_var 0) (a_cons (e_var 1) (a_cons (e_var 2) (a_nil)))) (alen_cons (alen_cons (alen_cons (alen_nil))))))
          (ss_one (s_ret (e_call ((ok_owed_behind T).mono (by omega)) hr T.d_owed_behind.g T.d_owed_behind.F.kp T.d_owed_behind.b pass0 (fun _ _ _ z => z) (a_cons (e_var 0) (a_cons (e_var 1) (a_cons (e_var 2) (a_nil)))) (alen_cons (alen_cons (alen_cons (alen_nil)))))))
theorem ok_least_for (T : Tops K mg) : FnOk P w K mg base CX0 2 T.d_least_for.f T.d_least_for.fd ["goal", "rate"] (spD K mg 2 m_least_for fun _ => w0) := fn_ok0 (k := 1) T.d_least_for.F sc_least_for fun cdv A outer s H E hr => by
  have nd : (N_least_for).Nodup := sc_least_for.nd
  exact ss_one (s_ret (e_un o_neg (e_call ((ok_rounded_down T).mono (by omega)) hr T.d_rounded_down.g T.d_rounded_down.F.kp T.d_rounded_down.b pass0 (fun _ _ _ z => z) (a_cons (e_op o_mul (e_un o_neg (e_var 0)) (e_ix x_ix (e_var 1) (e_int))) (a_cons (e_ix x_ix (e_var 1) (e_int)) (a_nil))) (alen_cons (alen_cons (alen_nil))))))
theorem ok_least_for_trip (T : Tops K mg) : FnOk P w K mg base CX0 3 T.d_least_for_trip.f T.d_least_for_trip.fd ["goal", "rates"] (spD K mg 2 m_least_for_trip fun _ => w0) := fn_ok0 (k := 2) T.d_least_for_trip.F sc_least_for_trip fun cdv A outer s H E hr => by
  have nd : (N_least_for_trip).Nodup := sc_least_for_trip.nd
  exact ss_cons (s_for PassesOwn.never (i_rev T.n_reversed (e_var 1)) (g_name (vs := [2]) 2 nd) (ss_one (s_set 0 nd (e_call ((ok_least_for T).mono (by omega)) hr T.d_least_for.g T.d_least_for.F.kp T.d_least_for.b pass0 (fun _ _ _ z => z) (a_cons (e_var 0) (a_cons (e_var 2) (a_nil))) (alen_cons (alen_cons (alen_nil)))))))
          (ss_one (s_ret (e_var 0)))
theorem ok_times (T : Tops K mg) : FnOk P w K mg base CX0 2 T.d_times.f T.d_times.fd ["one", "other"] (spD K mg 2 m_times fun _ => w0) := fn_ok0 (k := 1) T.d_times.F sc_times fun cdv A outer s H E hr => by
  have nd : (N_times).Nodup := sc_times.nd
  exact ss_one (s_ret (e_call ((ok_lowest T).mono (by omega)) hr T.d_lowest.g T.d_lowest.F.kp T.d_lowest.b pass0 (fun _ _ _ z => z) (a_cons (e_op o_mul (e_ix x_ix (e_var 0) (e_int)) (e_ix x_ix (e_var 1) (e_int))) (a_cons (e_op o_mul (e_ix x_ix (e_var 0) (e_int)) (e_ix x_ix (e_var 1) (e_int))) (a_nil))) (alen_cons (alen_cons (alen_nil)))))
theorem ok_rate_of_trip (T : Tops K mg) : FnOk P w K mg base CX0 3 T.d_rate_of_trip.f T.d_rate_of_trip.fd ["rates"] (spD K mg 1 m_rate_of_trip fun _ => w0) := fn_ok0 (k := 2) T.d_rate_of_trip.F sc_rate_of_trip fun cdv A outer s H E hr => by
  have nd : (N_rate_of_trip).Nodup := sc_rate_of_trip.nd
  exact ss_cons (s_set 1 nd (e_tup (a_cons (e_int) (a_cons (e_int) (a_nil)))))
          (ss_cons (s_for PassesOwn.never (i_any (e_var 0)) (g_name (vs := [2]) 2 nd) (ss_one (s_set 1 nd (e_call ((ok_times T).mono (by omega)) hr T.d_times.g T.d_times.F.kp T.d_times.b pass0 (fun _ _ _ z => z) (a_cons (e_var 1) (a_cons (e_var 2) (a_nil))) (alen_cons (alen_cons (alen_nil)))))))
          (ss_one (s_ret (e_var 1))))
theorem ok_first_trip_gain (T : Tops K mg) : FnOk P w K mg base CX0 4 T.d_first_trip_gain.f T.d_first_trip_gain.fd ["rates", "most"] (spD K mg 2 m_first_trip_gain fun _ => w0) := fn_ok0 (k := 3) T.d_first_trip_gain.F sc_first_trip_gain fun cdv A outer s H E hr => by
  have nd : (N_first_trip_gain).Nodup := sc_first_trip_gain.nd
  exact ss_cons (s_asg (e_call ((ok_rate_of_trip T).mono (by omega)) hr T.d_rate_of_trip.g T.d_rate_of_trip.F.kp T.d_rate_of_trip.b pass0 (fun _ _ _ z => z) (a_cons (e_var 0) (a_nil)) (alen_cons (alen_nil))) (g_tup 2 rfl (gs_cons (g_name (vs := [2, 3]) 2 nd) (gs_cons (g_name (vs := [2, 3]) 3 nd) (gs_nil)))))
          (ss_cons (s_if (t_cmp (o_cmp .LtE rfl hr.units) (e_var 2) (e_var 3)) (ss_one (s_ret (e_non))) (ss_nil))
          (ss_cons (s_set 4 nd (e_int))
          (ss_cons (s_while 100000 PassesOwn.never (t_cmp (o_cmp .LtE rfl hr.units) (e_var 4) (e_var 1)) (ss_cons (s_if (t_cmp (o_cmp .Gt rfl hr.units) (e_call ((ok_behind_trip T).mono (by omega)) hr T.d_behind_trip.g T.d_behind_trip.F.kp T.d_behind_trip.b pass0 (fun _ _ _ z => z) (a_cons (e_var 4) (a_cons (e_var 0) (a_nil))) (alen_cons (alen_cons (alen_nil)))) (e_var 4)) (ss_one (s_ret (e_var 4))) (ss_nil))
          (ss_one (s_set 4 nd (e_callB (c_max rfl) T.n_max (a_cons (e_op o_add (e_var 4) (e_int)) (a_cons (e_call ((ok_least_for_trip T).mono (by omega)) hr T.d_least_for_trip.g T.d_least_for_trip.F.kp T.d_least_for_trip.b pass0 (fun _ _ _ z => z) (a_cons (e_op o_add (e_var 4) (e_int)) (a_cons (e_var 0) (a_nil))) (alen_cons (alen_cons (alen_nil)))) (a_nil))))))))
          (ss_one (s_ret (e_non))))))
theorem ok_trip_gains (T : Tops K mg) : FnOk P w K mg base CX0 6 T.d_trip_gains.f T.d_trip_gains.fd ["rates", "most"] (spD K mg 2 m_trip_gains fun _ => w0) := fn_ok0 (k := 5) T.d_trip_gains.F sc_trip_gains fun cdv A outer s H E hr => by
  have nd : (N_trip_gains).Nodup := sc_trip_gains.nd
  exact ss_cons (s_expr (e_call ((ok_need T).mono (by omega)) hr T.d_need.g T.d_need.F.kp T.d_need.b pass0 (fun _ _ _ z => z) (a_cons (e_call ((ok_are_rates T).mono (by omega)) hr T.d_are_rates.g T.d_are_rates.F.kp T.d_are_rates.b pass0 (fun _ _ _ z => z) (a_cons (e_var 0) (a_nil)) (alen_cons (alen_nil))) (a_cons (e_int) (a_nil))) (alen_cons (alen_cons (alen_nil)))))
          (ss_cons (s_expr (e_call ((ok_need T).mono (by omega)) hr T.d_need.g T.d_need.F.kp T.d_need.b pass0 (fun _ _ _ z => z) (a_cons (e_call ((ok_is_between T).mono (by omega)) hr T.d_is_between.g T.d_is_between.F.kp T.d_is_between.b pass0 (fun _ _ _ z => z) (a_cons (e_var 1) (a_cons (e_int) (a_cons (e_globI T.c_MOST_TRIP) (a_nil)))) (alen_cons (alen_cons (alen_cons (alen_nil))))) (a_cons (e_int) (a_nil))) (alen_cons (alen_cons (alen_nil)))))
          (ss_one (s_ret (e_call ((ok_first_trip_gain T).mono (by omega)) hr T.d_first_trip_gain.g T.d_first_trip_gain.F.kp T.d_first_trip_gain.b pass0 (fun _ _ _ z => z) (a_cons (e_var 0) (a_cons (e_var 1) (a_nil))) (alen_cons (alen_cons (alen_nil)))))))
theorem ok_law (T : Tops K mg) : FnOk P w K mg base CX0 16 T.d_law.f T.d_law.fd ["script"] (spD K mg 1 m_law fun _ => w0) := fn_ok0 (k := 15) T.d_law.F sc_law fun cdv A outer s H E hr => by
  have nd : (N_law).Nodup := sc_law.nd
  exact ss_cons (s_set 1 nd (e_call ((ok__law_numbers T).mono (by omega)) hr T.d__law_numbers.g T.d__law_numbers.F.kp T.d__law_numbers.b pass0 (fun _ _ _ z => z) (a_cons (e_var 0) (a_nil)) (alen_cons (alen_nil))))
          (ss_cons (s_set 2 nd (e_lst (a_cons (e_int) (a_nil))))
          (ss_cons (s_set 3 nd (e_call ((ok__law_take T).mono (by omega)) hr T.d__law_take.g T.d__law_take.F.kp T.d__law_take.b pass0 (fun _ _ _ z => z) (a_cons (e_var 1) (a_cons (e_var 2) (a_cons (e_int) (a_nil)))) (alen_cons (alen_cons (alen_cons (alen_nil))))))
          (ss_cons (s_set 4 nd (e_int))
          (ss_cons (s_for PassesOwn.never (i_range2 T.n_range (a_cons (e_int) (a_cons (e_int) (a_nil)))) (g_name (vs := [5]) 5 nd) (ss_one (s_for PassesOwn.never (i_range2 T.n_range (a_cons (e_int) (a_cons (e_int) (a_nil)))) (g_name (vs := [6]) 6 nd) (ss_cons (s_set 4 nd (e_op o_add (e_var 4) (e_int)))
          (ss_one (s_if (t_cmp (o_eq hr.units) (e_op o_mod (e_callTy c_int T.n_int (a_cons (e_var 4) (a_nil))) (e_int)) (e_var 3)) (ss_cons (s_set 7 nd (e_call ((ok__law_red T 12).mono (by omega)) hr T.d__law_red.g T.d__law_red.F.kp T.d__law_red.b pass0 (fun _ _ _ z => z) (a_cons (e_var 5) (a_cons (e_var 6) (a_nil))) (alen_cons (alen_cons (alen_nil)))))
          (ss_cons (s_for PassesOwn.never (i_range2 T.n_range (a_cons (e_int) (a_cons (e_int) (a_nil)))) (g_name (vs := [8]) 8 nd) (ss_cons (s_set 9 nd (e_call ((ok__law_red T 12).mono (by omega)) hr T.d__law_red.g T.d__law_red.F.kp T.d__law_red.b pass0 (fun _ _ _ z => z) (a_cons (e_var 8) (a_cons (e_op o_add (e_int) (e_call ((ok__law_take T).mono (by omega)) hr T.d__law_take.g T.d__law_take.F.kp T.d__law_take.b pass0 (fun _ _ _ z => z) (a_cons (e_var 1) (a_cons (e_var 2) (a_cons (e_int) (a_nil)))) (alen_cons (alen_cons (alen_cons (alen_nil)))))) (a_nil))) (alen_cons (alen_cons (alen_nil)))))
          (ss_cons (s_set 10 nd (e_call ((ok__law_mul T).mono (by omega)) hr T.d__law_mul.g T.d__law_mul.F.kp T.d__law_mul.b pass0 (fun _ _ _ z => z) (a_cons (e_var 7) (a_cons (e_var 9) (a_nil))) (alen_cons (alen_cons (alen_nil)))))
          (ss_cons (s_set 11 nd (e_call ((ok_trip_gains T).mono (by omega)) hr T.d_trip_gains.g T.d_trip_gains.F.kp T.d_trip_gains.b pass0 (fun _ _ _ z => z) (a_cons (e_tup (a_cons (e_var 7) (a_cons (e_var 9) (a_nil)))) (a_cons (e_int) (a_nil))) (alen_cons (alen_cons (alen_nil)))))
          (ss_cons (s_set 12 nd (e_non))
          (ss_cons (s_for PassesOwn.never (i_range2 T.n_range (a_cons (e_int) (a_cons (e_int) (a_nil)))) (g_name (vs := [13]) 13 nd) (ss_cons (s_set 14 nd (e_op o_div (e_op o_mul (e_op o_div (e_op o_mul (e_var 13) (e_ix x_ix (e_var 7) (e_int))) (e_ix x_ix (e_var 7) (e_int))) (e_ix x_ix (e_var 9) (e_int))) (e_ix x_ix (e_var 9) (e_int))))
          (ss_one (s_set 12 nd (e_if (t_w (w_and (t_cmp o_is (e_var 12) (e_non)) (w_one (Or.inl rfl) (t_cmp (o_cmp .Gt rfl hr.units) (e_var 14) (e_var 13))))) (e_var 13) (e_var 12))))))
          (ss_cons (s_if (t_w (w_or (t_not (t_tru (e_call ((ok__law_so T 12).mono (by omega)) hr T.d__law_so.g T.d__law_so.F.kp T.d__law_so.b pass0 (fun _ _ _ z => z) (a_cons (e_var 11) (a_cons (e_var 12) (a_nil))) (alen_cons (alen_cons (alen_nil)))))) (w_one (Or.inr rfl) (t_w (w_and (t_cmp o_isnot (e_var 11) (e_non)) (w_one (Or.inl rfl) (t_not (t_tru (e_call ((ok__law_less T).mono (by omega)) hr T.d__law_less.g T.d__law_less.F.kp T.d__law_less.b pass0 (fun _ _ _ z => z) (a_cons (e_tup (a_cons (e_int) (a_cons (e_int) (a_nil)))) (a_cons (e_var 10) (a_nil))) (alen_cons (alen_cons (alen_nil)))))))))))) (ss_one (s_ret (e_bl))) (ss_nil))
          (ss_one (s_if (t_cmp o_isnot (e_call ((ok_trip_gains T).mono (by omega)) hr T.d_trip_gains.g T.d_trip_gains.F.kp T.d_trip_gains.b pass0 (fun _ _ _ z => z) (a_cons (e_tup (a_cons (e_var 7) (a_cons (e_tup (a_cons (e_ix x_ix (e_var 7) (e_int)) (a_cons (e_ix x_ix (e_var 7) (e_int)) (a_nil)))) (a_nil)))) (a_cons (e_int) (a_nil))) (alen_cons (alen_cons (alen_nil)))) (e_non)) (ss_one (s_ret (e_bl))) (ss_nil))))))))))
          (ss_cons (s_for PassesOwn.never (i_range2 T.n_range (a_cons (e_int) (a_cons (e_int) (a_nil)))) (g_name (vs := [13]) 13 nd) (ss_one (s_if (t_w (w_or (t_cmp (o_cmp .Gt rfl hr.units) (e_op o_add (e_call ((ok_exchanged T).mono (by omega)) hr T.d_exchanged.g T.d_exchanged.F.kp T.d_exchanged.b pass0 (fun _ _ _ z => z) (a_cons (e_var 13) (a_cons (e_var 7) (a_nil))) (alen_cons (alen_cons (alen_nil)))) (e_call ((ok_exchanged T).mono (by omega)) hr T.d_exchanged.g T.d_exchanged.F.kp T.d_exchanged.b pass0 (fun _ _ _ z => z) (a_cons (e_op o_add (e_var 13) (e_int)) (a_cons (e_var 7) (a_nil))) (alen_cons (alen_cons (alen_nil))))) (e_call ((ok_exchanged T).mono (by omega)) hr T.d_exchanged.g T.d_exchanged.F.kp T.d_exchanged.b pass0 (fun _ _ _ z => z) (a_cons (e_op o_add (e_op o_mul (e_int) (e_var 13)) (e_int)) (a_cons (e_var 7) (a_nil))) (alen_cons (alen_cons (alen_nil))))) (w_one (Or.inr rfl) (t_not (t_tru (e_call ((ok__law_so T 12).mono (by omega)) hr T.d__law_so.g T.d__law_so.F.kp T.d__law_so.b pass0 (fun _ _ _ z => z) (a_cons (e_call ((ok_exchanged_nearest T).mono (by omega)) hr T.d_exchanged_nearest.g T.d_exchanged_nearest.F.kp T.d_exchanged_nearest.b pass0 (fun _ _ _ z => z) (a_cons (e_var 13) (a_cons (e_var 7) (a_nil))) (alen_cons (alen_cons (alen_nil)))) (a_cons (e_op o_div (e_op o_add (e_op o_mul (e_op o_mul (e_int) (e_var 13)) (e_ix x_ix (e_var 7) (e_int))) (e_ix x_ix (e_var 7) (e_int))) (e_op o_mul (e_int) (e_ix x_ix (e_var 7) (e_int)))) (a_nil))) (alen_cons (alen_cons (alen_nil))))))))) (ss_one (s_ret (e_bl))) (ss_nil))))
          (ss_cons (s_set 15 nd (e_call ((ok__law_by_parts T).mono (by omega)) hr T.d__law_by_parts.g T.d__law_by_parts.F.kp T.d__law_by_parts.b pass0 (fun _ _ _ z => z) (a_cons (e_var 7) (a_cons (e_int) (a_nil))) (alen_cons (alen_cons (alen_nil)))))
          (ss_cons (s_for PassesOwn.never (i_range2 T.n_range (a_cons (e_int) (a_cons (e_int) (a_nil)))) (g_name (vs := [13]) 13 nd) (ss_one (s_if (t_not (t_tru (e_call ((ok__law_so T 12).mono (by omega)) hr T.d__law_so.g T.d__law_so.F.kp T.d__law_so.b pass0 (fun _ _ _ z => z) (a_cons (e_call ((ok_most_by_parts T).mono (by omega)) hr T.d_most_by_parts.g T.d_most_by_parts.F.kp T.d_most_by_parts.b pass0 (fun _ _ _ z => z) (a_cons (e_var 13) (a_cons (e_var 7) (a_nil))) (alen_cons (alen_cons (alen_nil)))) (a_cons (e_tup (a_cons (e_un o_neg (e_ix x_ix (e_ix x_ix (e_var 15) (e_var 13)) (e_int))) (a_cons (e_ix x_ix (e_ix x_ix (e_var 15) (e_var 13)) (e_int)) (a_nil)))) (a_nil))) (alen_cons (alen_cons (alen_nil)))))) (ss_one (s_ret (e_bl))) (ss_nil))))
          (ss_cons (s_setLc 16 [(Str.ofString "pence", 13)] nd (i_range2 T.n_range (a_cons (e_int) (a_cons (e_int) (a_nil)))) (blkOk_by (by kernel_rfl)) (fun _ _ _ _ _ => g_name 13 nd) (fun _ _ _ _ _ => ts_one (t_cmp (o_cmp .Gt rfl hr.units) (e_un o_neg (e_ix x_ix (e_ix x_ix (e_var 15) (e_var 13)) (e_int))) (e_call ((ok__law_near T).mono (by omega)) hr T.d__law_near.g T.d__law_near.F.kp T.d__law_near.b pass0 (fun _ _ _ z => z) (a_cons (e_var 13) (a_cons (e_var 7) (a_nil))) (alen_cons (alen_cons (alen_nil)))))) (fun _ _ _ _ _ => e_var 13) (sw_true rfl rfl rfl (by decide +kernel)))
          (ss_one (s_if (t_not (t_tru (e_call ((ok__law_so T 12).mono (by omega)) hr T.d__law_so.g T.d__law_so.F.kp T.d__law_so.b pass0 (fun _ _ _ z => z) (a_cons (e_call ((ok_parts_gain T).mono (by omega)) hr T.d_parts_gain.g T.d_parts_gain.F.kp T.d_parts_gain.b pass0 (fun _ _ _ z => z) (a_cons (e_var 7) (a_cons (e_int) (a_nil))) (alen_cons (alen_cons (alen_nil)))) (a_cons (e_if (t_cmp (o_cmp .Gt rfl hr.units) (e_callB c_len T.n_len (a_cons (e_var 16) (a_nil))) (e_int)) (e_ix x_ix (e_var 16) (e_int)) (e_non)) (a_nil))) (alen_cons (alen_cons (alen_nil)))))) (ss_one (s_ret (e_bl))) (ss_nil))))))))) (ss_nil)))))))
          (ss_cons (s_set 17 nd (e_op o_add (e_int) (e_call ((ok__law_take T).mono (by omega)) hr T.d__law_take.g T.d__law_take.F.kp T.d__law_take.b pass0 (fun _ _ _ z => z) (a_cons (e_var 1) (a_cons (e_var 2) (a_cons (e_int) (a_nil)))) (alen_cons (alen_cons (alen_cons (alen_nil)))))))
          (ss_cons (s_set 18 nd (e_call ((ok__law_red T 12).mono (by omega)) hr T.d__law_red.g T.d__law_red.F.kp T.d__law_red.b pass0 (fun _ _ _ z => z) (a_cons (e_call ((ok__law_take T).mono (by omega)) hr T.d__law_take.g T.d__law_take.F.kp T.d__law_take.b pass0 (fun _ _ _ z => z) (a_cons (e_var 1) (a_cons (e_var 2) (a_cons (e_int) (a_nil)))) (alen_cons (alen_cons (alen_cons (alen_nil))))) (a_cons (e_int) (a_nil))) (alen_cons (alen_cons (alen_nil)))))
          (ss_cons (s_set 19 nd (e_callTy c_tuple T.n_tuple (a_cons (e_lc [(Str.ofString "k", 21)] nd (i_range1 T.n_range (a_cons (e_int) (a_nil))) (blkOk_by (by kernel_rfl)) (fun _ _ _ _ _ => g_name 21 nd) (fun _ _ _ _ _ => ts_nil) (fun _ _ _ _ _ => e_call ((ok__law_take T).mono (by omega)) hr T.d__law_take.g T.d__law_take.F.kp T.d__law_take.b pass0 (fun _ _ _ z => z) (a_cons (e_var 1) (a_cons (e_var 2) (a_cons (e_int) (a_nil)))) (alen_cons (alen_cons (alen_cons (alen_nil)))))) (a_nil))))
          (ss_cons (s_set 20 nd (e_call ((ok_recognised T).mono (by omega)) hr T.d_recognised.g T.d_recognised.F.kp T.d_recognised.b pass0 (fun _ _ _ z => z) (a_cons (e_var 17) (a_cons (e_var 18) (a_cons (e_var 19) (a_nil)))) (alen_cons (alen_cons (alen_cons (alen_nil))))))
          (ss_cons (s_for PassesOwn.never (i_range1 T.n_range (a_cons (e_int) (a_nil))) (g_name (vs := [21]) 21 nd) (ss_cons (s_set 22 nd (e_op o_add (e_op o_add (e_slice (e_var 19) (p_none) (p_some (e_var 21))) (e_tup (a_cons (e_op o_add (e_ix x_ix (e_var 19) (e_var 21)) (e_ix x_ix (e_var 19) (e_op o_add (e_var 21) (e_int)))) (a_nil)))) (e_slice (e_var 19) (p_some (e_op o_add (e_var 21) (e_int))) (p_none))))
          (ss_cons (s_set 23 nd (e_call ((ok_recognised T).mono (by omega)) hr T.d_recognised.g T.d_recognised.F.kp T.d_recognised.b pass0 (fun _ _ _ z => z) (a_cons (e_var 17) (a_cons (e_var 18) (a_cons (e_var 22) (a_nil)))) (alen_cons (alen_cons (alen_cons (alen_nil))))))
          (ss_cons (s_if (t_w (w_or (t_cmp (o_ne hr.units) (e_var 23) (e_op o_add (e_op o_add (e_slice (e_var 20) (p_none) (p_some (e_var 21))) (e_tup (a_cons (e_op o_add (e_ix x_ix (e_var 20) (e_var 21)) (e_ix x_ix (e_var 20) (e_op o_add (e_var 21) (e_int)))) (a_nil)))) (e_slice (e_var 20) (p_some (e_op o_add (e_var 21) (e_int))) (p_none)))) (w_one (Or.inr rfl) (t_cmp (o_ne hr.units) (e_call ((ok_still_owed T).mono (by omega)) hr T.d_still_owed.g T.d_still_owed.F.kp T.d_still_owed.b pass0 (fun _ _ _ z => z) (a_cons (e_var 17) (a_cons (e_var 18) (a_cons (e_var 22) (a_nil)))) (alen_cons (alen_cons (alen_cons (alen_nil))))) (e_call ((ok_still_owed T).mono (by omega)) hr T.d_still_owed.g T.d_still_owed.F.kp T.d_still_owed.b pass0 (fun _ _ _ z => z) (a_cons (e_var 17) (a_cons (e_var 18) (a_cons (e_var 19) (a_nil)))) (alen_cons (alen_cons (alen_cons (alen_nil))))))))) (ss_one (s_ret (e_bl))) (ss_nil))
          (ss_cons (s_set 24 nd (e_op o_div (e_ix x_ix (e_var 19) (e_var 21)) (e_int)))
          (ss_cons (s_set 25 nd (e_call ((ok_recognised T).mono (by omega)) hr T.d_recognised.g T.d_recognised.F.kp T.d_recognised.b pass0 (fun _ _ _ z => z) (a_cons (e_var 17) (a_cons (e_var 18) (a_cons (e_op o_add (e_op o_add (e_slice (e_var 19) (p_none) (p_some (e_var 21))) (e_tup (a_cons (e_var 24) (a_cons (e_op o_sub (e_ix x_ix (e_var 19) (e_var 21)) (e_var 24)) (a_nil))))) (e_slice (e_var 19) (p_some (e_op o_add (e_var 21) (e_int))) (p_none))) (a_nil)))) (alen_cons (alen_cons (alen_cons (alen_nil))))))
          (ss_one (s_if (t_w (w_or (t_cmp (o_ne hr.units) (e_slice (e_var 25) (p_none) (p_some (e_var 21))) (e_slice (e_var 20) (p_none) (p_some (e_var 21)))) (w_or (t_cmp (o_ne hr.units) (e_op o_add (e_ix x_ix (e_var 25) (e_var 21)) (e_ix x_ix (e_var 25) (e_op o_add (e_var 21) (e_int)))) (e_ix x_ix (e_var 20) (e_var 21))) (w_one (Or.inr rfl) (t_cmp (o_ne hr.units) (e_slice (e_var 25) (p_some (e_op o_add (e_var 21) (e_int))) (p_none)) (e_slice (e_var 20) (p_some (e_op o_add (e_var 21) (e_int))) (p_none))))))) (ss_one (s_ret (e_bl))) (ss_nil)))))))))
          (ss_cons (s_set 10 nd (e_tup (a_cons (e_var 17) (a_cons (e_op o_sub (e_var 17) (e_call ((ok__law_take T).mono (by omega)) hr T.d__law_take.g T.d__law_take.F.kp T.d__law_take.b pass0 (fun _ _ _ z => z) (a_cons (e_var 1) (a_cons (e_var 2) (a_cons (e_op o_add (e_var 17) (e_int)) (a_nil)))) (alen_cons (alen_cons (alen_cons (alen_nil)))))) (a_nil)))))
          (ss_one (s_ret (e_and (e_cmp (o_eq hr.units) (e_call ((ok_share_of T).mono (by omega)) hr T.d_share_of.g T.d_share_of.F.kp T.d_share_of.b pass0 (fun _ _ _ z => z) (a_cons (e_op o_mul (e_tup (a_cons (e_var 10) (a_nil))) (e_int)) (a_nil)) (alen_cons (alen_nil))) (e_call ((ok_share_of T).mono (by omega)) hr T.d_share_of.g T.d_share_of.F.kp T.d_share_of.b pass0 (fun _ _ _ z => z) (a_cons (e_tup (a_cons (e_var 10) (a_nil))) (a_nil)) (alen_cons (alen_nil)))) (e_one (e_cmp (o_eq hr.units) (e_call ((ok_round_trip T).mono (by omega)) hr T.d_round_trip.g T.d_round_trip.F.kp T.d_round_trip.b pass0 (fun _ _ _ z => z) (a_cons (e_var 17) (a_cons (e_tup (a_nil)) (a_nil))) (alen_cons (alen_cons (alen_nil)))) (e_var 17))))))))))))))))
end
end Gw
end
section
set_option maxRecDepth 100000
set_option maxHeartbeats 4000000
namespace Gw
open PySem PySem.Spec PyProof.Rows L2 Sim
theorem f__law_near : FF m__law_near := ff_fun (fs_ret (fe_op fd_div (fe_op fd_add (fe_op fd_mul (fe_op fd_mul (fe_c fun _ => rfl) (fe_var _)) (fe_op fd_ix (fe_var _) (fe_c fun _ => rfl))) (fe_op fd_ix (fe_var _) (fe_c fun _ => rfl))) (fe_op fd_mul (fe_c fun _ => rfl) (fe_op fd_ix (fe_var _) (fe_c fun _ => rfl)))))
theorem fl__law_by_parts_1 : FS l__law_by_parts_1 := (fs_seq (fs_set (fg_n _) (fe_op fd_ix (fe_var _) (fe_op fd_sub (fe_var _) (fe_var _)))) (fs_seq (fs_set (fg_n _) (fe_call ff_tuple (fa_cons (fe_call ff_sorted (fa_cons (fe_op fd_add (fe_lc (fi_any (fe_op fd_ix (fe_var _) (fe_c fun _ => rfl))) (fg_n _) ft_yes (fe_un fu_neg (fe_var _))) (fe_lst (fa_cons (fe_un fu_neg (fe_var _)) fa_nil))) fa_nil)) fa_nil))) (fs_seq (fs_set (fg_n _) (fe_tup (fa_cons (fe_op fd_sub (fe_op fd_ix (fe_var _) (fe_c fun _ => rfl)) (fe_call f__law_near (fa_cons (fe_var _) (fa_cons (fe_var _) fa_nil)))) (fa_cons (fe_op fd_add (fe_op fd_ix (fe_var _) (fe_c fun _ => rfl)) (fe_c fun _ => rfl)) (fa_cons (fe_call ff_tuple (fa_cons (fe_lc (fi_any (fe_var _)) (fg_n _) ft_yes (fe_un fu_neg (fe_var _))) fa_nil)) fa_nil))))) (fs_set (fg_n _) (fe_if (ft_or (ft_isb (fe_op fd_is (fe_var _) (fe_c fun _ => rfl))) (ft_isb (fe_op (fd_cmp _) (fe_var _) (fe_var _)))) (fe_var _) (fe_var _))))))
theorem fl__law_by_parts_0 : FS l__law_by_parts_0 := (fs_seq (fs_set (fg_n _) (fe_c fun _ => rfl)) (fs_seq (fs_for (fi_rg2 (fa_cons (fe_c fun _ => rfl) (fa_cons (fe_op fd_add (fe_var _) (fe_c fun _ => rfl)) fa_nil))) (fg_n _) fl__law_by_parts_1) (fs_drop (fe_meL fm_append (fe_var _) (fa_cons (fe_var _) fa_nil)))))
theorem f__law_by_parts : FF m__law_by_parts := ff_fun (fs_seq (fs_set (fg_n _) (fe_lst (fa_cons (fe_tup (fa_cons (fe_c fun _ => rfl) (fa_cons (fe_c fun _ => rfl) (fa_cons (fe_tup fa_nil) fa_nil)))) fa_nil))) (fs_seq (fs_for (fi_rg2 (fa_cons (fe_c fun _ => rfl) (fa_cons (fe_op fd_add (fe_var _) (fe_c fun _ => rfl)) fa_nil))) (fg_n _) fl__law_by_parts_0) (fs_ret (fe_var _))))
theorem f__law_less : FF m__law_less := ff_fun (fs_ret (fe_op (fd_cmp _) (fe_op fd_mul (fe_op fd_ix (fe_var _) (fe_c fun _ => rfl)) (fe_op fd_ix (fe_var _) (fe_c fun _ => rfl))) (fe_op fd_mul (fe_op fd_ix (fe_var _) (fe_c fun _ => rfl)) (fe_op fd_ix (fe_var _) (fe_c fun _ => rfl)))))
theorem fl__law_gcd_0 : FS l__law_gcd_0 := (fs_seq (fs_if (ft_isb (fe_op fd_eq (fe_var _) (fe_c fun _ => rfl))) fs_break fs_next) (fs_seq (fs_set (fg_n _) (fe_op fd_mod (fe_call ff_int (fa_cons (fe_var _) fa_nil)) (fe_var _))) (fs_seq (fs_set (fg_n _) (fe_var _)) (fs_set (fg_n _) (fe_var _)))))
theorem f__law_gcd : FF m__law_gcd := ff_fun (fs_seq (fs_set (fg_n _) (fe_if (ft_isb (fe_op (fd_cmp _) (fe_var _) (fe_c fun _ => rfl))) (fe_var _) (fe_un fu_neg (fe_var _)))) (fs_seq (fs_set (fg_n _) (fe_if (ft_isb (fe_op (fd_cmp _) (fe_var _) (fe_c fun _ => rfl))) (fe_var _) (fe_un fu_neg (fe_var _)))) (fs_seq (fs_for (fi_rg1 (fa_cons (fe_c fun _ => rfl) fa_nil)) (fg_n _) fl__law_gcd_0) (fs_ret (fe_var _)))))
theorem f__law_red : ∀ k : Nat, FF (m__law_red k)
  | 0 => ff_bad
  | k + 1 => by
    have ih := f__law_red k
    exact ff_fun (fs_seq (fs_if (ft_isb (fe_op (fd_cmp _) (fe_var _) (fe_c fun _ => rfl))) (fs_ret (fe_call ih (fa_cons (fe_un fu_neg (fe_var _)) (fa_cons (fe_un fu_neg (fe_var _)) fa_nil)))) fs_next) (fs_seq (fs_set (fg_n _) (fe_call f__law_gcd (fa_cons (fe_var _) (fa_cons (fe_var _) fa_nil)))) (fs_seq (fs_if (ft_isb (fe_op fd_eq (fe_var _) (fe_c fun _ => rfl))) (fs_ret (fe_tup (fa_cons (fe_c fun _ => rfl) (fa_cons (fe_c fun _ => rfl) fa_nil)))) fs_next) (fs_ret (fe_tup (fa_cons (fe_op fd_div (fe_var _) (fe_var _)) (fa_cons (fe_op fd_div (fe_var _) (fe_var _)) fa_nil)))))))
theorem f__law_mul : FF m__law_mul := ff_fun (fs_ret (fe_call (f__law_red 12) (fa_cons (fe_op fd_mul (fe_op fd_ix (fe_var _) (fe_c fun _ => rfl)) (fe_op fd_ix (fe_var _) (fe_c fun _ => rfl))) (fa_cons (fe_op fd_mul (fe_op fd_ix (fe_var _) (fe_c fun _ => rfl)) (fe_op fd_ix (fe_var _) (fe_c fun _ => rfl))) fa_nil))))
theorem fl__law_numbers_1 : FS l__law_numbers_1 := (fs_seq (fs_if (ft_isb (fe_op fd_eq (fe_var _) (fe_c fun _ => rfl))) fs_break fs_next) (fs_seq (fs_drop (fe_meL fm_append (fe_var _) (fa_cons (fe_op fd_mod (fe_call ff_int (fa_cons (fe_var _) fa_nil)) (fe_c fun _ => rfl)) fa_nil))) (fs_set (fg_n _) (fe_op fd_div (fe_var _) (fe_c fun _ => rfl)))))
theorem fl__law_numbers_2 : FS l__law_numbers_2 := (fs_seq (fs_set (fg_n _) (fe_op fd_mod (fe_call ff_int (fa_cons (fe_op fd_add (fe_op fd_add (fe_op fd_mul (fe_var _) (fe_c fun _ => rfl)) (fe_op fd_mul (fe_var _) (fe_c fun _ => rfl))) (fe_c fun _ => rfl)) fa_nil)) (fe_c fun _ => rfl))) (fs_drop (fe_meL fm_append (fe_var _) (fa_cons (fe_op fd_mod (fe_call ff_int (fa_cons (fe_op fd_add (fe_op fd_mul (fe_var _) (fe_c fun _ => rfl)) (fe_var _)) fa_nil)) (fe_c fun _ => rfl)) fa_nil))))
theorem fl__law_numbers_0 : FS l__law_numbers_0 := (fs_if (ft_isb (fe_op (fd_cmp _) (fe_var _) (fe_op fd_pow (fe_c fun _ => rfl) (fe_c fun _ => rfl)))) (fs_seq (fs_set (fg_n _) (fe_var _)) (fs_for (fi_rg1 (fa_cons (fe_c fun _ => rfl) fa_nil)) (fg_n _) fl__law_numbers_1)) (fs_for (fi_rg1 (fa_cons (fe_c fun _ => rfl) fa_nil)) (fg_n _) fl__law_numbers_2))
theorem f__law_numbers : FF m__law_numbers := ff_fun (fs_seq (fs_set (fg_n _) (fe_lst fa_nil)) (fs_seq (fs_for (fi_any (fe_sl (fe_var _) fo_none (fo_some (fe_c fun _ => rfl)))) (fg_n _) fl__law_numbers_0) (fs_seq (fs_if (ft_isb (fe_op fd_eq (fe_call ff_len (fa_cons (fe_var _) fa_nil)) (fe_c fun _ => rfl))) (fs_drop (fe_meL fm_append (fe_var _) (fa_cons (fe_c fun _ => rfl) fa_nil))) fs_next) (fs_ret (fe_var _)))))
theorem f__law_so : ∀ k : Nat, FF (m__law_so k)
  | 0 => ff_bad
  | k + 1 => by
    have ih := f__law_so k
    exact ff_fun (fs_seq (fs_if (ft_isb (fe_op fd_is (fe_var _) (fe_c fun _ => rfl))) (fs_ret (fe_op fd_is (fe_var _) (fe_c fun _ => rfl))) fs_next) (fs_seq (fs_if (ft_tru (fe_call ff_isi (fa_cons (fe_var _) (fa_cons (fe_c fun _ => rfl) fa_nil)))) (fs_seq (fs_if (ft_or (ft_not (ft_tru (fe_call ff_isi (fa_cons (fe_var _) (fa_cons (fe_c fun _ => rfl) fa_nil))))) (ft_isb (fe_op fd_ne (fe_call ff_len (fa_cons (fe_var _) fa_nil)) (fe_call ff_len (fa_cons (fe_var _) fa_nil))))) (fs_ret (fe_c fun _ => rfl)) fs_next) (fs_seq (fs_for (fi_rg1 (fa_cons (fe_call ff_len (fa_cons (fe_var _) fa_nil)) fa_nil)) (fg_n _) (fs_if (ft_not (ft_tru (fe_call ih (fa_cons (fe_op fd_ix (fe_var _) (fe_var _)) (fa_cons (fe_op fd_ix (fe_var _) (fe_var _)) fa_nil))))) (fs_ret (fe_c fun _ => rfl)) fs_next)) (fs_ret (fe_c fun _ => rfl)))) fs_next) (fs_seq (fs_if (ft_or (ft_tru (fe_call ff_isi (fa_cons (fe_var _) (fa_cons (fe_c fun _ => rfl) fa_nil)))) (ft_tru (fe_call ff_isi (fa_cons (fe_var _) (fa_cons (fe_c fun _ => rfl) fa_nil))))) (fs_ret (fe_and (fe_call ff_isi (fa_cons (fe_var _) (fa_cons (fe_c fun _ => rfl) fa_nil))) (fe_and (fe_call ff_isi (fa_cons (fe_var _) (fa_cons (fe_c fun _ => rfl) fa_nil))) (fe_op fd_eq (fe_var _) (fe_var _))))) fs_next) (fs_seq (fs_if (ft_tru (fe_call ff_isi (fa_cons (fe_var _) (fa_cons (fe_c fun _ => rfl) fa_nil)))) (fs_ret (fe_and (fe_call ff_isi (fa_cons (fe_var _) (fa_cons (fe_c fun _ => rfl) fa_nil))) (fe_op fd_eq (fe_var _) (fe_var _)))) fs_next) (fs_ret (fe_and (fe_call ff_isi (fa_cons (fe_var _) (fa_cons (fe_c fun _ => rfl) fa_nil))) (fe_and (fe_call ff_isi (fa_cons (fe_var _) (fa_cons (fe_c fun _ => rfl) fa_nil))) (fe_op fd_eq (fe_var _) (fe_var _)))))))))
theorem f__law_draw : FF m__law_draw := ff_fun (fs_seq (fs_if (ft_isb (fe_op (fd_cmp _) (fe_var _) (fe_call ff_len (fa_cons (fe_var _) fa_nil)))) (fs_ret (fe_op fd_mod (fe_call ff_int (fa_cons (fe_op fd_ix (fe_var _) (fe_var _)) fa_nil)) (fe_var _))) fs_next) (fs_seq (fs_set (fg_n _) (fe_op fd_mod (fe_call ff_int (fa_cons (fe_op fd_add (fe_op fd_add (fe_op fd_mul (fe_op fd_ix (fe_var _) (fe_op fd_mod (fe_call ff_int (fa_cons (fe_var _) fa_nil)) (fe_call ff_len (fa_cons (fe_var _) fa_nil)))) (fe_c fun _ => rfl)) (fe_op fd_mul (fe_var _) (fe_c fun _ => rfl))) (fe_c fun _ => rfl)) fa_nil)) (fe_c fun _ => rfl))) (fs_ret (fe_op fd_mod (fe_call ff_int (fa_cons (fe_op fd_mod (fe_call ff_int (fa_cons (fe_op fd_add (fe_op fd_mul (fe_var _) (fe_c fun _ => rfl)) (fe_var _)) fa_nil)) (fe_c fun _ => rfl)) fa_nil)) (fe_var _)))))
theorem f__law_take : FF m__law_take := ff_fun (fs_seq (fs_put fp_setL (fe_var _) (fe_c fun _ => rfl) (fe_op fd_add (fe_op fd_ix (fe_var _) (fe_c fun _ => rfl)) (fe_c fun _ => rfl))) (fs_ret (fe_call f__law_draw (fa_cons (fe_var _) (fa_cons (fe_op fd_sub (fe_op fd_ix (fe_var _) (fe_c fun _ => rfl)) (fe_c fun _ => rfl)) (fa_cons (fe_var _) fa_nil))))))
theorem f_rounded_down : FF m_rounded_down := ff_fun (fs_ret (fe_op fd_div (fe_var _) (fe_var _)))
theorem f_at_rate : FF m_at_rate := ff_fun (fs_ret (fe_call f_rounded_down (fa_cons (fe_op fd_mul (fe_var _) (fe_op fd_ix (fe_var _) (fe_c fun _ => rfl))) (fa_cons (fe_op fd_ix (fe_var _) (fe_c fun _ => rfl)) fa_nil))))
theorem f_is_integer : FF m_is_integer := ff_fun (fs_ret (fe_and (fe_call ff_isi (fa_cons (fe_var _) (fa_cons (fe_c fun _ => rfl) fa_nil))) (fe_not (fe_call ff_isi (fa_cons (fe_var _) (fa_cons (fe_c fun _ => rfl) fa_nil))))))
theorem f_is_between : FF m_is_between := ff_fun (fs_ret (fe_and (fe_call f_is_integer (fa_cons (fe_var _) fa_nil)) (fe_chain (fd_cmp _) (fd_cmp _) (fe_var _) (fe_var _) (fe_var _))))
theorem f_is_sequence : FF m_is_sequence := ff_fun (fs_ret (fe_isi2 (fe_var _)))
theorem f_is_row : FF m_is_row := ff_fun (fs_ret (fe_and (fe_call f_is_sequence (fa_cons (fe_var _) fa_nil)) (fe_op fd_eq (fe_call ff_len (fa_cons (fe_var _) fa_nil)) (fe_var _))))
theorem f_is_fraction : FF m_is_fraction := ff_fun (fs_seq (fs_if (ft_not (ft_tru (fe_call f_is_row (fa_cons (fe_var _) (fa_cons (fe_c fun _ => rfl) fa_nil))))) (fs_ret (fe_c fun _ => rfl)) fs_next) (fs_seq (fs_if (ft_or (ft_not (ft_tru (fe_call f_is_between (fa_cons (fe_op fd_ix (fe_var _) (fe_c fun _ => rfl)) (fa_cons (fe_un fu_neg (fe_c fun _ => rfl)) (fa_cons (fe_c fun _ => rfl) fa_nil)))))) (ft_not (ft_tru (fe_call f_is_between (fa_cons (fe_op fd_ix (fe_var _) (fe_c fun _ => rfl)) (fa_cons (fe_c fun _ => rfl) (fa_cons (fe_c fun _ => rfl) fa_nil))))))) (fs_ret (fe_c fun _ => rfl)) fs_next) (fs_ret (fe_op fd_eq (fe_call ff_gcd (fa_cons (fe_op fd_ix (fe_var _) (fe_c fun _ => rfl)) (fa_cons (fe_op fd_ix (fe_var _) (fe_c fun _ => rfl)) fa_nil))) (fe_c fun _ => rfl)))))
theorem f_is_rate : FF m_is_rate := ff_fun (fs_ret (fe_and (fe_call f_is_fraction (fa_cons (fe_var _) fa_nil)) (fe_chain (fd_cmp _) (fd_cmp _) (fe_c fun _ => rfl) (fe_op fd_ix (fe_var _) (fe_c fun _ => rfl)) (fe_op fd_mul (fe_c fun _ => rfl) (fe_op fd_ix (fe_var _) (fe_c fun _ => rfl))))))
theorem f_need : FF m_need := ff_fun (fs_if (ft_not (ft_tru (fe_var _))) fs_bad fs_next)
theorem f_exchanged : FF m_exchanged := ff_fun (fs_seq (fs_drop (fe_call f_need (fa_cons (fe_call f_is_between (fa_cons (fe_var _) (fa_cons (fe_c fun _ => rfl) (fa_cons (fe_c fun _ => rfl) fa_nil)))) (fa_cons (fe_c fun _ => rfl) fa_nil)))) (fs_seq (fs_drop (fe_call f_need (fa_cons (fe_call f_is_rate (fa_cons (fe_var _) fa_nil)) (fa_cons (fe_c fun _ => rfl) fa_nil)))) (fs_ret (fe_call f_at_rate (fa_cons (fe_var _) (fa_cons (fe_var _) fa_nil))))))
theorem f_rounded_nearest : FF m_rounded_nearest := ff_fun (fs_ret (fe_op fd_div (fe_op fd_add (fe_op fd_mul (fe_c fun _ => rfl) (fe_var _)) (fe_var _)) (fe_op fd_mul (fe_c fun _ => rfl) (fe_var _))))
theorem f_nearest_at_rate : FF m_nearest_at_rate := ff_fun (fs_ret (fe_call f_rounded_nearest (fa_cons (fe_op fd_mul (fe_var _) (fe_op fd_ix (fe_var _) (fe_c fun _ => rfl))) (fa_cons (fe_op fd_ix (fe_var _) (fe_c fun _ => rfl)) fa_nil))))
theorem f_exchanged_nearest : FF m_exchanged_nearest := ff_fun (fs_seq (fs_drop (fe_call f_need (fa_cons (fe_call f_is_between (fa_cons (fe_var _) (fa_cons (fe_c fun _ => rfl) (fa_cons (fe_c fun _ => rfl) fa_nil)))) (fa_cons (fe_c fun _ => rfl) fa_nil)))) (fs_seq (fs_drop (fe_call f_need (fa_cons (fe_call f_is_rate (fa_cons (fe_var _) fa_nil)) (fa_cons (fe_c fun _ => rfl) fa_nil)))) (fs_ret (fe_call f_nearest_at_rate (fa_cons (fe_var _) (fa_cons (fe_var _) fa_nil))))))
theorem fl_least_cap_0 : FS l_least_cap_0 := (fs_if (ft_isb (fe_op fd_eq (fe_op fd_ix (fe_op fd_ix (fe_var _) (fe_op fd_sub (fe_var _) (fe_c fun _ => rfl))) (fe_var _)) (fe_var _))) (fs_ret (fe_var _)) fs_next)
theorem f_least_cap : FF m_least_cap := ff_fun (fs_seq (fs_for (fi_rg2 (fa_cons (fe_c fun _ => rfl) (fa_cons (fe_var _) fa_nil))) (fg_n _) fl_least_cap_0) (fs_ret (fe_var _)))
theorem fl_score_rows_1 : FS l_score_rows_1 := (fs_drop (fe_meL fm_append (fe_var _) (fa_cons (fe_call ff_max (fa_cons (fe_op fd_ix (fe_var _) (fe_var _)) (fa_cons (fe_op fd_add (fe_op fd_ix (fe_var _) (fe_op fd_sub (fe_var _) (fe_var _))) (fe_var _)) fa_nil))) fa_nil)))
theorem fl_score_rows_0 : FS l_score_rows_0 := (fs_seq (fs_set (fg_n _) (fe_op fd_ix (fe_var _) (fe_un fu_neg (fe_c fun _ => rfl)))) (fs_seq (fs_set (fg_n _) (fe_op fd_sub (fe_op fd_mul (fe_op fd_ix (fe_var _) (fe_var _)) (fe_var _)) (fe_c fun _ => rfl))) (fs_seq (fs_set (fg_n _) (fe_sl (fe_var _) fo_none (fo_some (fe_var _)))) (fs_seq (fs_for (fi_rg2 (fa_cons (fe_var _) (fa_cons (fe_op fd_add (fe_var _) (fe_c fun _ => rfl)) fa_nil))) (fg_n _) fl_score_rows_1) (fs_drop (fe_meL fm_append (fe_var _) (fa_cons (fe_var _) fa_nil)))))))
theorem f_score_rows : FF m_score_rows := ff_fun (fs_seq (fs_set (fg_n _) (fe_op fd_add (fe_var _) (fe_c fun _ => rfl))) (fs_seq (fs_set (fg_n _) (fe_op fd_sub (fe_op fd_mul (fe_op fd_ix (fe_var _) (fe_c fun _ => rfl)) (fe_var _)) (fe_c fun _ => rfl))) (fs_seq (fs_set (fg_n _) (fe_lst (fa_cons (fe_lc (fi_rg1 (fa_cons (fe_op fd_add (fe_var _) (fe_c fun _ => rfl)) fa_nil)) (fg_n _) ft_yes (fe_op fd_mul (fe_var _) (fe_var _))) fa_nil))) (fs_seq (fs_for (fi_rg2 (fa_cons (fe_c fun _ => rfl) (fa_cons (fe_op fd_add (fe_var _) (fe_c fun _ => rfl)) fa_nil))) (fg_n _) fl_score_rows_0) (fs_ret (fe_var _))))))
theorem fl_best_parts_0 : FS l_best_parts_0 := (fs_seq (fs_set (fg_n _) (fe_call f_least_cap (fa_cons (fe_var _) (fa_cons (fe_var _) (fa_cons (fe_call ff_min (fa_cons (fe_var _) (fa_cons (fe_var _) fa_nil))) (fa_cons (fe_var _) fa_nil)))))) (fs_seq (fs_drop (fe_meL fm_append (fe_var _) (fa_cons (fe_var _) fa_nil))) (fs_seq (fs_set (fg_n _) (fe_op fd_sub (fe_var _) (fe_op fd_sub (fe_op fd_mul (fe_op fd_ix (fe_var _) (fe_var _)) (fe_var _)) (fe_c fun _ => rfl)))) (fs_set (fg_n _) (fe_op fd_sub (fe_var _) (fe_var _))))))
theorem f_best_parts : FF m_best_parts := ff_fun (fs_seq (fs_if (ft_isb (fe_op fd_eq (fe_var _) (fe_c fun _ => rfl))) (fs_ret (fe_tup (fa_cons (fe_c fun _ => rfl) (fa_cons (fe_tup fa_nil) fa_nil)))) fs_next) (fs_seq (fs_set (fg_n _) (fe_op fd_add (fe_var _) (fe_c fun _ => rfl))) (fs_seq (fs_set (fg_n _) (fe_call f_score_rows (fa_cons (fe_var _) (fa_cons (fe_var _) fa_nil)))) (fs_seq (fs_set (fg_n _) (fe_op fd_ix (fe_op fd_ix (fe_var _) (fe_op fd_sub (fe_var _) (fe_c fun _ => rfl))) (fe_var _))) (fs_seq (fs_set (fg_n _) (fe_un fu_neg (fe_op fd_div (fe_un fu_neg (fe_var _)) (fe_var _)))) (fs_seq (fs_set (fg_n _) (fe_lst fa_nil)) (fs_seq (fs_set (fg_n _) (fe_var _)) (fs_seq (fs_set (fg_n _) (fe_var _)) (fs_seq (fs_while (ft_isb (fe_op (fd_cmp _) (fe_var _) (fe_c fun _ => rfl))) fl_best_parts_0) (fs_ret (fe_tup (fa_cons (fe_var _) (fa_cons (fe_call ff_tuple (fa_cons (fe_var _) fa_nil)) fa_nil)))))))))))))
theorem f_made_of_parts : FF m_made_of_parts := ff_fun (fs_ret (fe_lc (fi_rg1 (fa_cons (fe_op fd_add (fe_var _) (fe_c fun _ => rfl)) fa_nil)) (fg_n _) ft_yes (fe_call f_nearest_at_rate (fa_cons (fe_var _) (fa_cons (fe_var _) fa_nil)))))
theorem f_most_by_parts : FF m_most_by_parts := ff_fun (fs_seq (fs_drop (fe_call f_need (fa_cons (fe_call f_is_between (fa_cons (fe_var _) (fa_cons (fe_c fun _ => rfl) (fa_cons (fe_c fun _ => rfl) fa_nil)))) (fa_cons (fe_c fun _ => rfl) fa_nil)))) (fs_seq (fs_drop (fe_call f_need (fa_cons (fe_call f_is_rate (fa_cons (fe_var _) fa_nil)) (fa_cons (fe_c fun _ => rfl) fa_nil)))) (fs_ret (fe_call f_best_parts (fa_cons (fe_call f_made_of_parts (fa_cons (fe_var _) (fa_cons (fe_var _) fa_nil))) (fa_cons (fe_var _) fa_nil))))))
theorem fl_greatest_worths_0 : FS l_greatest_worths_0 := (fs_drop (fe_meL fm_append (fe_var _) (fa_cons (fe_call ff_max (fa_cons (fe_lc (fi_rg2 (fa_cons (fe_c fun _ => rfl) (fa_cons (fe_op fd_add (fe_var _) (fe_c fun _ => rfl)) fa_nil))) (fg_n _) ft_yes (fe_op fd_add (fe_op fd_ix (fe_var _) (fe_op fd_sub (fe_var _) (fe_var _))) (fe_op fd_ix (fe_var _) (fe_var _)))) fa_nil)) fa_nil)))
theorem f_greatest_worths : FF m_greatest_worths := ff_fun (fs_seq (fs_set (fg_n _) (fe_lst (fa_cons (fe_c fun _ => rfl) fa_nil))) (fs_seq (fs_for (fi_rg2 (fa_cons (fe_c fun _ => rfl) (fa_cons (fe_op fd_add (fe_var _) (fe_c fun _ => rfl)) fa_nil))) (fg_n _) fl_greatest_worths_0) (fs_ret (fe_var _))))
theorem fl_first_gain_0 : FS l_first_gain_0 := (fs_if (ft_isb (fe_op (fd_cmp _) (fe_op fd_ix (fe_var _) (fe_var _)) (fe_op fd_ix (fe_var _) (fe_var _)))) (fs_ret (fe_var _)) fs_next)
theorem f_first_gain : FF m_first_gain := ff_fun (fs_seq (fs_set (fg_n _) (fe_call f_greatest_worths (fa_cons (fe_var _) (fa_cons (fe_var _) fa_nil)))) (fs_seq (fs_for (fi_rg2 (fa_cons (fe_c fun _ => rfl) (fa_cons (fe_op fd_add (fe_var _) (fe_c fun _ => rfl)) fa_nil))) (fg_n _) fl_first_gain_0) (fs_ret (fe_c fun _ => rfl))))
theorem f_parts_gain : FF m_parts_gain := ff_fun (fs_seq (fs_drop (fe_call f_need (fa_cons (fe_call f_is_rate (fa_cons (fe_var _) fa_nil)) (fa_cons (fe_c fun _ => rfl) fa_nil)))) (fs_seq (fs_drop (fe_call f_need (fa_cons (fe_call f_is_between (fa_cons (fe_var _) (fa_cons (fe_c fun _ => rfl) (fa_cons (fe_c fun _ => rfl) fa_nil)))) (fa_cons (fe_c fun _ => rfl) fa_nil)))) (fs_ret (fe_call f_first_gain (fa_cons (fe_call f_made_of_parts (fa_cons (fe_var _) (fa_cons (fe_var _) fa_nil))) (fa_cons (fe_var _) fa_nil))))))
theorem f_never_spent : FF m_never_spent := ff_fun (fs_seq (fs_set (fg_t (fg_cons (fg_n _) (fg_cons (fg_n _) fg_nil))) (fe_var _)) (fs_ret (fe_op fd_div (fe_op fd_mul (fe_var _) (fe_var _)) (fe_var _))))
theorem f_earned_by : FF m_earned_by := ff_fun (fs_seq (fs_set (fg_t (fg_cons (fg_n _) (fg_cons (fg_n _) fg_nil))) (fe_var _)) (fs_seq (fs_set (fg_n _) (fe_op fd_div (fe_op fd_mul (fe_var _) (fe_var _)) (fe_op fd_sub (fe_var _) (fe_var _)))) (fs_ret (fe_call ff_min (fa_cons (fe_var _) (fa_cons (fe_call f_never_spent (fa_cons (fe_var _) (fa_cons (fe_var _) fa_nil))) fa_nil))))))
theorem fl_running_sums_0 : FS l_running_sums_0 := (fs_seq (fs_set (fg_n _) (fe_op fd_add (fe_var _) (fe_var _))) (fs_drop (fe_meL fm_append (fe_var _) (fa_cons (fe_var _) fa_nil))))
theorem f_running_sums : FF m_running_sums := ff_fun (fs_seq (fs_set (fg_n _) (fe_lst fa_nil)) (fs_seq (fs_set (fg_n _) (fe_c fun _ => rfl)) (fs_seq (fs_for (fi_any (fe_var _)) (fg_n _) fl_running_sums_0) (fs_ret (fe_var _)))))
theorem fl_steps_of_0 : FS l_steps_of_0 := (fs_seq (fs_drop (fe_meL fm_append (fe_var _) (fa_cons (fe_op fd_sub (fe_var _) (fe_var _)) fa_nil))) (fs_set (fg_n _) (fe_var _)))
theorem f_steps_of : FF m_steps_of := ff_fun (fs_seq (fs_set (fg_n _) (fe_lst fa_nil)) (fs_seq (fs_set (fg_n _) (fe_c fun _ => rfl)) (fs_seq (fs_for (fi_any (fe_var _)) (fg_n _) fl_steps_of_0) (fs_ret (fe_var _)))))
theorem f_earned_in_each : FF m_earned_in_each := ff_fun (fs_seq (fs_set (fg_n _) (fe_lc (fi_any (fe_call f_running_sums (fa_cons (fe_var _) fa_nil))) (fg_n _) ft_yes (fe_call f_earned_by (fa_cons (fe_var _) (fa_cons (fe_var _) (fa_cons (fe_var _) fa_nil)))))) (fs_ret (fe_call ff_tuple (fa_cons (fe_call f_steps_of (fa_cons (fe_var _) fa_nil)) fa_nil))))
theorem f_has_size : FF m_has_size := ff_fun (fs_ret (fe_and (fe_call f_is_sequence (fa_cons (fe_var _) fa_nil)) (fe_chain (fd_cmp _) (fd_cmp _) (fe_var _) (fe_call ff_len (fa_cons (fe_var _) fa_nil)) (fe_var _))))
theorem f_are_between : FF m_are_between := ff_fun (fs_seq (fs_if (ft_not (ft_tru (fe_call f_has_size (fa_cons (fe_var _) (fa_cons (fe_var _) (fa_cons (fe_var _) fa_nil)))))) (fs_ret (fe_c fun _ => rfl)) fs_next) (fs_ret (fe_call ff_all (fa_cons (fe_lc (fi_any (fe_var _)) (fg_n _) ft_yes (fe_call f_is_between (fa_cons (fe_var _) (fa_cons (fe_var _) (fa_cons (fe_var _) fa_nil))))) fa_nil))))
theorem f_is_share : FF m_is_share := ff_fun (fs_ret (fe_and (fe_call f_is_fraction (fa_cons (fe_var _) fa_nil)) (fe_chain (fd_cmp _) (fd_cmp _) (fe_c fun _ => rfl) (fe_op fd_ix (fe_var _) (fe_c fun _ => rfl)) (fe_op fd_ix (fe_var _) (fe_c fun _ => rfl)))))
theorem f_need_periods : FF m_need_periods := ff_fun (fs_seq (fs_drop (fe_call f_need (fa_cons (fe_call f_is_between (fa_cons (fe_var _) (fa_cons (fe_c fun _ => rfl) (fa_cons (fe_c fun _ => rfl) fa_nil)))) (fa_cons (fe_c fun _ => rfl) fa_nil)))) (fs_seq (fs_drop (fe_call f_need (fa_cons (fe_call f_is_share (fa_cons (fe_var _) fa_nil)) (fa_cons (fe_c fun _ => rfl) fa_nil)))) (fs_drop (fe_call f_need (fa_cons (fe_call f_are_between (fa_cons (fe_var _) (fa_cons (fe_c fun _ => rfl) (fa_cons (fe_c fun _ => rfl) (fa_cons (fe_c fun _ => rfl) (fa_cons (fe_c fun _ => rfl) fa_nil)))))) (fa_cons (fe_c fun _ => rfl) fa_nil))))))
theorem f_recognised : FF m_recognised := ff_fun (fs_seq (fs_drop (fe_call f_need_periods (fa_cons (fe_var _) (fa_cons (fe_var _) (fa_cons (fe_var _) fa_nil))))) (fs_ret (fe_call f_earned_in_each (fa_cons (fe_var _) (fa_cons (fe_var _) (fa_cons (fe_var _) fa_nil))))))
theorem f_are_rates : FF m_are_rates := ff_fun (fs_ret (fe_and (fe_call f_has_size (fa_cons (fe_var _) (fa_cons (fe_c fun _ => rfl) (fa_cons (fe_c fun _ => rfl) fa_nil)))) (fe_call ff_all (fa_cons (fe_lc (fi_any (fe_var _)) (fg_n _) ft_yes (fe_call f_is_rate (fa_cons (fe_var _) fa_nil))) fa_nil))))
theorem fl_behind_trip_0 : FS l_behind_trip_0 := (fs_set (fg_n _) (fe_call f_at_rate (fa_cons (fe_var _) (fa_cons (fe_var _) fa_nil))))
theorem f_behind_trip : FF m_behind_trip := ff_fun (fs_seq (fs_for (fi_any (fe_var _)) (fg_n _) fl_behind_trip_0) (fs_ret (fe_var _)))
theorem f_round_trip : FF m_round_trip := ff_fun (fs_seq (fs_drop (fe_call f_need (fa_cons (fe_call f_is_between (fa_cons (fe_var _) (fa_cons (fe_c fun _ => rfl) (fa_cons (fe_c fun _ => rfl) fa_nil)))) (fa_cons (fe_c fun _ => rfl) fa_nil)))) (fs_seq (fs_drop (fe_call f_need (fa_cons (fe_call f_are_rates (fa_cons (fe_var _) fa_nil)) (fa_cons (fe_c fun _ => rfl) fa_nil)))) (fs_ret (fe_call f_behind_trip (fa_cons (fe_var _) (fa_cons (fe_var _) fa_nil))))))
theorem f_is_sale : FF m_is_sale := ff_fun (fs_seq (fs_if (ft_not (ft_tru (fe_call f_is_row (fa_cons (fe_var _) (fa_cons (fe_c fun _ => rfl) fa_nil))))) (fs_ret (fe_c fun _ => rfl)) fs_next) (fs_ret (fe_and (fe_call f_is_between (fa_cons (fe_op fd_ix (fe_var _) (fe_c fun _ => rfl)) (fa_cons (fe_c fun _ => rfl) (fa_cons (fe_c fun _ => rfl) fa_nil)))) (fe_call f_is_between (fa_cons (fe_op fd_ix (fe_var _) (fe_c fun _ => rfl)) (fa_cons (fe_c fun _ => rfl) (fa_cons (fe_op fd_ix (fe_var _) (fe_c fun _ => rfl)) fa_nil)))))))
theorem f_are_sales : FF m_are_sales := ff_fun (fs_ret (fe_and (fe_call f_has_size (fa_cons (fe_var _) (fa_cons (fe_c fun _ => rfl) (fa_cons (fe_c fun _ => rfl) fa_nil)))) (fe_call ff_all (fa_cons (fe_lc (fi_any (fe_var _)) (fg_n _) ft_yes (fe_call f_is_sale (fa_cons (fe_var _) fa_nil))) fa_nil))))
theorem f_lowest : FF m_lowest := ff_fun (fs_seq (fs_set (fg_n _) (fe_call ff_gcd (fa_cons (fe_var _) (fa_cons (fe_var _) fa_nil)))) (fs_ret (fe_tup (fa_cons (fe_op fd_div (fe_var _) (fe_var _)) (fa_cons (fe_op fd_div (fe_var _) (fe_var _)) fa_nil)))))
theorem f_share_of : FF m_share_of := ff_fun (fs_seq (fs_drop (fe_call f_need (fa_cons (fe_call f_are_sales (fa_cons (fe_var _) fa_nil)) (fa_cons (fe_c fun _ => rfl) fa_nil)))) (fs_seq (fs_set (fg_n _) (fe_call ff_sum (fa_cons (fe_lc (fi_any (fe_var _)) (fg_n _) ft_yes (fe_op fd_ix (fe_var _) (fe_c fun _ => rfl))) fa_nil))) (fs_seq (fs_set (fg_n _) (fe_call ff_sum (fa_cons (fe_lc (fi_any (fe_var _)) (fg_n _) ft_yes (fe_op fd_ix (fe_var _) (fe_c fun _ => rfl))) fa_nil))) (fs_ret (fe_call f_lowest (fa_cons (fe_op fd_sub (fe_var _) (fe_var _)) (fa_cons (fe_var _) fa_nil)))))))
theorem f_owed_behind : FF m_owed_behind := ff_fun (fs_seq (fs_set (fg_n _) (fe_call ff_sum (fa_cons (fe_var _) fa_nil))) (fs_ret (fe_call ff_max (fa_cons (fe_c fun _ => rfl) (fa_cons (fe_op fd_sub (fe_op fd_sub (fe_var _) (fe_var _)) (fe_call f_earned_by (fa_cons (fe_var _) (fa_cons (fe_var _) (fa_cons (fe_var _) fa_nil))))) fa_nil)))))
theorem f_still_owed : FF m_still_owed := ff_fun (fs_seq (fs_drop (fe_call f_need_periods (fa_cons (fe_var _) (fa_cons (fe_var _) (fa_cons (fe_var _) fa_nil))))) (fs_ret (fe_call f_owed_behind (fa_cons (fe_var _) (fa_cons (fe_var _) (fa_cons (fe_var _) fa_nil))))))
theorem f_least_for : FF m_least_for := ff_fun (fs_ret (fe_un fu_neg (fe_call f_rounded_down (fa_cons (fe_op fd_mul (fe_un fu_neg (fe_var _)) (fe_op fd_ix (fe_var _) (fe_c fun _ => rfl))) (fa_cons (fe_op fd_ix (fe_var _) (fe_c fun _ => rfl)) fa_nil)))))
theorem fl_least_for_trip_0 : FS l_least_for_trip_0 := (fs_set (fg_n _) (fe_call f_least_for (fa_cons (fe_var _) (fa_cons (fe_var _) fa_nil))))
theorem f_least_for_trip : FF m_least_for_trip := ff_fun (fs_seq (fs_for (fi_rv (fe_var _)) (fg_n _) fl_least_for_trip_0) (fs_ret (fe_var _)))
theorem f_times : FF m_times := ff_fun (fs_ret (fe_call f_lowest (fa_cons (fe_op fd_mul (fe_op fd_ix (fe_var _) (fe_c fun _ => rfl)) (fe_op fd_ix (fe_var _) (fe_c fun _ => rfl))) (fa_cons (fe_op fd_mul (fe_op fd_ix (fe_var _) (fe_c fun _ => rfl)) (fe_op fd_ix (fe_var _) (fe_c fun _ => rfl))) fa_nil))))
theorem fl_rate_of_trip_0 : FS l_rate_of_trip_0 := (fs_set (fg_n _) (fe_call f_times (fa_cons (fe_var _) (fa_cons (fe_var _) fa_nil))))
theorem f_rate_of_trip : FF m_rate_of_trip := ff_fun (fs_seq (fs_set (fg_n _) (fe_tup (fa_cons (fe_c fun _ => rfl) (fa_cons (fe_c fun _ => rfl) fa_nil)))) (fs_seq (fs_for (fi_any (fe_var _)) (fg_n _) fl_rate_of_trip_0) (fs_ret (fe_var _))))
theorem fl_first_trip_gain_0 : FS l_first_trip_gain_0 := (fs_seq (fs_if (ft_isb (fe_op (fd_cmp _) (fe_call f_behind_trip (fa_cons (fe_var _) (fa_cons (fe_var _) fa_nil))) (fe_var _))) (fs_ret (fe_var _)) fs_next) (fs_set (fg_n _) (fe_call ff_max (fa_cons (fe_op fd_add (fe_var _) (fe_c fun _ => rfl)) (fa_cons (fe_call f_least_for_trip (fa_cons (fe_op fd_add (fe_var _) (fe_c fun _ => rfl)) (fa_cons (fe_var _) fa_nil))) fa_nil)))))
theorem f_first_trip_gain : FF m_first_trip_gain := ff_fun (fs_seq (fs_set (fg_t (fg_cons (fg_n _) (fg_cons (fg_n _) fg_nil))) (fe_call f_rate_of_trip (fa_cons (fe_var _) fa_nil))) (fs_seq (fs_if (ft_isb (fe_op (fd_cmp _) (fe_var _) (fe_var _))) (fs_ret (fe_c fun _ => rfl)) fs_next) (fs_seq (fs_set (fg_n _) (fe_c fun _ => rfl)) (fs_seq (fs_while (ft_isb (fe_op (fd_cmp _) (fe_var _) (fe_var _))) fl_first_trip_gain_0) (fs_ret (fe_c fun _ => rfl))))))
theorem f_trip_gains : FF m_trip_gains := ff_fun (fs_seq (fs_drop (fe_call f_need (fa_cons (fe_call f_are_rates (fa_cons (fe_var _) fa_nil)) (fa_cons (fe_c fun _ => rfl) fa_nil)))) (fs_seq (fs_drop (fe_call f_need (fa_cons (fe_call f_is_between (fa_cons (fe_var _) (fa_cons (fe_c fun _ => rfl) (fa_cons (fe_c fun _ => rfl) fa_nil)))) (fa_cons (fe_c fun _ => rfl) fa_nil)))) (fs_ret (fe_call f_first_trip_gain (fa_cons (fe_var _) (fa_cons (fe_var _) fa_nil))))))
theorem ft_law_13 : FS t_law_13 := (fs_set (fg_n _) (fe_if (ft_and (ft_isb (fe_op fd_is (fe_var _) (fe_c fun _ => rfl))) (ft_isb (fe_op (fd_cmp _) (fe_var _) (fe_var _)))) (fe_var _) (fe_var _)))
theorem fl_law_3 : FS l_law_3 := (fs_seq (fs_set (fg_n _) (fe_op fd_div (fe_op fd_mul (fe_op fd_div (fe_op fd_mul (fe_var _) (fe_op fd_ix (fe_var _) (fe_c fun _ => rfl))) (fe_op fd_ix (fe_var _) (fe_c fun _ => rfl))) (fe_op fd_ix (fe_var _) (fe_c fun _ => rfl))) (fe_op fd_ix (fe_var _) (fe_c fun _ => rfl)))) ft_law_13)
theorem ft_law_14 : FS t_law_14 := (fs_if (ft_isb (fe_op fd_isn (fe_call f_trip_gains (fa_cons (fe_tup (fa_cons (fe_var _) (fa_cons (fe_tup (fa_cons (fe_op fd_ix (fe_var _) (fe_c fun _ => rfl)) (fa_cons (fe_op fd_ix (fe_var _) (fe_c fun _ => rfl)) fa_nil))) fa_nil))) (fa_cons (fe_c fun _ => rfl) fa_nil))) (fe_c fun _ => rfl))) (fs_ret (fe_c fun _ => rfl)) fs_next)
theorem ft_law_12 : FS t_law_12 := (fs_seq (fs_if (ft_or (ft_not (ft_tru (fe_call (f__law_so 12) (fa_cons (fe_var _) (fa_cons (fe_var _) fa_nil))))) (ft_and (ft_isb (fe_op fd_isn (fe_var _) (fe_c fun _ => rfl))) (ft_not (ft_tru (fe_call f__law_less (fa_cons (fe_tup (fa_cons (fe_c fun _ => rfl) (fa_cons (fe_c fun _ => rfl) fa_nil))) (fa_cons (fe_var _) fa_nil))))))) (fs_ret (fe_c fun _ => rfl)) fs_next) ft_law_14)
theorem ft_law_11 : FS t_law_11 := (fs_seq (fs_for (fi_rg2 (fa_cons (fe_c fun _ => rfl) (fa_cons (fe_c fun _ => rfl) fa_nil))) (fg_n _) fl_law_3) ft_law_12)
theorem ft_law_10 : FS t_law_10 := (fs_seq (fs_set (fg_n _) (fe_c fun _ => rfl)) ft_law_11)
theorem ft_law_9 : FS t_law_9 := (fs_seq (fs_set (fg_n _) (fe_call f_trip_gains (fa_cons (fe_tup (fa_cons (fe_var _) (fa_cons (fe_var _) fa_nil))) (fa_cons (fe_c fun _ => rfl) fa_nil)))) ft_law_10)
theorem ft_law_8 : FS t_law_8 := (fs_seq (fs_set (fg_n _) (fe_call f__law_mul (fa_cons (fe_var _) (fa_cons (fe_var _) fa_nil)))) ft_law_9)
theorem fl_law_2 : FS l_law_2 := (fs_seq (fs_set (fg_n _) (fe_call (f__law_red 12) (fa_cons (fe_var _) (fa_cons (fe_op fd_add (fe_c fun _ => rfl) (fe_call f__law_take (fa_cons (fe_var _) (fa_cons (fe_var _) (fa_cons (fe_c fun _ => rfl) fa_nil))))) fa_nil)))) ft_law_8)
theorem fl_law_4 : FS l_law_4 := (fs_if (ft_or (ft_isb (fe_op (fd_cmp _) (fe_op fd_add (fe_call f_exchanged (fa_cons (fe_var _) (fa_cons (fe_var _) fa_nil))) (fe_call f_exchanged (fa_cons (fe_op fd_add (fe_var _) (fe_c fun _ => rfl)) (fa_cons (fe_var _) fa_nil)))) (fe_call f_exchanged (fa_cons (fe_op fd_add (fe_op fd_mul (fe_c fun _ => rfl) (fe_var _)) (fe_c fun _ => rfl)) (fa_cons (fe_var _) fa_nil))))) (ft_not (ft_tru (fe_call (f__law_so 12) (fa_cons (fe_call f_exchanged_nearest (fa_cons (fe_var _) (fa_cons (fe_var _) fa_nil))) (fa_cons (fe_op fd_div (fe_op fd_add (fe_op fd_mul (fe_op fd_mul (fe_c fun _ => rfl) (fe_var _)) (fe_op fd_ix (fe_var _) (fe_c fun _ => rfl))) (fe_op fd_ix (fe_var _) (fe_c fun _ => rfl))) (fe_op fd_mul (fe_c fun _ => rfl) (fe_op fd_ix (fe_var _) (fe_c fun _ => rfl)))) fa_nil)))))) (fs_ret (fe_c fun _ => rfl)) fs_next)
theorem fl_law_5 : FS l_law_5 := (fs_if (ft_not (ft_tru (fe_call (f__law_so 12) (fa_cons (fe_call f_most_by_parts (fa_cons (fe_var _) (fa_cons (fe_var _) fa_nil))) (fa_cons (fe_tup (fa_cons (fe_un fu_neg (fe_op fd_ix (fe_op fd_ix (fe_var _) (fe_var _)) (fe_c fun _ => rfl))) (fa_cons (fe_op fd_ix (fe_op fd_ix (fe_var _) (fe_var _)) (fe_c fun _ => rfl)) fa_nil))) fa_nil))))) (fs_ret (fe_c fun _ => rfl)) fs_next)
theorem ft_law_18 : FS t_law_18 := (fs_if (ft_not (ft_tru (fe_call (f__law_so 12) (fa_cons (fe_call f_parts_gain (fa_cons (fe_var _) (fa_cons (fe_c fun _ => rfl) fa_nil))) (fa_cons (fe_if (ft_isb (fe_op (fd_cmp _) (fe_call ff_len (fa_cons (fe_var _) fa_nil)) (fe_c fun _ => rfl))) (fe_op fd_ix (fe_var _) (fe_c fun _ => rfl)) (fe_c fun _ => rfl)) fa_nil))))) (fs_ret (fe_c fun _ => rfl)) fs_next)
theorem ft_law_17 : FS t_law_17 := (fs_seq (fs_set (fg_n _) (fe_lc (fi_rg2 (fa_cons (fe_c fun _ => rfl) (fa_cons (fe_c fun _ => rfl) fa_nil))) (fg_n _) (ft_isb (fe_op (fd_cmp _) (fe_un fu_neg (fe_op fd_ix (fe_op fd_ix (fe_var _) (fe_var _)) (fe_c fun _ => rfl))) (fe_call f__law_near (fa_cons (fe_var _) (fa_cons (fe_var _) fa_nil))))) (fe_var _))) ft_law_18)
theorem ft_law_16 : FS t_law_16 := (fs_seq (fs_for (fi_rg2 (fa_cons (fe_c fun _ => rfl) (fa_cons (fe_c fun _ => rfl) fa_nil))) (fg_n _) fl_law_5) ft_law_17)
theorem ft_law_15 : FS t_law_15 := (fs_seq (fs_set (fg_n _) (fe_call f__law_by_parts (fa_cons (fe_var _) (fa_cons (fe_c fun _ => rfl) fa_nil)))) ft_law_16)
theorem ft_law_7 : FS t_law_7 := (fs_seq (fs_for (fi_rg2 (fa_cons (fe_c fun _ => rfl) (fa_cons (fe_c fun _ => rfl) fa_nil))) (fg_n _) fl_law_4) ft_law_15)
theorem ft_law_6 : FS t_law_6 := (fs_seq (fs_for (fi_rg2 (fa_cons (fe_c fun _ => rfl) (fa_cons (fe_c fun _ => rfl) fa_nil))) (fg_n _) fl_law_2) ft_law_7)
theorem ft_law_5 : FS t_law_5 := (fs_if (ft_isb (fe_op fd_eq (fe_op fd_mod (fe_call ff_int (fa_cons (fe_var _) fa_nil)) (fe_c fun _ => rfl)) (fe_var _))) (fs_seq (fs_set (fg_n _) (fe_call (f__law_red 12) (fa_cons (fe_var _) (fa_cons (fe_var _) fa_nil)))) ft_law_6) fs_next)
theorem fl_law_1 : FS l_law_1 := (fs_seq (fs_set (fg_n _) (fe_op fd_add (fe_var _) (fe_c fun _ => rfl))) ft_law_5)
theorem fl_law_0 : FS l_law_0 := (fs_for (fi_rg2 (fa_cons (fe_c fun _ => rfl) (fa_cons (fe_c fun _ => rfl) fa_nil))) (fg_n _) fl_law_1)
theorem ft_law_28 : FS t_law_28 := (fs_if (ft_or (ft_isb (fe_op fd_ne (fe_sl (fe_var _) fo_none (fo_some (fe_var _))) (fe_sl (fe_var _) fo_none (fo_some (fe_var _))))) (ft_or (ft_isb (fe_op fd_ne (fe_op fd_add (fe_op fd_ix (fe_var _) (fe_var _)) (fe_op fd_ix (fe_var _) (fe_op fd_add (fe_var _) (fe_c fun _ => rfl)))) (fe_op fd_ix (fe_var _) (fe_var _)))) (ft_isb (fe_op fd_ne (fe_sl (fe_var _) (fo_some (fe_op fd_add (fe_var _) (fe_c fun _ => rfl))) fo_none) (fe_sl (fe_var _) (fo_some (fe_op fd_add (fe_var _) (fe_c fun _ => rfl))) fo_none))))) (fs_ret (fe_c fun _ => rfl)) fs_next)
theorem ft_law_27 : FS t_law_27 := (fs_seq (fs_set (fg_n _) (fe_call f_recognised (fa_cons (fe_var _) (fa_cons (fe_var _) (fa_cons (fe_op fd_add (fe_op fd_add (fe_sl (fe_var _) fo_none (fo_some (fe_var _))) (fe_tup (fa_cons (fe_var _) (fa_cons (fe_op fd_sub (fe_op fd_ix (fe_var _) (fe_var _)) (fe_var _)) fa_nil)))) (fe_sl (fe_var _) (fo_some (fe_op fd_add (fe_var _) (fe_c fun _ => rfl))) fo_none)) fa_nil))))) ft_law_28)
theorem ft_law_26 : FS t_law_26 := (fs_seq (fs_set (fg_n _) (fe_op fd_div (fe_op fd_ix (fe_var _) (fe_var _)) (fe_c fun _ => rfl))) ft_law_27)
theorem ft_law_25 : FS t_law_25 := (fs_seq (fs_if (ft_or (ft_isb (fe_op fd_ne (fe_var _) (fe_op fd_add (fe_op fd_add (fe_sl (fe_var _) fo_none (fo_some (fe_var _))) (fe_tup (fa_cons (fe_op fd_add (fe_op fd_ix (fe_var _) (fe_var _)) (fe_op fd_ix (fe_var _) (fe_op fd_add (fe_var _) (fe_c fun _ => rfl)))) fa_nil))) (fe_sl (fe_var _) (fo_some (fe_op fd_add (fe_var _) (fe_c fun _ => rfl))) fo_none)))) (ft_isb (fe_op fd_ne (fe_call f_still_owed (fa_cons (fe_var _) (fa_cons (fe_var _) (fa_cons (fe_var _) fa_nil)))) (fe_call f_still_owed (fa_cons (fe_var _) (fa_cons (fe_var _) (fa_cons (fe_var _) fa_nil))))))) (fs_ret (fe_c fun _ => rfl)) fs_next) ft_law_26)
theorem ft_law_24 : FS t_law_24 := (fs_seq (fs_set (fg_n _) (fe_call f_recognised (fa_cons (fe_var _) (fa_cons (fe_var _) (fa_cons (fe_var _) fa_nil))))) ft_law_25)
theorem fl_law_6 : FS l_law_6 := (fs_seq (fs_set (fg_n _) (fe_op fd_add (fe_op fd_add (fe_sl (fe_var _) fo_none (fo_some (fe_var _))) (fe_tup (fa_cons (fe_op fd_add (fe_op fd_ix (fe_var _) (fe_var _)) (fe_op fd_ix (fe_var _) (fe_op fd_add (fe_var _) (fe_c fun _ => rfl)))) fa_nil))) (fe_sl (fe_var _) (fo_some (fe_op fd_add (fe_var _) (fe_c fun _ => rfl))) fo_none))) ft_law_24)
theorem ft_law_29 : FS t_law_29 := (fs_ret (fe_and (fe_op fd_eq (fe_call f_share_of (fa_cons (fe_op fd_mul (fe_tup (fa_cons (fe_var _) fa_nil)) (fe_c fun _ => rfl)) fa_nil)) (fe_call f_share_of (fa_cons (fe_tup (fa_cons (fe_var _) fa_nil)) fa_nil))) (fe_op fd_eq (fe_call f_round_trip (fa_cons (fe_var _) (fa_cons (fe_tup fa_nil) fa_nil))) (fe_var _))))
theorem ft_law_23 : FS t_law_23 := (fs_seq (fs_set (fg_n _) (fe_tup (fa_cons (fe_var _) (fa_cons (fe_op fd_sub (fe_var _) (fe_call f__law_take (fa_cons (fe_var _) (fa_cons (fe_var _) (fa_cons (fe_op fd_add (fe_var _) (fe_c fun _ => rfl)) fa_nil))))) fa_nil)))) ft_law_29)
theorem ft_law_22 : FS t_law_22 := (fs_seq (fs_for (fi_rg1 (fa_cons (fe_c fun _ => rfl) fa_nil)) (fg_n _) fl_law_6) ft_law_23)
theorem ft_law_21 : FS t_law_21 := (fs_seq (fs_set (fg_n _) (fe_call f_recognised (fa_cons (fe_var _) (fa_cons (fe_var _) (fa_cons (fe_var _) fa_nil))))) ft_law_22)
theorem ft_law_20 : FS t_law_20 := (fs_seq (fs_set (fg_n _) (fe_call ff_tuple (fa_cons (fe_lc (fi_rg1 (fa_cons (fe_c fun _ => rfl) fa_nil)) (fg_n _) ft_yes (fe_call f__law_take (fa_cons (fe_var _) (fa_cons (fe_var _) (fa_cons (fe_c fun _ => rfl) fa_nil))))) fa_nil))) ft_law_21)
theorem ft_law_19 : FS t_law_19 := (fs_seq (fs_set (fg_n _) (fe_call (f__law_red 12) (fa_cons (fe_call f__law_take (fa_cons (fe_var _) (fa_cons (fe_var _) (fa_cons (fe_c fun _ => rfl) fa_nil)))) (fa_cons (fe_c fun _ => rfl) fa_nil)))) ft_law_20)
theorem ft_law_4 : FS t_law_4 := (fs_seq (fs_set (fg_n _) (fe_op fd_add (fe_c fun _ => rfl) (fe_call f__law_take (fa_cons (fe_var _) (fa_cons (fe_var _) (fa_cons (fe_c fun _ => rfl) fa_nil)))))) ft_law_19)
theorem ft_law_3 : FS t_law_3 := (fs_seq (fs_for (fi_rg2 (fa_cons (fe_c fun _ => rfl) (fa_cons (fe_c fun _ => rfl) fa_nil))) (fg_n _) fl_law_0) ft_law_4)
theorem ft_law_2 : FS t_law_2 := (fs_seq (fs_set (fg_n _) (fe_c fun _ => rfl)) ft_law_3)
theorem ft_law_1 : FS t_law_1 := (fs_seq (fs_set (fg_n _) (fe_call f__law_take (fa_cons (fe_var _) (fa_cons (fe_var _) (fa_cons (fe_c fun _ => rfl) fa_nil))))) ft_law_2)
theorem ft_law_0 : FS t_law_0 := (fs_seq (fs_set (fg_n _) (fe_lst (fa_cons (fe_c fun _ => rfl) fa_nil))) ft_law_1)
theorem f_law : FF m_law := ff_fun (fs_seq (fs_set (fg_n _) (fe_call f__law_numbers (fa_cons (fe_var _) fa_nil))) ft_law_0)
end Gw
end
section
set_option maxRecDepth 100000
set_option maxHeartbeats 2000000
namespace Gw
open PySem L2 Sim
local macro_rules | `(tactic| walk_at "ev") => `(tactic| simp (disch := first | omega | assumption) only [ev_fun, ev_seq, ev_next, ev_ret, ev_if, ev_drop, ev_set, ev_c, ev_op, ev_un, ev_call, ev_cons, ev_nil, ev_tru, ev_tnot, ev_tand, ev_tor, ev_ifx, ev_isi2, ev_tup, vd_tup0, vd_tup1, vd_tup2, vd_tup3, vd_tup4, vd_tup5,
  mVar, mAnd, mOr, mNot, mChain, isB, slots, fin, List.map_cons, List.map_nil, List.length_cons, List.length_nil, List.replicate, List.cons_append, List.nil_append, List.append_nil, List.set_cons_zero, List.set_cons_succ, List.getElem?_cons_zero, List.getElem?_cons_succ, Nat.reduceAdd, Nat.reduceSub, Nat.zero_add, Nat.sub_self,
  R.bind_ok, R.go_ok, F.then_nx, F.then_rt, gc_same, tyN, vd_add, vd_sub, vd_mul, vd_div, vd_mod, vd_pow, vd_neg, vd_eq, vd_ne, vd_lt, vd_le, vd_gt, vd_ge, vd_isn, vd_isi, vd_ist, vd_nisn, vd_nisi, vd_nist, vd_trub, vd_int, vd_abs, vd_max, vd_min, vd_gcd, vd_lenT, vd_tupleT, at_0, at_1, at_2, vd_ix0, vd_ix1, vd_ix2,
  if_true, if_false, Bool.false_eq_true, Bool.not_true, Bool.not_false, reduceIte, Int.reduceNeg])
/-! ### what every law has -/
theorem isi_int_int (i : Int) (g : Gp) : isiF [.int i, .ty "int"] g = .ok (.bl true) g := rfl
theorem isi_int_bool (i : Int) (g : Gp) : isiF [.int i, .ty "bool"] g = .ok (.bl false) g := rfl
theorem need_ok (i : Int) (g : Gp) : m_need [.bl true, .int i] g = .ok .non g := by
  unfold m_need; walk_at "ev"
theorem is_integer_int (i : Int) (g : Gp) : m_is_integer [.int i] g = .ok (.bl true) g := by
  unfold m_is_integer; walk_at "ev"; simp only [isi_int_int, isi_int_bool]; walk_at "ev"
theorem is_between_int (i a b : Int) (g : Gp) : m_is_between [.int i, .int a, .int b] g = .ok (.bl (decide (a ≤ i) && decide (i ≤ b))) g := by
  unfold m_is_between; walk_at "ev"; simp only [is_integer_int]; walk_at "ev"
  by_cases h : a ≤ i
  · simp only [h, decide_true, Bool.true_and]; walk_at "ev"
  · simp only [h, decide_false, Bool.false_and]; walk_at "ev"
theorem between_ok (i a b : Int) (g : Gp) (h1 : a ≤ i) (h2 : i ≤ b) : m_is_between [.int i, .int a, .int b] g = .ok (.bl true) g := by
  rw [is_between_int, decide_eq_true h1, decide_eq_true h2]; rfl
theorem is_sequence_tup (ds : List D) (g : Gp) : m_is_sequence [.tup ds] g = .ok (.bl true) g := by
  unfold m_is_sequence; walk_at "ev"; rfl
theorem has_size_tup (ds : List D) (a b : Int) (g : Gp) (h1 : a ≤ ds.length) (h2 : (ds.length : Int) ≤ b) : m_has_size [.tup ds, .int a, .int b] g = .ok (.bl true) g := by
  unfold m_has_size; walk_at "ev"; simp only [is_sequence_tup]; walk_at "ev"; simp only [h1, h2, decide_true]; walk_at "ev"
theorem is_row_tup (ds : List D) (a : Int) (g : Gp) (h1 : (ds.length : Int) = a) : m_is_row [.tup ds, .int a] g = .ok (.bl true) g := by
  unfold m_is_row; walk_at "ev"; simp only [is_sequence_tup]; walk_at "ev"; simp only [h1, decide_true]
/-! ### draws -/
/-- the row and the spot stand at r and q -/
def Dr (g : Gp) (r q : Nat) : Prop := ∃ (row : List Int) (n : Int), row ≠ [] ∧ row.length ≤ 100000 ∧ g[r]? = some (.lst (row.map D.int)) ∧ g[q]? = some (.lst [.int n]) ∧ 0 ≤ n ∧ r ≠ q
/-- only what stands at q is another -/
def Upd (q : Nat) (g g' : Gp) : Prop := g'.length = g.length ∧ ∀ j, j ≠ q → g'[j]? = g[j]?
theorem Upd.refl (q : Nat) (g : Gp) : Upd q g g := ⟨rfl, fun _ _ => rfl⟩
theorem Upd.trans {q : Nat} {a b c : Gp} (h : Upd q a b) (h' : Upd q b c) : Upd q a c := ⟨h'.1.trans h.1, fun j e => (h'.2 j e).trans (h.2 j e)⟩
theorem Upd.set (q : Nat) (g : Gp) (o : O) : Upd q g (g.set q o) := ⟨by simp, fun j e => by rw [List.getElem?_set_ne (Ne.symm e)]⟩
theorem row_at {row : List Int} {i : Int} (h0 : 0 ≤ i) (h1 : i < row.length) : ∃ x, atI (row.map D.int) i = some (.int x) := by
  have hn : i.toNat < row.length := by omega
  exact ⟨row[i.toNat], at_get h0 (by rw [List.getElem?_map, List.getElem?_eq_getElem hn]; rfl)⟩
theorem draw_ok {g : Gp} {r : Nat} {row : List Int} {n lim : Int} (hr : g[r]? = some (.lst (row.map D.int))) (hne : row ≠ []) (h0 : 0 ≤ n) (hl : 0 < lim) :
    ∃ v, m__law_draw [.ref r, .int n, .int lim] g = .ok (.int v) g ∧ 0 ≤ v ∧ v < lim := by
  have hlen : 0 < row.length := List.length_pos_iff.mpr hne
  have e1 := vd_lenL g hr
  rw [List.length_map] at e1
  unfold m__law_draw
  by_cases h : n < row.length
  · obtain ⟨x, hx⟩ := row_at (row := row) h0 h
    refine ⟨x % lim, ?_, Int.emod_nonneg _ (by omega), Int.emod_lt_of_pos _ hl⟩
    walk_at "ev"; simp only [e1]; walk_at "ev"; simp only [h, decide_true]; walk_at "ev"; rw [vd_ixL _ _ hr hx]; walk_at "ev"
  · have hm0 : 0 ≤ n % (row.length : Int) := Int.emod_nonneg _ (by omega)
    have hm1 : n % (row.length : Int) < row.length := Int.emod_lt_of_pos _ (by omega)
    obtain ⟨x, hx⟩ := row_at (row := row) hm0 hm1
    refine ⟨(((x * 40692 + n * 7919 + 3) % 2147483399) * 48271 + n) % 2147483647 % lim, ?_, Int.emod_nonneg _ (by omega), Int.emod_lt_of_pos _ hl⟩
    walk_at "ev"; simp only [e1]; walk_at "ev"; simp only [h, decide_false]; walk_at "ev"; simp only [e1]; walk_at "ev"; rw [vd_ixL _ _ hr hx]; walk_at "ev"
theorem take_ok {g : Gp} {r q : Nat} {lim : Int} (h : Dr g r q) (hl : 0 < lim) : ∃ v g', m__law_take [.ref r, .ref q, .int lim] g = .ok (.int v) g' ∧ 0 ≤ v ∧ v < lim ∧ Dr g' r q ∧ Upd q g g' := by
  obtain ⟨row, n, h1, h2, h3, h4, h5, h6⟩ := h
  have hq : q < g.length := (List.getElem?_eq_some_iff.mp h4).1
  have h3' : (g.set q (.lst [.int (n + 1)]))[r]? = some (.lst (row.map D.int)) := by rw [List.getElem?_set_ne (Ne.symm h6)]; exact h3
  have h4' : (g.set q (.lst [.int (n + 1)]))[q]? = some (.lst [.int (n + 1)]) := List.getElem?_set_self hq
  obtain ⟨v, e1, e2, e3⟩ := draw_ok (g := g.set q (.lst [.int (n + 1)])) (lim := lim) h3' h1 h5 hl
  refine ⟨v, g.set q (.lst [.int (n + 1)]), ?_, e2, e3, ⟨row, n + 1, h1, h2, h3', h4', by omega, h6⟩, Upd.set q g _⟩
  unfold m__law_take
  have hix : ixD (.ref q) (.int 0) g = .ok (.int n) g := vd_ixL _ _ h4 (at_0 _ _)
  have hix' : ixD (.ref q) (.int 0) (g.set q (.lst [.int (n + 1)])) = .ok (.int (n + 1)) (g.set q (.lst [.int (n + 1)])) := vd_ixL _ _ h4' (at_0 _ _)
  have hset : setLD (.ref q) (.int 0) (.int (n + 1)) g = some (g.set q (.lst [.int (n + 1)])) := by
    simp only [setLD, h4]
    rfl
  have e : n + 1 - 1 = n := by omega
  rw [ev_fun]
  have : (sSeq (sPut setLD (mVar 1) (mC (.int 0)) (mOp addD (mOp ixD (mVar 1) (mC (.int 0))) (mC (.int 1)))) (sRet (mCall m__law_draw (mCons (mVar 0) (mCons (mOp subD (mOp ixD (mVar 1) (mC (.int 0))) (mC (.int 1))) (mCons (mVar 2) mNil)))))) (slots 3 [.ref r, .ref q, .int lim]) g = .rt (.int v) (g.set q (.lst [.int (n + 1)])) := by
    unfold sPut
    walk_at "ev"; simp only [hix]; walk_at "ev"; simp only [hset]; walk_at "ev"; simp only [hix']; walk_at "ev"; rw [e, e1]; walk_at "ev"
  rw [this]
  exact gc_set h4 (by intro z; injection z with z; injection z with z; injection z with z; omega)
/-! ### the numbers of the script -/
theorem slice_len (ds : List D) (lo hi : Option Int) : (cutD ds lo hi).length ≤ ds.length := by
  unfold cutD; rw [List.length_take, List.length_drop]; omega
/-- ints alone -/
theorem ints_cut (ns : List Int) (lo hi : Option Int) : ∃ ms : List Int, cutD (ns.map D.int) lo hi = ms.map D.int ∧ ms.length ≤ ns.length := by
  refine ⟨(ns.drop (HT.sIx ns.length 0 lo)).take (HT.sIx ns.length ns.length hi - HT.sIx ns.length 0 lo), ?_, ?_⟩
  · unfold cutD; rw [List.length_map, List.map_take, List.map_drop]
  · rw [List.length_take, List.length_drop]; omega
theorem append_ok {g : Gp} {r : Nat} {xs : List D} {x : D} (h : g[r]? = some (.lst xs)) (hz : xs.length < 1000000) : appendM (.ref r) [x] g = .ok .non (g.set r (.lst (xs ++ [x]))) := by
  simp only [appendM, h, if_pos hz]
theorem ev_meL {f : D → MF} {o : ME} {a : MA} {s : Sl} {g g1 : Gp} {r : Nat} {xs : List D} (ho : o s g = .ok (.ref r) g1) (h : g1[r]? = some (.lst xs)) : mMeL f o a s g = (a s g1).bind fun ys g2 => f (.ref r) ys g2 := by
  unfold mMeL; rw [ho, R.bind_ok]; simp only [h]
theorem num_big (ns ms row : List Int) (g : Gp) (v : Int) (i : Nat) (hib : i < 63) (h1 : row.length ≤ 60 * i) (x3 x4 x5 : Option D) : ∃ s2 g2, (sFor (iRg1 (mCons (mC (.int 60)) (mNil))) (gN 4) (sSeq (sIf (isB (mOp eqD (mVar 3) (mC (.int 0)))) (sBreak) (sNext)) (sSeq (sDrop (mMeL appendM (mVar 1) (mCons (mOp modD (mCall intF (mCons (mVar 3) (mNil))) (mC (.int 997))) (mNil)))) (sSet (gN 3) (mOp divD (mVar 3) (mC (.int 997))))))) [some (.rom (ns.map D.int)), some (.ref g.length), some (.int v), some (.int v), x4, x5] (g ++ [.lst (row.map D.int), .lst (ms.map D.int)]) = .nx s2 g2 ∧
              ∃ (row' : List Int) (y2 y3 y4 y5 : Option D), row'.length ≤ 60 * (i + 1) ∧ g2 = g ++ [.lst (row'.map D.int), .lst (ms.map D.int)] ∧ s2 = [some (.rom (ns.map D.int)), some (.ref g.length), y2, y3, y4, y5] := by
    have hset : ∀ (row' : List Int) (y : Int), (g ++ [O.lst (row'.map D.int), .lst (ms.map D.int)]).set g.length (.lst (row'.map D.int ++ [.int y])) = g ++ [O.lst ((row' ++ [y]).map D.int), .lst (ms.map D.int)] := fun row' y => by
      rw [set_app0, List.map_append]; rfl
    have hget : ∀ (row' : List Int), (g ++ [O.lst (row'.map D.int), .lst (ms.map D.int)])[g.length]? = some (.lst (row'.map D.int)) := fun row' => get_app0 _ _

    unfold sFor
    rw [i_rg1 (j := 60) rfl (by omega), R.go_ok]
    refine for_rngB0 (P := fun j s g' => ∃ (row' : List Int) (z : Int) (y2 y4 y5 : Option D), row'.length ≤ 60 * i + j ∧ g' = g ++ [.lst (row'.map D.int), .lst (ms.map D.int)] ∧ s = [some (.rom (ns.map D.int)), some (.ref g.length), y2, some (.int z), y4, y5])
      (Q := fun s2 g2 => ∃ (row' : List Int) (y2 y3 y4 y5 : Option D), row'.length ≤ 60 * (i + 1) ∧ g2 = g ++ [.lst (row'.map D.int), .lst (ms.map D.int)] ∧ s2 = [some (.rom (ns.map D.int)), some (.ref g.length), y2, y3, y4, y5])
      ⟨row, v, _, _, _, by omega, rfl, rfl⟩ (fun j s g' hj ⟨row', z, y2, y4, y5, q1, q2, q3⟩ => ?_) (fun s g' ⟨row', z, y2, y4, y5, q1, q2, q3⟩ => ⟨row', y2, some (.int z), y4, y5, by have : (60 : Int).toNat = 60 := rfl; omega, q2, q3⟩)
    subst q2 q3
    have hj' : j < 60 := hj
    refine ⟨_, rfl, ?_⟩
    by_cases hz : z = 0
    · refine .inr ⟨[some (.rom (ns.map D.int)), some (.ref g.length), y2, some (.int z), some (.int (0 + j)), y5], g ++ [.lst (row'.map D.int), .lst (ms.map D.int)], ?_, row', _, _, _, _, by omega, rfl, rfl⟩
      walk_at "ev"; simp only [hz, decide_true]; rfl
    · refine .inl ⟨[some (.rom (ns.map D.int)), some (.ref g.length), y2, some (.int (z / 997)), some (.int (0 + j)), y5], g ++ [.lst ((row' ++ [z % 997]).map D.int), .lst (ms.map D.int)], .inl ?_, row' ++ [z % 997], z / 997, _, _, _, by rw [List.length_append]; simp only [List.length_cons, List.length_nil]; omega, rfl, rfl⟩
      walk_at "ev"; simp only [hz, decide_false]; walk_at "ev"
      rw [ev_meL (r := g.length) (xs := row'.map D.int) rfl (hget row')]
      walk_at "ev"
      rw [append_ok (hget row') (by rw [List.length_map]; omega), hset]
      walk_at "ev"

theorem num_u2 (v j : Int) (g : Gp) (x0 x1 x3 x5 : Option D) : sSet (gN 5) (mOp modD (mCall intF (mCons (mOp addD (mOp addD (mOp mulD (mVar 2) (mC (.int 48271))) (mOp mulD (mVar 4) (mC (.int 69621)))) (mC (.int 11))) (mNil))) (mC (.int 2147483647))) [x0, x1, some (.int v), x3, some (.int j), x5] g = .nx [x0, x1, some (.int v), x3, some (.int j), some (.int ((v * 48271 + j * 69621 + 11) % 2147483647))] g := by
  walk_at "ev"
theorem num_u4 (v j : Int) (g : Gp) (x0 x1 x3 x5 : Option D) : mCons (mOp modD (mCall intF (mCons (mOp addD (mOp mulD (mVar 5) (mC (.int 16807))) (mVar 4)) (mNil))) (mC (.int 2147483629))) (mNil) [x0, x1, some (.int v), x3, some (.int j), some (.int ((v * 48271 + j * 69621 + 11) % 2147483647))] g = .ok [.int (((v * 48271 + j * 69621 + 11) % 2147483647 * 16807 + j) % 2147483629)] g := by
  walk_at "ev"
theorem num_small (ns ms row : List Int) (g : Gp) (v : Int) (i : Nat) (hib : i < 63) (h1 : row.length ≤ 60 * i) (x3 x4 x5 : Option D) : ∃ s2 g2, (sFor (iRg1 (mCons (mC (.int 4)) (mNil))) (gN 4) (sSeq (sSet (gN 5) (mOp modD (mCall intF (mCons (mOp addD (mOp addD (mOp mulD (mVar 2) (mC (.int 48271))) (mOp mulD (mVar 4) (mC (.int 69621)))) (mC (.int 11))) (mNil))) (mC (.int 2147483647)))) (sDrop (mMeL appendM (mVar 1) (mCons (mOp modD (mCall intF (mCons (mOp addD (mOp mulD (mVar 5) (mC (.int 16807))) (mVar 4)) (mNil))) (mC (.int 2147483629))) (mNil)))))) [some (.rom (ns.map D.int)), some (.ref g.length), some (.int v), x3, x4, x5] (g ++ [.lst (row.map D.int), .lst (ms.map D.int)]) = .nx s2 g2 ∧
              ∃ (row' : List Int) (y2 y3 y4 y5 : Option D), row'.length ≤ 60 * (i + 1) ∧ g2 = g ++ [.lst (row'.map D.int), .lst (ms.map D.int)] ∧ s2 = [some (.rom (ns.map D.int)), some (.ref g.length), y2, y3, y4, y5] := by
    have hset : ∀ (row' : List Int) (y : Int), (g ++ [O.lst (row'.map D.int), .lst (ms.map D.int)]).set g.length (.lst (row'.map D.int ++ [.int y])) = g ++ [O.lst ((row' ++ [y]).map D.int), .lst (ms.map D.int)] := fun row' y => by
      rw [set_app0, List.map_append]; rfl
    have hget : ∀ (row' : List Int), (g ++ [O.lst (row'.map D.int), .lst (ms.map D.int)])[g.length]? = some (.lst (row'.map D.int)) := fun row' => get_app0 _ _

    unfold sFor
    rw [i_rg1 (j := 4) rfl (by omega), R.go_ok]
    obtain ⟨s2, g2, q1, row', y3, y4, y5, q2, q3, q4⟩ := for_rng0 (tg := gN 4) (lo := 0) (n := (4 : Int).toNat) (b := sSeq (sSet (gN 5) (mOp modD (mCall intF (mCons (mOp addD (mOp addD (mOp mulD (mVar 2) (mC (.int 48271))) (mOp mulD (mVar 4) (mC (.int 69621)))) (mC (.int 11))) (mNil))) (mC (.int 2147483647)))) (sDrop (mMeL appendM (mVar 1) (mCons (mOp modD (mCall intF (mCons (mOp addD (mOp mulD (mVar 5) (mC (.int 16807))) (mVar 4)) (mNil))) (mC (.int 2147483629))) (mNil)))))
      (P := fun j s g' => ∃ (row' : List Int) (y3 y4 y5 : Option D), row'.length ≤ 60 * i + j ∧ g' = g ++ [.lst (row'.map D.int), .lst (ms.map D.int)] ∧ s = [some (.rom (ns.map D.int)), some (.ref g.length), some (.int v), y3, y4, y5])
      (s := [some (.rom (ns.map D.int)), some (.ref g.length), some (.int v), x3, x4, x5]) (g := g ++ [.lst (row.map D.int), .lst (ms.map D.int)]) ⟨row, _, _, _, by omega, rfl, rfl⟩ (fun j s g' hj ⟨row', y3, y4, y5, q1, q2, q3⟩ => by
        subst q2 q3
        have hj' : j < 4 := hj
        refine ⟨_, [some (.rom (ns.map D.int)), some (.ref g.length), some (.int v), y3, some (.int (0 + j)), some (.int ((v * 48271 + (0 + j) * 69621 + 11) % 2147483647))], g ++ [.lst ((row' ++ [((v * 48271 + (0 + (j : Int)) * 69621 + 11) % 2147483647 * 16807 + (0 + j)) % 2147483629]).map D.int), .lst (ms.map D.int)], rfl, .inl ?_, _, _, _, _, ?_, rfl, rfl⟩
        · rw [ev_seq]
          refine (congrArg (fun f => F.then f _) (num_u2 v (0 + j) _ _ _ _ y5)).trans ?_
          rw [F.then_nx, ev_drop, ev_meL (r := g.length) (xs := row'.map D.int) rfl (hget row'), num_u4 (x5 := none), R.bind_ok, append_ok (hget row') (by rw [List.length_map]; omega), hset, R.go_ok]
        · rw [List.length_append]; simp only [List.length_cons, List.length_nil]; omega)
    exact ⟨s2, g2, q1, row', _, y3, y4, y5, by have : (4 : Int).toNat = 4 := rfl; omega, q3, q4⟩

theorem numbers_ok (ns : List Int) (hn : ns.length ≤ 63) (g : Gp) : ∃ row : List Int, row ≠ [] ∧ row.length ≤ 100000 ∧ m__law_numbers [.rom (ns.map D.int)] g = .ok (.ref g.length) (g ++ [.lst (row.map D.int)]) := by
  obtain ⟨ms, hms, hl⟩ := ints_cut ns none (some 63)
  unfold m__law_numbers l__law_numbers_0 l__law_numbers_1 l__law_numbers_2
  rw [ev_fun]
  rw [ev_seq, ev_set]
  have e1 : mLst mNil (slots 6 [.rom (ns.map D.int)]) g = .ok (.ref g.length) (g ++ [.lst []]) := rfl
  rw [e1]
  simp only [R.go_ok, F.then_nx]
  rw [ev_seq]
  -- the loop over the items
  have key : ∃ s' g', (sFor (iAny (mSl (mVar 0) (oNone) (oSome (mC (.int 63))))) (gN 2) (sIf (isB (mOp (cmpD .GtE) (mVar 2) (mOp powD (mC (.int 10)) (mC (.int 18))))) (sSeq (sSet (gN 3) (mVar 2)) (sFor (iRg1 (mCons (mC (.int 60)) (mNil))) (gN 4) (sSeq (sIf (isB (mOp eqD (mVar 3) (mC (.int 0)))) (sBreak) (sNext)) (sSeq (sDrop (mMeL appendM (mVar 1) (mCons (mOp modD (mCall intF (mCons (mVar 3) (mNil))) (mC (.int 997))) (mNil)))) (sSet (gN 3) (mOp divD (mVar 3) (mC (.int 997)))))))) (sFor (iRg1 (mCons (mC (.int 4)) (mNil))) (gN 4) (sSeq (sSet (gN 5) (mOp modD (mCall intF (mCons (mOp addD (mOp addD (mOp mulD (mVar 2) (mC (.int 48271))) (mOp mulD (mVar 4) (mC (.int 69621)))) (mC (.int 11))) (mNil))) (mC (.int 2147483647)))) (sDrop (mMeL appendM (mVar 1) (mCons (mOp modD (mCall intF (mCons (mOp addD (mOp mulD (mVar 5) (mC (.int 16807))) (mVar 4)) (mNil))) (mC (.int 2147483629))) (mNil)))))))) ((slots 6 [.rom (ns.map D.int)]).set 1 (some (.ref g.length))) (g ++ [.lst []]) = .nx s' g' ∧
      ∃ (row : List Int) (x2 x3 x4 x5 : Option D), row.length ≤ 60 * 63 ∧ g' = g ++ [.lst (row.map D.int), .lst (ms.map D.int)] ∧ s' = [some (.rom (ns.map D.int)), some (.ref g.length), x2, x3, x4, x5] := by
    have hi : iAny (mSl (mVar 0) (oNone) (oSome (mC (.int 63)))) ((slots 6 [.rom (ns.map D.int)]).set 1 (some (.ref g.length))) (g ++ [.lst []]) = .ok (.lst (g.length + 1)) (g ++ [.lst [], .lst (ms.map D.int)]) := by
      refine i_any_lst (ds := ms.map D.int) ?_ (get_appR _ _ 1)
      have : mSl (mVar 0) (oNone) (oSome (mC (.int 63))) ((slots 6 [.rom (ns.map D.int)]).set 1 (some (.ref g.length))) (g ++ [.lst []]) = .ok (.ref (g ++ [O.lst []]).length) (g ++ [.lst []] ++ [.lst (cutD (ns.map D.int) none (some 63))]) := rfl
      rw [this, hms, List.length_append, List.append_assoc]
      rfl
    unfold sFor
    rw [hi, R.go_ok]
    obtain ⟨s', g', h1, h2⟩ := for_lst0 (r := g.length + 1) (ds := ms.map D.int) (tg := gN 2)
      (b := sIf (isB (mOp (cmpD .GtE) (mVar 2) (mOp powD (mC (.int 10)) (mC (.int 18))))) (sSeq (sSet (gN 3) (mVar 2)) (sFor (iRg1 (mCons (mC (.int 60)) (mNil))) (gN 4) (sSeq (sIf (isB (mOp eqD (mVar 3) (mC (.int 0)))) (sBreak) (sNext)) (sSeq (sDrop (mMeL appendM (mVar 1) (mCons (mOp modD (mCall intF (mCons (mVar 3) (mNil))) (mC (.int 997))) (mNil)))) (sSet (gN 3) (mOp divD (mVar 3) (mC (.int 997)))))))) (sFor (iRg1 (mCons (mC (.int 4)) (mNil))) (gN 4) (sSeq (sSet (gN 5) (mOp modD (mCall intF (mCons (mOp addD (mOp addD (mOp mulD (mVar 2) (mC (.int 48271))) (mOp mulD (mVar 4) (mC (.int 69621)))) (mC (.int 11))) (mNil))) (mC (.int 2147483647)))) (sDrop (mMeL appendM (mVar 1) (mCons (mOp modD (mCall intF (mCons (mOp addD (mOp mulD (mVar 5) (mC (.int 16807))) (mVar 4)) (mNil))) (mC (.int 2147483629))) (mNil)))))))
      (P := fun i s g' => ∃ (row : List Int) (x2 x3 x4 x5 : Option D), row.length ≤ 60 * i ∧ g' = g ++ [.lst (row.map D.int), .lst (ms.map D.int)] ∧ s = [some (.rom (ns.map D.int)), some (.ref g.length), x2, x3, x4, x5])
      (s := (slots 6 [.rom (ns.map D.int)]).set 1 (some (.ref g.length))) (g := g ++ [.lst [], .lst (ms.map D.int)]) ⟨[], none, none, none, none, by simp, rfl, rfl⟩ (fun i s g' ⟨row, x2, x3, x4, x5, h1, h2, h3⟩ => by
        subst h2; exact get_appR _ _ 1) (fun i d s g' hd ⟨row, x2, x3, x4, x5, h1, h2, h3⟩ => by
        subst h2 h3
        have hib : i < 63 := by
          have := (List.getElem?_eq_some_iff.mp hd).1
          rw [List.length_map] at this; omega
        rw [List.getElem?_map] at hd
        obtain ⟨v, hv, rfl⟩ := Option.map_eq_some_iff.mp hd
        have hset : ∀ (row' : List Int) (y : Int), (g ++ [O.lst (row'.map D.int), .lst (ms.map D.int)]).set g.length (.lst (row'.map D.int ++ [.int y])) = g ++ [O.lst ((row' ++ [y]).map D.int), .lst (ms.map D.int)] := fun row' y => by
          rw [set_app0, List.map_append]; rfl
        have hget : ∀ (row' : List Int), (g ++ [O.lst (row'.map D.int), .lst (ms.map D.int)])[g.length]? = some (.lst (row'.map D.int)) := fun row' => get_app0 _ _
        by_cases hbig : (10 : Int) ^ 18 ≤ v
        · -- the figures of a great number
          have hin := num_big ns ms row g v i hib h1 x3 x4 x5
          obtain ⟨s2, g2, h4, row', y2, y3, y4, y5, h5, h6, h7⟩ := hin
          refine ⟨_, s2, g2, rfl, .inl ?_, row', y2, y3, y4, y5, h5, h6, h7⟩
          have h18 : (18 : Int).toNat = 18 := rfl
          walk_at "ev"; simp only [h18, hbig, decide_true]; walk_at "ev"
          exact h4
        · have hin := num_small ns ms row g v i hib h1 x3 x4 x5
          obtain ⟨s2, g2, h4, row', y2, y3, y4, y5, h5, h6, h7⟩ := hin
          refine ⟨_, s2, g2, rfl, .inl ?_, row', y2, y3, y4, y5, h5, h6, h7⟩
          have h18 : (18 : Int).toNat = 18 := rfl
          walk_at "ev"; simp only [h18, hbig, decide_false]; walk_at "ev"
          exact h4)
    obtain ⟨row, x2, x3, x4, x5, h3, h4, h5⟩ := h2
    exact ⟨s', g', h1, row, x2, x3, x4, x5, by rw [List.length_map] at h3; omega, h4, h5⟩
  obtain ⟨s', g', h1, row, x2, x3, x4, x5, h2, h3, h4⟩ := key
  rw [h1, F.then_nx, h3, h4]
  have hget : (g ++ [O.lst (row.map D.int), .lst (ms.map D.int)])[g.length]? = some (.lst (row.map D.int)) := get_app0 _ _
  by_cases hrow : row = []
  · refine ⟨[0], by simp, by simp, ?_⟩
    subst hrow
    have : (g ++ [O.lst [], .lst (ms.map D.int)]).set g.length (.lst ([] ++ [.int 0])) = g ++ [.lst [.int 0], .lst (ms.map D.int)] := by rw [set_app0]; rfl
    have hget : (g ++ [O.lst [], .lst (ms.map D.int)])[g.length]? = some (.lst []) := get_app0 _ _
    walk_at "ev"; rw [vd_lenL _ hget]; walk_at "ev"
    simp only [List.length_nil, Int.ofNat_zero, Int.natCast_zero, decide_true]; walk_at "ev"
    rw [ev_meL (r := g.length) (xs := []) rfl hget]
    walk_at "ev"
    rw [append_ok hget (by simp), this]
    walk_at "ev"
    exact gc_lst0 g _ 0 _ rfl (unders_ints _ [0])
  · refine ⟨row, hrow, by omega, ?_⟩
    have hl0 : ¬ ((row.map D.int).length : Int) = 0 := by
      rw [List.length_map]
      have := List.length_pos_iff.mpr hrow
      omega
    walk_at "ev"; rw [vd_lenL _ hget]; walk_at "ev"
    simp only [hl0, decide_false]; walk_at "ev"
    exact gc_lst0 g _ 0 _ rfl (unders_ints _ row)
/-! ### rates -/
def rt (a b : Int) : D := .tup [.int a, .int b]
/-- a rate as the code holds it -/
structure Rt (a b : Int) : Prop where
  a0 : 0 < a
  b0 : 0 < b
  a1 : a ≤ 1000
  b1 : b ≤ 1000
  co : Nat.gcd a.natAbs b.natAbs = 1
theorem is_fraction_ok {a b : Int} (h : Rt a b) (g : Gp) : m_is_fraction [rt a b] g = .ok (.bl true) g := by
  have h1 := h.a0; have h2 := h.b0; have h3 := h.a1; have h4 := h.b1
  unfold m_is_fraction rt
  walk_at "ev"; rw [is_row_tup [.int a, .int b] 2 g rfl]; walk_at "ev"
  rw [between_ok _ _ _ _ (by omega) (by omega)]; walk_at "ev"
  rw [between_ok _ _ _ _ (by omega) (by omega)]; walk_at "ev"
  rw [h.co]; rfl
theorem is_rate_ok {a b : Int} (h : Rt a b) (g : Gp) : m_is_rate [rt a b] g = .ok (.bl true) g := by
  have h1 := h.a0; have h2 := h.b0; have h3 := h.a1; have h4 := h.b1
  unfold m_is_rate
  walk_at "ev"; rw [is_fraction_ok h]; unfold rt; walk_at "ev"
  have e1 : 0 < a := h1
  have e2 : a ≤ 1000 * b := by omega
  simp only [e1, e2, decide_true]; walk_at "ev"
theorem rounded_down_ok {n d : Int} (h : 0 < d ∧ d < 1073741824) (g : Gp) : m_rounded_down [.int n, .int d] g = .ok (.int (n / d)) g := by
  unfold m_rounded_down; walk_at "ev"
theorem at_rate_ok {a b : Int} (h : Rt a b) (p : Int) (g : Gp) : m_at_rate [.int p, rt a b] g = .ok (.int (p * a / b)) g := by
  have h1 := h.a0; have h2 := h.b0; have h3 := h.a1; have h4 := h.b1
  unfold m_at_rate rt
  walk_at "ev"; rw [rounded_down_ok (by omega)]; walk_at "ev"
theorem nearest_ok {n d : Int} (h : 0 < d ∧ d < 536870912) (g : Gp) : m_rounded_nearest [.int n, .int d] g = .ok (.int ((2 * n + d) / (2 * d))) g := by
  unfold m_rounded_nearest; walk_at "ev"
theorem nearest_at_ok {a b : Int} (h : Rt a b) (p : Int) (g : Gp) : m_nearest_at_rate [.int p, rt a b] g = .ok (.int ((2 * (p * a) + b) / (2 * b))) g := by
  have h1 := h.a0; have h2 := h.b0; have h3 := h.a1; have h4 := h.b1
  unfold m_nearest_at_rate rt
  walk_at "ev"; rw [nearest_ok (by omega)]; walk_at "ev"
theorem exchanged_ok {a b : Int} (h : Rt a b) {p : Int} (hp : 0 ≤ p ∧ p ≤ 1000000) (g : Gp) : m_exchanged [.int p, rt a b] g = .ok (.int (p * a / b)) g := by
  unfold m_exchanged
  walk_at "ev"; rw [between_ok _ _ _ _ (by omega) (by omega)]; walk_at "ev"; rw [need_ok]; walk_at "ev"
  rw [is_rate_ok h]; walk_at "ev"; rw [need_ok]; walk_at "ev"; rw [at_rate_ok h]; walk_at "ev"
theorem exchanged_near_ok {a b : Int} (h : Rt a b) {p : Int} (hp : 0 ≤ p ∧ p ≤ 1000000) (g : Gp) : m_exchanged_nearest [.int p, rt a b] g = .ok (.int ((2 * (p * a) + b) / (2 * b))) g := by
  unfold m_exchanged_nearest
  walk_at "ev"; rw [between_ok _ _ _ _ (by omega) (by omega)]; walk_at "ev"; rw [need_ok]; walk_at "ev"
  rw [is_rate_ok h]; walk_at "ev"; rw [need_ok]; walk_at "ev"; rw [nearest_at_ok h]; walk_at "ev"
/-! ### the law's comparing -/
theorem isi_int_tup (i : Int) (g : Gp) : isiF [.int i, .ty "tuple"] g = .ok (.bl false) g := rfl
theorem isi_non (n : String) (h : isKnown n = true) (g : Gp) : isiF [.non, .ty n] g = .ok (.bl (subT "NoneType" n)) g := if_pos h
theorem so_int (k : Nat) (i j : Int) (g : Gp) : m__law_so (k + 1) [.int i, .int j] g = .ok (.bl (decide (i = j))) g := by
  unfold m__law_so
  walk_at "ev"; simp only [isi_int_tup]; walk_at "ev"; simp only [isi_int_bool]; walk_at "ev"; simp only [isi_int_int]; walk_at "ev"
theorem so_non (k : Nat) (g : Gp) : m__law_so (k + 1) [.non, .non] g = .ok (.bl true) g := by
  unfold m__law_so; walk_at "ev"
/-! ### trips of two rates -/
theorem behind_ok {a b c d : Int} (h : Rt a b) (h' : Rt c d) (p : Int) (g : Gp) : m_behind_trip [.int p, .tup [rt a b, rt c d]] g = .ok (.int (p * a / b * c / d)) g := by
  unfold m_behind_trip l_behind_trip_0
  walk_at "ev"
  have hl : sFor (iAny (mVar 1)) (gN 2) (sSet (gN 0) (mCall m_at_rate (mCons (mVar 0) (mCons (mVar 2) mNil)))) [some (.int p), some (.tup [rt a b, rt c d]), none] g = .nx [some (.int (p * a / b * c / d)), some (.tup [rt a b, rt c d]), some (rt c d)] g := by
    unfold sFor
    rw [i_any_tup (ds := [rt a b, rt c d]) rfl, R.go_ok]
    show loopF _ _ _ 2 0 _ _ = _
    simp only [loopF, Src.at, List.getElem?_cons_zero, List.getElem?_cons_succ, gN]
    walk_at "ev"; rw [at_rate_ok h]; walk_at "ev"; rw [at_rate_ok h']; walk_at "ev"; rfl
  rw [hl]; walk_at "ev"
theorem least_for_ok {a b : Int} (h : Rt a b) (p : Int) (g : Gp) : m_least_for [.int p, rt a b] g = .ok (.int (-(-p * b / a))) g := by
  have h1 := h.a0; have h2 := h.b0; have h3 := h.a1; have h4 := h.b1
  unfold m_least_for rt
  walk_at "ev"; rw [rounded_down_ok (by omega)]; walk_at "ev"
theorem least_trip_ok {a b c d : Int} (h : Rt a b) (h' : Rt c d) (p : Int) (g : Gp) : m_least_for_trip [.int p, .tup [rt a b, rt c d]] g = .ok (.int (-(-(-(-p * d / c)) * b / a))) g := by
  unfold m_least_for_trip l_least_for_trip_0
  walk_at "ev"
  have hl : sFor (iRv (mVar 1)) (gN 2) (sSet (gN 0) (mCall m_least_for (mCons (mVar 0) (mCons (mVar 2) mNil)))) [some (.int p), some (.tup [rt a b, rt c d]), none] g = .nx [some (.int (-(-(-(-p * d / c)) * b / a))), some (.tup [rt a b, rt c d]), some (rt a b)] g := by
    unfold sFor
    have hi : iRv (mVar 1) [some (.int p), some (.tup [rt a b, rt c d]), none] g = .ok (.revT [rt a b, rt c d]) g := rfl
    rw [hi, R.go_ok]
    show loopF _ _ _ 2 0 _ _ = _
    simp only [loopF, Src.at, gN]
    walk_at "ev"
    rw [if_pos (by decide : (0 : Nat) < 2)]; simp only; rw [least_for_ok h']; walk_at "ev"
    rw [if_pos (by decide : (1 : Nat) < 2)]; walk_at "ev"; rw [least_for_ok h]; walk_at "ev"; rfl
  rw [hl]; walk_at "ev"
theorem lowest_ok {n d : Int} (h : 0 < d) (hd : d < 1073741824) (g : Gp) : m_lowest [.int n, .int d] g = .ok (rt (n / (Nat.gcd n.natAbs d.natAbs : Nat)) (d / (Nat.gcd n.natAbs d.natAbs : Nat))) g := by
  have h1 : 0 < Nat.gcd n.natAbs d.natAbs := Nat.gcd_pos_of_pos_right _ (by omega)
  have h2 : Nat.gcd n.natAbs d.natAbs ≤ d.natAbs := Nat.gcd_le_right _ (by omega)
  have h3 : 0 < ((Nat.gcd n.natAbs d.natAbs : Nat) : Int) ∧ ((Nat.gcd n.natAbs d.natAbs : Nat) : Int) < 1073741824 := by omega
  unfold m_lowest rt
  generalize hk : ((Nat.gcd n.natAbs d.natAbs : Nat) : Int) = k at h3 ⊢
  walk_at "ev"; rw [hk]
theorem gcd_div_pos {x : Int} {k : Nat} (hx : 0 < x) (hk : 0 < k) (hd : k ∣ x.natAbs) : 0 < x / (k : Int) := by
  obtain ⟨m, hm⟩ := hd
  have h1 : x = (k : Int) * m := by
    have : (x.natAbs : Int) = x := Int.natAbs_of_nonneg (by omega)
    rw [← this, hm]; exact Int.natCast_mul k m
  have h2 : (k : Int) ≠ 0 := by omega
  rw [h1, Int.mul_ediv_cancel_left _ h2]
  by_cases h : m = 0
  · subst h; rw [h1] at hx; simp at hx
  · omega
/-- both over what divides both: the order is the same -/
theorem div_lt_iff {x y : Int} {k : Nat} (hk : 0 < k) (hx : k ∣ x.natAbs) (hy : k ∣ y.natAbs) : x / (k : Int) < y / (k : Int) ↔ x < y := by
  obtain ⟨u, rfl⟩ : (k : Int) ∣ x := Int.ofNat_dvd_left.mpr hx
  obtain ⟨v, rfl⟩ : (k : Int) ∣ y := Int.ofNat_dvd_left.mpr hy
  have h2 : (k : Int) ≠ 0 := by omega
  rw [Int.mul_ediv_cancel_left _ h2, Int.mul_ediv_cancel_left _ h2]
  exact (Int.mul_lt_mul_left (by omega)).symm
theorem rate_of_trip_ok {a b c d : Int} (h : Rt a b) (h' : Rt c d) (g : Gp) : ∃ u v : Int, m_rate_of_trip [.tup [rt a b, rt c d]] g = .ok (rt u v) g ∧ (v < u ↔ b * d < a * c) := by
  have h1 := h.a0; have h2 := h.b0; have h3 := h.a1; have h4 := h.b1
  have q1 := h'.a0; have q2 := h'.b0; have q3 := h'.a1; have q4 := h'.b1
  have bd : 0 < b * d := Int.mul_pos h2 q2
  have bd2 : b * d ≤ 1000 * 1000 := Int.mul_le_mul h4 q4 (by omega) (by omega)
  have t1 : m_times [rt 1 1, rt a b] g = .ok (rt a b) g := by
    unfold m_times rt
    walk_at "ev"
    rw [Int.one_mul, Int.one_mul, lowest_ok h2 (by omega), h.co]
    have e1 : ((1 : Nat) : Int) = 1 := rfl
    rw [e1, Int.ediv_one, Int.ediv_one]; unfold rt; walk_at "ev"
  have t2 : m_times [rt a b, rt c d] g = .ok (rt (a * c / (Nat.gcd (a * c).natAbs (b * d).natAbs : Nat)) (b * d / (Nat.gcd (a * c).natAbs (b * d).natAbs : Nat))) g := by
    unfold m_times rt
    walk_at "ev"
    rw [lowest_ok bd (by omega)]
    unfold rt; walk_at "ev"
  refine ⟨a * c / (Nat.gcd (a * c).natAbs (b * d).natAbs : Nat), b * d / (Nat.gcd (a * c).natAbs (b * d).natAbs : Nat), ?_, ?_⟩
  · unfold m_rate_of_trip l_rate_of_trip_0
    walk_at "ev"
    have hl : sFor (iAny (mVar 0)) (gN 2) (sSet (gN 1) (mCall m_times (mCons (mVar 1) (mCons (mVar 2) mNil)))) [some (.tup [rt a b, rt c d]), some (rt 1 1), none] g = .nx [some (.tup [rt a b, rt c d]), some (rt (a * c / (Nat.gcd (a * c).natAbs (b * d).natAbs : Nat)) (b * d / (Nat.gcd (a * c).natAbs (b * d).natAbs : Nat))), some (rt c d)] g := by
      unfold sFor
      rw [i_any_tup (ds := [rt a b, rt c d]) rfl, R.go_ok]
      show loopF _ _ _ 2 0 _ _ = _
      simp only [loopF, Src.at, List.getElem?_cons_zero, List.getElem?_cons_succ, gN]
      walk_at "ev"; rw [t1]; walk_at "ev"; rw [t2]; walk_at "ev"; rfl
    show gc g (fin (F.then (sFor _ _ _ [some (.tup [rt a b, rt c d]), some (rt 1 1), none] g) _)) = _
    rw [hl]; walk_at "ev"
  · refine div_lt_iff (Nat.gcd_pos_of_pos_right _ (by omega)) (Nat.gcd_dvd_right _ _) (Nat.gcd_dvd_left _ _)
/-! ### trips, in numbers -/
def optD : Option Int → D
  | none => .non
  | some i => .int i
/-- the first number from lo to hi of which G holds -/
def IsFirst (G : Int → Prop) (lo hi : Int) : Option Int → Prop
  | none => ∀ q, lo ≤ q → q ≤ hi → ¬ G q
  | some p => lo ≤ p ∧ p ≤ hi ∧ G p ∧ ∀ q, lo ≤ q → q < p → ¬ G q
theorem IsFirst.uniq {G : Int → Prop} {lo hi : Int} : ∀ {x y : Option Int}, IsFirst G lo hi x → IsFirst G lo hi y → x = y
  | none, none, _, _ => rfl
  | none, some q, h, h' => absurd h'.2.2.1 (h q h'.1 h'.2.1)
  | some p, none, h, h' => absurd h.2.2.1 (h' p h.1 h.2.1)
  | some p, some q, h, h' => by
    rcases Int.lt_trichotomy p q with e | e | e
    · exact absurd h.2.2.1 (h'.2.2.2 p h.1 e)
    · rw [e]
    · exact absurd h'.2.2.1 (h.2.2.2 q h'.1 e)
theorem least_iff {a b : Int} (ha : 0 < a) (hb : 0 < b) (q p : Int) : p ≤ q * a / b ↔ -(-p * b / a) ≤ q := by
  rw [Int.le_ediv_iff_mul_le hb]
  have h1 : -(-p * b / a) ≤ q ↔ -q ≤ -p * b / a := by omega
  rw [h1, Int.le_ediv_iff_mul_le ha]
  have e1 : -q * a = -(q * a) := Int.neg_mul _ _
  have e2 : -p * b = -(p * b) := Int.neg_mul _ _
  rw [e1, e2]
  omega
theorem trip_le {a b c d p : Int} (ha : 0 < a) (hb : 0 < b) (hc : 0 < c) (hd : 0 < d) (hp : 0 ≤ p) (h : a * c ≤ b * d) : p * a / b * c / d ≤ p := by
  have x1 : p * a / b * b ≤ p * a := Int.ediv_mul_le _ (by omega)
  have x2 : p * a / b * c / d * d ≤ p * a / b * c := Int.ediv_mul_le _ (by omega)
  generalize p * a / b = x at x1 x2 ⊢
  generalize x * c / d = t at x2 ⊢
  by_cases hh : t ≤ p
  · exact hh
  · exfalso
    have h1 : p + 1 ≤ t := by omega
    have y1 : (p + 1) * (d * b) ≤ t * (d * b) := Int.mul_le_mul_of_nonneg_right h1 (Int.le_of_lt (Int.mul_pos hd hb))
    have y2 : t * d * b ≤ x * c * b := Int.mul_le_mul_of_nonneg_right x2 (by omega)
    have y3 : x * b * c ≤ p * a * c := Int.mul_le_mul_of_nonneg_right x1 (by omega)
    have y4 : p * (a * c) ≤ p * (b * d) := Int.mul_le_mul_of_nonneg_left h hp
    have e1 : t * (d * b) = t * d * b := (Int.mul_assoc _ _ _).symm
    have e2 : x * c * b = x * b * c := by rw [Int.mul_assoc, Int.mul_comm c b, Int.mul_assoc]
    have e3 : p * a * c = p * (a * c) := Int.mul_assoc _ _ _
    have e4 : (p + 1) * (d * b) = p * (b * d) + d * b := by rw [Int.add_mul, Int.one_mul, Int.mul_comm d b]
    have e5 : 0 < d * b := Int.mul_pos hd hb
    omega
theorem are_rates_ok {a b c d : Int} (h : Rt a b) (h' : Rt c d) (g : Gp) : m_are_rates [.tup [rt a b, rt c d]] g = .ok (.bl true) g := by
  unfold m_are_rates
  walk_at "ev"
  rw [has_size_tup [rt a b, rt c d] 0 8 g (by simp) (by simp)]
  walk_at "ev"
  have hl : mLc [1] (iAny (mVar 0)) (gN 1) tYes' (mCall m_is_rate (mCons (mVar 1) mNil)) [some (.tup [rt a b, rt c d]), none] g = .ok (.ref g.length) (g ++ [.lst ([rt a b, rt c d].map fun _ => D.bl true)]) := by
    refine lc_tup (g1 := g) rfl (by simp) (fun x hx L => ?_)
    rcases List.mem_cons.mp hx with rfl | hx
    · refine ⟨_, rfl, ?_⟩
      show (mCall m_is_rate (mCons (mVar 1) mNil)) [some (.tup [rt a b, rt c d]), some (rt a b)] _ = _
      walk_at "ev"; rw [is_rate_ok h]
    · rcases List.mem_cons.mp hx with rfl | hx
      · refine ⟨_, rfl, ?_⟩
        show (mCall m_is_rate (mCons (mVar 1) mNil)) [some (.tup [rt a b, rt c d]), some (rt c d)] _ = _
        walk_at "ev"; rw [is_rate_ok h']
      · cases hx
  rw [hl]
  walk_at "ev"
  rw [vd_allL _ (ds := [D.bl true, D.bl true]) (bs := [true, true]) (get_app0 _ _) rfl]
  walk_at "ev"
  exact gc_app _ _ _ rfl
theorem trip_gains_ok {a b c d : Int} (h : Rt a b) (h' : Rt c d) (g : Gp) : ∃ o : Option Int, m_trip_gains [.tup [rt a b, rt c d], .int 60] g = .ok (optD o) g ∧
    IsFirst (fun p => p < p * a / b * c / d) 1 60 o ∧ (∀ p, o = some p → b * d < a * c) ∧ (a * c ≤ b * d → o = none) := by
  have h1 := h.a0; have h2 := h.b0; have h3 := h'.a0; have h4 := h'.b0
  obtain ⟨u, v, e1, e2⟩ := rate_of_trip_ok h h' g
  have key : ∃ o : Option Int, m_first_trip_gain [.tup [rt a b, rt c d], .int 60] g = .ok (optD o) g ∧ IsFirst (fun p => p < p * a / b * c / d) 1 60 o ∧ (∀ p, o = some p → b * d < a * c) ∧ (a * c ≤ b * d → o = none) := by
    by_cases hlt : b * d < a * c
    · have hvu : ¬ u ≤ v := by have := e2.mpr hlt; omega
      let T : Int → D := fun p => .int p
      have hw : ∃ o : Option Int, IsFirst (fun p => p < p * a / b * c / d) 1 60 o ∧ (match o with
          | some p => whileF (isB (mOp (cmpD .LtE) (mVar 4) (mVar 1))) l_first_trip_gain_0 100000 [some (.tup [rt a b, rt c d]), some (.int 60), some (.int u), some (.int v), some (.int 1)] g = .rt (.int p) g
          | none => ∃ s, whileF (isB (mOp (cmpD .LtE) (mVar 4) (mVar 1))) l_first_trip_gain_0 100000 [some (.tup [rt a b, rt c d]), some (.int 60), some (.int u), some (.int v), some (.int 1)] g = .nx s g) := by
        refine while_spec (P := fun s g' => g' = g ∧ ∃ p : Int, s = [some (.tup [rt a b, rt c d]), some (.int 60), some (.int u), some (.int v), some (.int p)] ∧ 1 ≤ p ∧ ∀ q, 1 ≤ q → q < p → ¬ (q < q * a / b * c / d))
          (Q := fun F => ∃ o : Option Int, IsFirst (fun p => p < p * a / b * c / d) 1 60 o ∧ (match o with
            | some p => F = .rt (.int p) g
            | none => ∃ s, F = .nx s g))
          (μ := fun s _ => match (s[4]? : Option (Option D)) with
            | some (some (D.int p)) => (61 - p).toNat
            | _ => 0) ?_ 100000 _ g ?_ ⟨rfl, 1, rfl, by omega, fun q _ _ => by omega⟩
        · rintro s g' ⟨rfl, p, rfl, hp, hq⟩
          by_cases hle : p ≤ 60
          · refine .inr ⟨g', ?_, ?_⟩
            · walk_at "ev"; simp only [hle, decide_true]
            · by_cases hg : p < p * a / b * c / d
              · refine .inr ⟨.int p, g', ?_, some p, ⟨hp, hle, hg, hq⟩, rfl⟩
                unfold l_first_trip_gain_0
                walk_at "ev"; rw [behind_ok h h']; walk_at "ev"; simp only [hg, decide_true]; walk_at "ev"
              · refine .inl ⟨[some (.tup [rt a b, rt c d]), some (.int 60), some (.int u), some (.int v), some (.int (if -(-(-(-(p + 2) * d / c)) * b / a) > p + 1 then -(-(-(-(p + 2) * d / c)) * b / a) else p + 1))], g', .inl ?_, ⟨rfl, _, rfl, by split <;> omega, fun q q1 q2 => ?_⟩, ?_⟩
                · unfold l_first_trip_gain_0
                  walk_at "ev"; rw [behind_ok h h']; walk_at "ev"; simp only [hg, decide_false]; walk_at "ev"; rw [least_trip_ok h h']; walk_at "ev"
                · by_cases hqp : q < p
                  · exact hq q q1 hqp
                  · by_cases hqe : q = p
                    · rw [hqe]; exact hg
                    · have hql : q < -(-(-(-(p + 2) * d / c)) * b / a) := by
                        split at q2 <;> omega
                      have i1 := least_iff h1 h2 q (-(-(p + 2) * d / c))
                      have i2 := least_iff h3 h4 (q * a / b) (p + 2)
                      have n1 : ¬ (-(-(p + 2) * d / c)) ≤ q * a / b := fun z => by have := i1.mp z; omega
                      have n2 : ¬ p + 2 ≤ q * a / b * c / d := fun z => n1 (i2.mp z)
                      omega
                · show (61 - (if -(-(-(-(p + 2) * d / c)) * b / a) > p + 1 then -(-(-(-(p + 2) * d / c)) * b / a) else p + 1)).toNat < (61 - p).toNat
                  split <;> omega
          · refine .inl ⟨g', ?_, none, fun q q1 q2 => hq q q1 (by omega), _, rfl⟩
            walk_at "ev"; simp only [hle, decide_false]
        · show (61 - (1 : Int)).toNat < 100000
          decide
      obtain ⟨o, h5, h6⟩ := hw
      refine ⟨o, ?_, h5, fun _ _ => hlt, fun z => by omega⟩
      unfold m_first_trip_gain
      rw [ev_fun, ev_seq]
      have hs : sSet (gT 2 (gCons' (gN 2) (gCons' (gN 3) gNil'))) (mCall m_rate_of_trip (mCons (mVar 0) mNil)) (slots 5 [.tup [rt a b, rt c d], .int 60]) g = .nx [some (.tup [rt a b, rt c d]), some (.int 60), some (.int u), some (.int v), none] g := by
        unfold sSet
        walk_at "ev"; rw [e1]; rfl
      rw [hs]
      walk_at "ev"; simp only [hvu, decide_false]; walk_at "ev"
      unfold sWhile
      cases o with
      | some p => rw [show whileF _ _ _ _ _ = _ from h6]; walk_at "ev"; rfl
      | none =>
        obtain ⟨s, h6⟩ := h6
        rw [show whileF _ _ _ _ _ = _ from h6]; walk_at "ev"; rfl
    · have hvu : u ≤ v := by
        by_cases z : v < u
        · exact absurd (e2.mp z) hlt
        · omega
      refine ⟨none, ?_, fun q q1 q2 z => ?_, fun p hp => (by cases hp), fun _ => rfl⟩
      · unfold m_first_trip_gain
        rw [ev_fun, ev_seq]
        have hs : sSet (gT 2 (gCons' (gN 2) (gCons' (gN 3) gNil'))) (mCall m_rate_of_trip (mCons (mVar 0) mNil)) (slots 5 [.tup [rt a b, rt c d], .int 60]) g = .nx [some (.tup [rt a b, rt c d]), some (.int 60), some (.int u), some (.int v), none] g := by
          unfold sSet
          walk_at "ev"; rw [e1]; rfl
        rw [hs]
        walk_at "ev"; simp only [hvu, decide_true]; walk_at "ev"; rfl
      · have := trip_le (p := q) h1 h2 h3 h4 (by omega) (by omega : a * c ≤ b * d)
        omega
  obtain ⟨o, h5, h6⟩ := key
  refine ⟨o, ?_, h6⟩
  unfold m_trip_gains
  walk_at "ev"; rw [are_rates_ok h h']; walk_at "ev"; rw [need_ok]; walk_at "ev"
  rw [between_ok _ _ _ _ (by omega) (by omega)]; walk_at "ev"; rw [need_ok]; walk_at "ev"; rw [h5]; walk_at "ev"
/-! ### the law's fractions -/
theorem law_gcd_ok {n d : Int} (hn : 0 ≤ n) (hd : 0 ≤ d) (hd2 : d < 20000) (g : Gp) : m__law_gcd [.int n, .int d] g = .ok (.int (Nat.gcd n.natAbs d.natAbs : Nat)) g := by
  have e1 : n ≥ 0 := hn
  have e2 : d ≥ 0 := hd
  unfold m__law_gcd
  walk_at "ev"; simp only [hn, decide_true]; walk_at "ev"; simp only [hd, decide_true]; walk_at "ev"
  have key : ∃ s2 g2, sFor (iRg1 (mCons (mC (.int 20000)) mNil)) (gN 4) l__law_gcd_0 [some (.int n), some (.int d), some (.int n), some (.int d), none, none] g = .nx s2 g2 ∧ ∃ y3 y4 y5, g2 = g ∧ s2 = [some (.int n), some (.int d), some (.int (Nat.gcd n.natAbs d.natAbs : Nat)), y3, y4, y5] := by
    unfold sFor
    rw [i_rg1 (j := 20000) rfl (by omega), R.go_ok]
    refine for_rngB0 (P := fun i s g' => g' = g ∧ ∃ (x y : Int) (y4 y5 : Option D), 0 ≤ x ∧ 0 ≤ y ∧ y + i ≤ d ∧ Nat.gcd x.natAbs y.natAbs = Nat.gcd n.natAbs d.natAbs ∧ s = [some (.int n), some (.int d), some (.int x), some (.int y), y4, y5])
      (Q := fun s2 g2 => ∃ y3 y4 y5, g2 = g ∧ s2 = [some (.int n), some (.int d), some (.int (Nat.gcd n.natAbs d.natAbs : Nat)), y3, y4, y5])
      ⟨rfl, n, d, none, none, hn, hd, by omega, rfl, rfl⟩ ?_ ?_
    · rintro i s g' hi ⟨rfl, x, y, y4, y5, hx, hy, hyi, hg, rfl⟩
      refine ⟨_, rfl, ?_⟩
      by_cases hz : y = 0
      · subst hz
        refine .inr ⟨[some (.int n), some (.int d), some (.int x), some (.int 0), some (.int (0 + i)), y5], g', ?_, some (.int 0), some (.int (0 + i)), y5, rfl, ?_⟩
        · unfold l__law_gcd_0
          walk_at "ev"; simp only [decide_true]; rfl
        · have : x = ((Nat.gcd n.natAbs d.natAbs : Nat) : Int) := by
            rw [← hg]
            have : Nat.gcd x.natAbs (0 : Int).natAbs = x.natAbs := Nat.gcd_zero_right _
            rw [this]; omega
          rw [← this]
      · have h1 : 0 ≤ x % y := Int.emod_nonneg _ hz
        have h2 : x % y < y := Int.emod_lt_of_pos _ (by omega)
        refine .inl ⟨[some (.int n), some (.int d), some (.int y), some (.int (x % y)), some (.int (0 + i)), some (.int (x % y))], g', .inl ?_, rfl, y, x % y, _, _, hy, h1, by omega, ?_, rfl⟩
        · unfold l__law_gcd_0
          walk_at "ev"; simp only [hz, decide_false]; walk_at "ev"
        · rw [← hg, Int.natAbs_emod_of_nonneg hx, Nat.gcd_comm, ← Nat.gcd_rec, Nat.gcd_comm]
    · rintro s g' ⟨rfl, x, y, y4, y5, hx, hy, hyi, hg, rfl⟩
      have : ((20000 : Int).toNat : Int) = 20000 := rfl
      omega
  obtain ⟨s2, g2, h1, y3, y4, y5, rfl, rfl⟩ := key
  rw [h1]; walk_at "ev"
theorem law_red_ok (k : Nat) {n d : Int} (hn : 0 ≤ n) (hd : 0 < d) (hd2 : d < 20000) (g : Gp) : m__law_red (k + 1) [.int n, .int d] g = .ok (rt (n / (Nat.gcd n.natAbs d.natAbs : Nat)) (d / (Nat.gcd n.natAbs d.natAbs : Nat))) g := by
  have h1 : 0 < Nat.gcd n.natAbs d.natAbs := Nat.gcd_pos_of_pos_right _ (by omega)
  have h2 : Nat.gcd n.natAbs d.natAbs ≤ d.natAbs := Nat.gcd_le_right _ (by omega)
  have h4 : ¬ d < 0 := by omega
  unfold m__law_red rt
  walk_at "ev"; simp only [h4, decide_false]; walk_at "ev"; rw [law_gcd_ok hn (by omega) hd2]
  have h3 : 0 < ((Nat.gcd n.natAbs d.natAbs : Nat) : Int) ∧ ((Nat.gcd n.natAbs d.natAbs : Nat) : Int) < 1073741824 := by omega
  generalize ((Nat.gcd n.natAbs d.natAbs : Nat) : Int) = q at h3 ⊢
  have h5 : ¬ q = 0 := by omega
  walk_at "ev"; simp only [h5, decide_false]; walk_at "ev"
theorem law_mul_ok {a b c d : Int} (h : Rt a b) (h' : Rt c d) (ha : b < 100) (hb : d < 100) (g : Gp) : ∃ u v : Int, m__law_mul [rt a b, rt c d] g = .ok (rt u v) g ∧ (v < u ↔ b * d < a * c) := by
  have h1 := h.a0; have h2 := h.b0; have h3 := h.a1; have h4 := h.b1
  have q1 := h'.a0; have q2 := h'.b0; have q3 := h'.a1; have q4 := h'.b1
  have bd : 0 < b * d := Int.mul_pos h2 q2
  have ac : 0 < a * c := Int.mul_pos h1 q1
  have bd2 : b * d ≤ 100 * 100 := Int.mul_le_mul (by omega) (by omega) (by omega) (by omega)
  refine ⟨a * c / (Nat.gcd (a * c).natAbs (b * d).natAbs : Nat), b * d / (Nat.gcd (a * c).natAbs (b * d).natAbs : Nat), ?_, ?_⟩
  · unfold m__law_mul rt
    walk_at "ev"; rw [law_red_ok 11 (by omega) bd (by omega)]; unfold rt; walk_at "ev"
  · exact div_lt_iff (Nat.gcd_pos_of_pos_right _ (by omega)) (Nat.gcd_dvd_right _ _) (Nat.gcd_dvd_left _ _)
theorem law_less_ok (a b c d : Int) (g : Gp) (h : a * d < 1000 ∨ True) (ha : -1000 < a ∧ a < 1000) (hb : -1000 < b ∧ b < 1000) : m__law_less [rt a b, rt c d] g = .ok (.bl (decide (a * d < c * b))) g := by
  unfold m__law_less rt
  walk_at "ev"
/-- the law's block about trips -/
theorem t8_ok {a b c d : Int} (h : Rt a b) (h' : Rt c d) (hb : b < 100) (hd : d < 100) (g : Gp) (x0 x1 x2 x3 x4 x5 x6 x8 x10 x11 x12 x13 x14 x15 x16 x17 x18 x19 x20 x21 x22 x23 x24 x25 : Option D) :
    ∃ y10 y11 y12 y13 y14 : Option D, t_law_8 [x0, x1, x2, x3, x4, x5, x6, some (rt a b), x8, some (rt c d), x10, x11, x12, x13, x14, x15, x16, x17, x18, x19, x20, x21, x22, x23, x24, x25] g = .nx [x0, x1, x2, x3, x4, x5, x6, some (rt a b), x8, some (rt c d), y10, y11, y12, y13, y14, x15, x16, x17, x18, x19, x20, x21, x22, x23, x24, x25] g := by
  have a0 := h.a0; have b0 := h.b0; have c0 := h'.a0; have d0 := h'.b0
  have a1 := h.a1; have b1 := h.b1; have c1 := h'.a1; have d1 := h'.b1
  obtain ⟨u, v, hu, huv⟩ := law_mul_ok h h' hb hd g
  obtain ⟨o, ho, hf, hs, hn⟩ := trip_gains_ok h h' g
  obtain ⟨o2, ho2, hf2, hs2, hn2⟩ := trip_gains_ok h (⟨b0, a0, b1, a1, by rw [Nat.gcd_comm]; exact h.co⟩ : Rt b a) g
  have o2n : o2 = none := hn2 (by rw [Int.mul_comm]; omega)
  subst o2n
  unfold t_law_8 t_law_9 t_law_10 t_law_11
  walk_at "ev"; rw [hu]; walk_at "ev"; rw [ho]; walk_at "ev"
  have key : ∃ s2 g2, sFor (iRg2 (mCons (mC (.int 1)) (mCons (mC (.int 61)) mNil))) (gN 13) l_law_3 [x0, x1, x2, x3, x4, x5, x6, some (rt a b), x8, some (rt c d), some (rt u v), some (optD o), some .non, x13, x14, x15, x16, x17, x18, x19, x20, x21, x22, x23, x24, x25] g = .nx s2 g2 ∧ ∃ y13 y14, g2 = g ∧ s2 = [x0, x1, x2, x3, x4, x5, x6, some (rt a b), x8, some (rt c d), some (rt u v), some (optD o), some (optD o), y13, y14, x15, x16, x17, x18, x19, x20, x21, x22, x23, x24, x25] := by
    unfold sFor
    rw [i_rg2 (i := 1) (j := 61) rfl (by omega) (by omega), R.go_ok]
    obtain ⟨s2, g2, q1, rfl, o', y13, y14, q2, q3⟩ := for_rng0 (tg := gN 13) (b := l_law_3) (lo := 1) (n := (61 - 1 : Int).toNat)
      (P := fun i s g' => g' = g ∧ ∃ (o' : Option Int) (y13 y14 : Option D), IsFirst (fun p => p < p * a / b * c / d) 1 i o' ∧ s = [x0, x1, x2, x3, x4, x5, x6, some (rt a b), x8, some (rt c d), some (rt u v), some (optD o), some (optD o'), y13, y14, x15, x16, x17, x18, x19, x20, x21, x22, x23, x24, x25])
      (s := [x0, x1, x2, x3, x4, x5, x6, some (rt a b), x8, some (rt c d), some (rt u v), some (optD o), some .non, x13, x14, x15, x16, x17, x18, x19, x20, x21, x22, x23, x24, x25]) (g := g) ⟨rfl, none, _, _, fun q q1 q2 => by omega, rfl⟩ (by
        rintro i s g' hi ⟨rfl, o', y13, y14, h1, rfl⟩
        have hi' : i < 60 := hi
        refine ⟨_, [x0, x1, x2, x3, x4, x5, x6, some (rt a b), x8, some (rt c d), some (rt u v), some (optD o), some (optD (match o' with | none => if (1 + (i : Int)) < (1 + (i : Int)) * a / b * c / d then some (1 + (i : Int)) else none | some z => some z)), some (.int (1 + i)), some (.int ((1 + (i : Int)) * a / b * c / d)), x15, x16, x17, x18, x19, x20, x21, x22, x23, x24, x25], g', rfl, .inl ?_, rfl, _, _, _, ?_, rfl⟩
        · unfold l_law_3 t_law_13 rt
          walk_at "ev"
          cases o' with
          | none =>
            simp only [optD]
            walk_at "ev"
            by_cases hg : (1 + (i : Int)) < (1 + (i : Int)) * a / b * c / d
            · simp only [hg, decide_true]; walk_at "ev"
            · simp only [hg, decide_false]; walk_at "ev"
          | some z => simp only [optD]; walk_at "ev"
        · cases o' with
          | none =>
            by_cases hg : (1 + (i : Int)) < (1 + (i : Int)) * a / b * c / d
            · simp only [if_pos hg]
              exact ⟨by omega, by omega, hg, fun q q1 q2 => h1 q q1 (by omega)⟩
            · simp only [if_neg hg]
              intro q q1 q2
              by_cases hq : q = 1 + i
              · rw [hq]; exact hg
              · exact h1 q q1 (by omega)
          | some z => exact ⟨h1.1, by have := h1.2.1; omega, h1.2.2⟩)
    have : o' = o := by
      refine IsFirst.uniq (lo := 1) (hi := 60) ?_ hf
      have e : ((61 - 1 : Int).toNat : Int) = 60 := rfl
      rw [← e]; exact q2
    subst this
    exact ⟨s2, _, q1, _, _, rfl, q3⟩
  obtain ⟨s2, g2, h1, y13, y14, rfl, rfl⟩ := key
  refine ⟨some (rt u v), some (optD o), some (optD o), y13, y14, ?_⟩
  rw [h1]
  unfold t_law_12 t_law_14
  walk_at "ev"
  have hso : m__law_so 12 [optD o, optD o] g2 = .ok (.bl true) g2 := by
    cases o with
    | none => exact so_non 11 g2
    | some z => rw [show optD (some z) = .int z from rfl, so_int]; simp
  rw [hso]; walk_at "ev"
  cases o with
  | none =>
    simp only [optD]; walk_at "ev"
    unfold rt at ho2 ⊢; walk_at "ev"
    rw [ho2]; simp only [optD]; walk_at "ev"
  | some z =>
    simp only [optD]; walk_at "ev"
    rw [show m__law_less [.tup [.int 1, .int 1], rt u v] g2 = _ from law_less_ok 1 1 u v g2 (.inr trivial) (by omega) (by omega)]
    have : (1 : Int) * v < u * 1 := by have := huv.mpr (hs z rfl); omega
    simp only [this, decide_true]; walk_at "ev"
    unfold rt at ho2 ⊢; walk_at "ev"
    rw [ho2]; simp only [optD]; walk_at "ev"
/-! ### what is earned -/
def pre (us : List Int) (i : Nat) : Int := (us.take i).sum
theorem pre_succ {us : List Int} {i : Nat} {u : Int} (h : us[i]? = some u) : pre us (i + 1) = pre us i + u := by
  unfold pre
  rw [List.take_add_one, h, List.sum_append]
  simp
theorem range_map_succ {α : Type} (f : Nat → α) (i : Nat) : (List.range (i + 1)).map f = (List.range i).map f ++ [f i] := by
  rw [List.range_succ, List.map_append]; rfl
theorem running_sums_ok (us : List Int) (hz : us.length ≤ 1000) (g : Gp) : m_running_sums [.tup (us.map D.int)] g = .ok (.ref g.length) (g ++ [.lst (((List.range us.length).map fun j => pre us (j + 1)).map D.int)]) := by
  unfold m_running_sums
  rw [ev_fun, ev_seq, ev_set]
  have e1 : mLst mNil (slots 4 [.tup (us.map D.int)]) g = .ok (.ref g.length) (g ++ [.lst []]) := rfl
  rw [e1, R.go_ok, F.then_nx, ev_seq, ev_set, ev_c, R.go_ok, F.then_nx, ev_seq]
  have key : ∃ s2 g2, sFor (iAny (mVar 0)) (gN 3) l_running_sums_0 [some (.tup (us.map D.int)), some (.ref g.length), some (.int 0), none] (g ++ [.lst []]) = .nx s2 g2 ∧ ∃ y2 y3, g2 = g ++ [.lst (((List.range us.length).map fun j => pre us (j + 1)).map D.int)] ∧ s2 = [some (.tup (us.map D.int)), some (.ref g.length), y2, y3] := by
    unfold sFor
    rw [i_any_tup (ds := us.map D.int) rfl, R.go_ok]
    obtain ⟨s2, g2, q1, y3, q2, q3⟩ := for_tup (tg := gN 3) (b := l_running_sums_0) (ds := us.map D.int)
      (P := fun i s g' => ∃ y3 : Option D, g' = g ++ [.lst (((List.range i).map fun j => pre us (j + 1)).map D.int)] ∧ s = [some (.tup (us.map D.int)), some (.ref g.length), some (.int (pre us i)), y3])
      (by
        rintro i d s g' hd ⟨y3, rfl, rfl⟩
        have hi : i < us.length := by have := (List.getElem?_eq_some_iff.mp hd).1; rw [List.length_map] at this; exact this
        rw [List.getElem?_map] at hd
        obtain ⟨u, hu, rfl⟩ := Option.map_eq_some_iff.mp hd
        refine ⟨_, [some (.tup (us.map D.int)), some (.ref g.length), some (.int (pre us i + u)), some (.int u)], g ++ [.lst (((List.range (i + 1)).map fun j => pre us (j + 1)).map D.int)], rfl, .inl ?_, some (.int u), rfl, by rw [pre_succ hu]⟩
        have hget : (g ++ [O.lst (((List.range i).map fun j => pre us (j + 1)).map D.int)])[g.length]? = some (.lst (((List.range i).map fun j => pre us (j + 1)).map D.int)) := get_app0 _ _
        have hset : (g ++ [O.lst (((List.range i).map fun j => pre us (j + 1)).map D.int)]).set g.length (.lst (((List.range i).map fun j => pre us (j + 1)).map D.int ++ [.int (pre us i + u)])) = g ++ [.lst (((List.range (i + 1)).map fun j => pre us (j + 1)).map D.int)] := by
          rw [set_app0, range_map_succ, pre_succ hu, List.map_append]; rfl
        unfold l_running_sums_0
        rw [ev_seq]
        simp only [List.set_cons_succ, List.set_cons_zero]
        have s1 : sSet (gN 2) (mOp addD (mVar 2) (mVar 3)) [some (.tup (us.map D.int)), some (.ref g.length), some (.int (pre us i)), some (.int u)] (g ++ [O.lst (((List.range i).map fun j => pre us (j + 1)).map D.int)]) = .nx [some (.tup (us.map D.int)), some (.ref g.length), some (.int (pre us i + u)), some (.int u)] (g ++ [O.lst (((List.range i).map fun j => pre us (j + 1)).map D.int)]) := rfl
        rw [show sSet (gN 2) (mOp addD (mVar 2) (mVar 3)) _ _ = _ from s1, F.then_nx, ev_drop, ev_meL (r := g.length) rfl hget]
        have s2 : mCons (mVar 2) mNil [some (.tup (us.map D.int)), some (.ref g.length), some (.int (pre us i + u)), some (.int u)] (g ++ [O.lst (((List.range i).map fun j => pre us (j + 1)).map D.int)]) = .ok [.int (pre us i + u)] (g ++ [O.lst (((List.range i).map fun j => pre us (j + 1)).map D.int)]) := rfl
        rw [s2, R.bind_ok, append_ok hget (by rw [List.length_map, List.length_map, List.length_range]; omega), hset, R.go_ok])
      (us.map D.int).length 0 [some (.tup (us.map D.int)), some (.ref g.length), some (.int 0), none] (g ++ [.lst []]) (by omega) ⟨none, rfl, rfl⟩
    rw [List.length_map] at q2 q3
    exact ⟨s2, g2, q1, _, y3, q2, q3⟩
  obtain ⟨s2, g2, q1, y2, y3, rfl, rfl⟩ := key
  show gc g (fin (F.then (sFor (iAny (mVar 0)) (gN 3) l_running_sums_0 [some (.tup (us.map D.int)), some (.ref g.length), some (.int 0), none] (g ++ [.lst []])) (sRet (mVar 1)))) = _
  rw [q1, F.then_nx]
  walk_at "ev"
  exact gc_lst0 g _ 0 _ rfl (unders_ints _ _)
def stp (ss : List Int) (j : Nat) : Int := ss.getD j 0 - (if j = 0 then 0 else ss.getD (j - 1) 0)
theorem steps_ok (ss : List Int) (hz : ss.length ≤ 1000) (g : Gp) (r : Nat) (hr : g[r]? = some (.lst (ss.map D.int))) : m_steps_of [.ref r] g = .ok (.ref g.length) (g ++ [.lst (((List.range ss.length).map (stp ss)).map D.int)]) := by
  unfold m_steps_of
  rw [ev_fun, ev_seq, ev_set]
  have e1 : mLst mNil (slots 4 [.ref r]) g = .ok (.ref g.length) (g ++ [.lst []]) := rfl
  rw [e1, R.go_ok, F.then_nx, ev_seq, ev_set, ev_c, R.go_ok, F.then_nx, ev_seq]
  have key : ∃ s2 g2, sFor (iAny (mVar 0)) (gN 3) l_steps_of_0 [some (.ref r), some (.ref g.length), some (.int 0), none] (g ++ [.lst []]) = .nx s2 g2 ∧ ∃ y2 y3, g2 = g ++ [.lst (((List.range ss.length).map (stp ss)).map D.int)] ∧ s2 = [some (.ref r), some (.ref g.length), y2, y3] := by
    unfold sFor
    rw [i_any_lst (r := r) (ds := ss.map D.int) rfl (get_appL hr), R.go_ok]
    obtain ⟨s2, g2, q1, y3, q2, q3⟩ := for_lst0 (tg := gN 3) (b := l_steps_of_0) (r := r) (ds := ss.map D.int)
      (s := [some (.ref r), some (.ref g.length), some (.int 0), none]) (g := g ++ [.lst []])
      (P := fun i s g' => ∃ y3 : Option D, g' = g ++ [.lst (((List.range i).map (stp ss)).map D.int)] ∧ s = [some (.ref r), some (.ref g.length), some (.int (if i = 0 then 0 else ss.getD (i - 1) 0)), y3])
      ⟨none, rfl, rfl⟩ (by rintro i s g' ⟨y3, rfl, rfl⟩; exact get_appL hr)
      (by
        rintro i d s g' hd ⟨y3, rfl, rfl⟩
        have hi : i < ss.length := by have := (List.getElem?_eq_some_iff.mp hd).1; rw [List.length_map] at this; exact this
        rw [List.getElem?_map] at hd
        obtain ⟨u, hu, rfl⟩ := Option.map_eq_some_iff.mp hd
        have hu' : ss.getD i 0 = u := by rw [List.getD_eq_getElem?_getD, hu]; rfl
        have hst : stp ss i = u - (if i = 0 then 0 else ss.getD (i - 1) 0) := by unfold stp; rw [hu']
        generalize hv : (if i = 0 then 0 else ss.getD (i - 1) 0) = v at hst ⊢
        refine ⟨_, [some (.ref r), some (.ref g.length), some (.int u), some (.int u)], g ++ [.lst (((List.range (i + 1)).map (stp ss)).map D.int)], rfl, .inl ?_, some (.int u), rfl, by rw [if_neg (by omega), Nat.add_sub_cancel, hu']⟩
        have hget : (g ++ [O.lst (((List.range i).map (stp ss)).map D.int)])[g.length]? = some (.lst (((List.range i).map (stp ss)).map D.int)) := get_app0 _ _
        have hset : (g ++ [O.lst (((List.range i).map (stp ss)).map D.int)]).set g.length (.lst (((List.range i).map (stp ss)).map D.int ++ [.int (u - v)])) = g ++ [.lst (((List.range (i + 1)).map (stp ss)).map D.int)] := by
          rw [set_app0, range_map_succ, hst, List.map_append]; rfl
        unfold l_steps_of_0
        simp only [List.set_cons_succ, List.set_cons_zero]
        rw [ev_seq, ev_drop, ev_meL (r := g.length) rfl hget]
        have s2 : mCons (mOp subD (mVar 3) (mVar 2)) mNil [some (.ref r), some (.ref g.length), some (.int v), some (.int u)] (g ++ [O.lst (((List.range i).map (stp ss)).map D.int)]) = .ok [.int (u - v)] (g ++ [O.lst (((List.range i).map (stp ss)).map D.int)]) := rfl
        rw [show mCons (mOp subD (mVar 3) (mVar 2)) mNil _ _ = _ from s2, R.bind_ok, append_ok hget (by rw [List.length_map, List.length_map, List.length_range]; omega), hset, R.go_ok, F.then_nx]
        rfl)
    rw [List.length_map] at q2 q3
    exact ⟨s2, g2, q1, _, y3, q2, q3⟩
  obtain ⟨s2, g2, q1, y2, y3, rfl, rfl⟩ := key
  show gc g (fin (F.then (sFor (iAny (mVar 0)) (gN 3) l_steps_of_0 [some (.ref r), some (.ref g.length), some (.int 0), none] (g ++ [.lst []])) (sRet (mVar 1)))) = _
  rw [q1, F.then_nx]
  walk_at "ev"
  exact gc_lst0 g _ 0 _ rfl (unders_ints _ _)
/-- a share as the code holds it -/
structure Sh (p q : Int) : Prop where
  p0 : 0 ≤ p
  pq : p < q
  q1 : q ≤ 1000
  co : Nat.gcd p.natAbs q.natAbs = 1
def earn (sold p q u : Int) : Int := if sold * p / q < u * p / (q - p) then sold * p / q else u * p / (q - p)
theorem earn_zero {sold p q : Int} (h : Sh p q) (hs : 0 ≤ sold) : earn sold p q 0 = 0 := by
  unfold earn
  have h1 : 0 ≤ sold * p / q := Int.ediv_nonneg (Int.mul_nonneg hs h.p0) (by have := h.p0; have := h.pq; omega)
  rw [Int.zero_mul, Int.zero_ediv, if_neg (by omega)]
theorem earned_by_ok {sold p q : Int} (h : Sh p q) (u : Int) (g : Gp) : m_earned_by [.int sold, rt p q, .int u] g = .ok (.int (earn sold p q u)) g := by
  have h1 := h.p0; have h2 := h.pq; have h3 := h.q1
  have nv : m_never_spent [.int sold, rt p q] g = .ok (.int (sold * p / q)) g := by
    unfold m_never_spent
    rw [ev_fun, ev_seq]
    have s1 : sSet (gT 2 (gCons' (gN 2) (gCons' (gN 3) gNil'))) (mVar 1) (slots 4 [.int sold, rt p q]) g = .nx [some (.int sold), some (rt p q), some (.int p), some (.int q)] g := rfl
    rw [s1]; walk_at "ev"
  unfold m_earned_by
  rw [ev_fun, ev_seq]
  have s1 : sSet (gT 2 (gCons' (gN 3) (gCons' (gN 4) gNil'))) (mVar 1) (slots 6 [.int sold, rt p q, .int u]) g = .nx [some (.int sold), some (rt p q), some (.int u), some (.int p), some (.int q), none] g := rfl
  rw [s1]; walk_at "ev"; rw [nv]; walk_at "ev"; rfl
theorem is_share_ok {p q : Int} (h : Sh p q) (g : Gp) : m_is_share [rt p q] g = .ok (.bl true) g := by
  have h1 := h.p0; have h2 := h.pq; have h3 := h.q1
  have hf : m_is_fraction [rt p q] g = .ok (.bl true) g := by
    unfold m_is_fraction rt
    walk_at "ev"; rw [is_row_tup [.int p, .int q] 2 g rfl]; walk_at "ev"
    rw [between_ok _ _ _ _ (by omega) (by omega)]; walk_at "ev"
    rw [between_ok _ _ _ _ (by omega) (by omega)]; walk_at "ev"
    rw [h.co]; rfl
  unfold m_is_share
  walk_at "ev"; rw [hf]; unfold rt; walk_at "ev"; simp only [h1, h2, decide_true]; walk_at "ev"
theorem are_between_ok (us : List Int) (a b lo hi : Int) (h1 : a ≤ us.length) (h2 : (us.length : Int) ≤ b) (hb : b ≤ 1000) (hu : ∀ u ∈ us, lo ≤ u ∧ u ≤ hi) (g : Gp) : m_are_between [.tup (us.map D.int), .int a, .int b, .int lo, .int hi] g = .ok (.bl true) g := by
  unfold m_are_between
  walk_at "ev"
  rw [has_size_tup (us.map D.int) a b g (by rw [List.length_map]; exact h1) (by rw [List.length_map]; exact h2)]
  walk_at "ev"
  have hl : mLc [5] (iAny (mVar 0)) (gN 5) tYes' (mCall m_is_between (mCons (mVar 5) (mCons (mVar 3) (mCons (mVar 4) mNil)))) [some (.tup (us.map D.int)), some (.int a), some (.int b), some (.int lo), some (.int hi), none] g = .ok (.ref g.length) (g ++ [.lst ((us.map D.int).map fun _ => D.bl true)]) := by
    refine lc_tup (g1 := g) rfl (by rw [List.length_map]; omega) (fun x hx L => ?_)
    obtain ⟨u, hu1, rfl⟩ := List.mem_map.mp hx
    refine ⟨_, rfl, ?_⟩
    show (mCall m_is_between (mCons (mVar 5) (mCons (mVar 3) (mCons (mVar 4) mNil)))) [some (.tup (us.map D.int)), some (.int a), some (.int b), some (.int lo), some (.int hi), some (.int u)] _ = _
    walk_at "ev"; rw [between_ok _ _ _ _ (hu u hu1).1 (hu u hu1).2]
  rw [hl]
  walk_at "ev"
  have hm : ((us.map D.int).map fun _ => D.bl true) = (us.map fun _ => true).map D.bl := by rw [List.map_map, List.map_map]; rfl
  rw [hm, vd_allL _ (bs := us.map fun _ => true) (get_app0 _ _) (blsD_map _)]
  have ha : (us.map fun _ => true).all id = true := by simp
  rw [ha]
  walk_at "ev"
  exact gc_app _ _ _ rfl
theorem need_periods_ok {sold p q : Int} {us : List Int} (hs : 1 ≤ sold ∧ sold ≤ 1000000) (h : Sh p q) (hl : 1 ≤ us.length ∧ us.length ≤ 12) (hu : ∀ u ∈ us, 0 ≤ u ∧ u ≤ 1000000) (g : Gp) : m_need_periods [.int sold, rt p q, .tup (us.map D.int)] g = .ok .non g := by
  unfold m_need_periods
  walk_at "ev"; rw [between_ok _ _ _ _ (by omega) (by omega)]; walk_at "ev"; rw [need_ok]; walk_at "ev"
  rw [is_share_ok h]; walk_at "ev"; rw [need_ok]; walk_at "ev"
  rw [are_between_ok us 1 12 0 1000000 (by omega) (by omega) (by omega) hu]; walk_at "ev"; rw [need_ok]; walk_at "ev"
/-- what is earned in each period -/
def recg (sold p q : Int) (us : List Int) : List Int := (List.range us.length).map fun j => earn sold p q (pre us (j + 1)) - earn sold p q (pre us j)
theorem recognised_ok {sold p q : Int} {us : List Int} (hs : 1 ≤ sold ∧ sold ≤ 1000000) (h : Sh p q) (hl : 1 ≤ us.length ∧ us.length ≤ 12) (hu : ∀ u ∈ us, 0 ≤ u ∧ u ≤ 1000000) (g : Gp) : m_recognised [.int sold, rt p q, .tup (us.map D.int)] g = .ok (.tup ((recg sold p q us).map D.int)) g := by
  have key : m_earned_in_each [.int sold, rt p q, .tup (us.map D.int)] g = .ok (.tup ((recg sold p q us).map D.int)) g := by
    unfold m_earned_in_each
    rw [ev_fun, ev_seq, ev_set]
    have hm : mLc [4] (iAny (mCall m_running_sums (mCons (mVar 2) mNil))) (gN 4) tYes' (mCall m_earned_by (mCons (mVar 0) (mCons (mVar 1) (mCons (mVar 4) mNil)))) (slots 5 [.int sold, rt p q, .tup (us.map D.int)]) g = .ok (.ref (g.length + 1)) (g ++ [.lst (((List.range us.length).map fun j => pre us (j + 1)).map D.int), .lst (((List.range us.length).map fun j => earn sold p q (pre us (j + 1))).map D.int)]) := by
      have := lc_lst (vs := [4]) (m := mCall m_running_sums (mCons (mVar 2) mNil)) (tg := gN 4) (te := mCall m_earned_by (mCons (mVar 0) (mCons (mVar 1) (mCons (mVar 4) mNil)))) (s := slots 5 [.int sold, rt p q, .tup (us.map D.int)]) (g := g) (g1 := g ++ [.lst (((List.range us.length).map fun j => pre us (j + 1)).map D.int)]) (r := g.length) (xs := ((List.range us.length).map fun j => pre us (j + 1)).map D.int)
        (f := fun d => match d with
          | .int u => .int (earn sold p q u)
          | d => d) (by
          walk_at "ev"; rw [running_sums_ok us (by omega)]) (get_app0 _ _) (by rw [List.length_map, List.length_map, List.length_range]; omega) (by
          intro x hx L
          obtain ⟨u, hu1, rfl⟩ := List.mem_map.mp hx
          refine ⟨_, rfl, ?_⟩
          show (mCall m_earned_by (mCons (mVar 0) (mCons (mVar 1) (mCons (mVar 4) mNil)))) [some (.int sold), some (rt p q), some (.tup (us.map D.int)), none, some (.int u)] _ = _
          walk_at "ev"; rw [earned_by_ok h])
      rw [this, List.length_append, List.append_assoc]
      simp only [List.map_map]
      rfl
    rw [hm, R.go_ok, F.then_nx]
    walk_at "ev"
    rw [steps_ok ((List.range us.length).map fun j => earn sold p q (pre us (j + 1))) (by rw [List.length_map, List.length_range]; omega) _ (g.length + 1) (get_appR _ _ 1)]
    walk_at "ev"
    rw [vd_tupleL _ (get_app0 _ _)]
    have hr : (List.range ((List.range us.length).map fun j => earn sold p q (pre us (j + 1))).length).map (stp ((List.range us.length).map fun j => earn sold p q (pre us (j + 1)))) = recg sold p q us := by
      unfold recg
      rw [List.length_map, List.length_range]
      refine List.map_congr_left (fun j hj => ?_)
      have hj := List.mem_range.mp hj
      unfold stp
      have e1 : ∀ k, k < us.length → ((List.range us.length).map fun j => earn sold p q (pre us (j + 1))).getD k 0 = earn sold p q (pre us (k + 1)) := fun k hk => by
        rw [List.getD_eq_getElem?_getD, List.getElem?_map, List.getElem?_range hk]; rfl
      rw [e1 j hj]
      by_cases h0 : j = 0
      · subst h0
        rw [if_pos rfl]
        have : earn sold p q (pre us 0) = 0 := earn_zero h (by omega)
        omega
      · rw [if_neg h0, e1 (j - 1) (by omega), Nat.sub_add_cancel (by omega)]
    rw [hr]
    walk_at "ev"
    rw [List.append_assoc]
    exact gc_app _ _ _ (by rw [under_tup]; exact unders_ints _ _)
  unfold m_recognised
  walk_at "ev"; rw [need_periods_ok hs h hl hu]; walk_at "ev"; rw [key]; walk_at "ev"
/-! ### equal tuples of ints -/
theorem toPs0_ints : ∀ xs : List Int, toPs0 (xs.map D.int) = some (xs.map PyData.int)
  | [] => rfl
  | x :: xs => by rw [List.map_cons, toPs0, toPs0_ints xs]; rfl
theorem canLay_ints : ∀ xs : List Int, PyData.canLayAll0 (xs.map PyData.int) = true
  | [] => rfl
  | x :: xs => by rw [List.map_cons, PyData.canLayAll0, canLay_ints xs]; rfl
theorem depth_ints : ∀ xs : List Int, PyData.depthAll (xs.map PyData.int) = 0
  | [] => rfl
  | x :: xs => by rw [List.map_cons, PyData.depthAll, depth_ints xs]; rfl
theorem shaped_ints (xs : List Int) : SeqAt.shaped (.tuple (xs.map PyData.int)) = true := by
  unfold SeqAt.shaped
  rw [PyData.canLay0, canLay_ints, PyData.depth, depth_ints]; rfl
theorem eqvAll_ints : ∀ xs : List Int, PyData.eqvAll (xs.map PyData.int) (xs.map PyData.int) = true
  | [] => by simp [PyData.eqvAll]
  | x :: xs => by rw [List.map_cons, PyData.eqvAll, eqvAll_ints xs, PyData.eqv]; simp
theorem toP1_ints (xs : List Int) (g : Gp) : toP1 g (.tup (xs.map D.int)) = some (.tuple (xs.map PyData.int)) := by
  show toP0 (.tup (xs.map D.int)) = _
  rw [toP0, toPs0_ints]; rfl
theorem vd_neT (xs : List Int) (g : Gp) : neD (.tup (xs.map D.int)) (.tup (xs.map D.int)) g = .ok (.bl false) g := by
  show (match toP1 g (.tup (xs.map D.int)), toP1 g (.tup (xs.map D.int)) with
    | some d, some e => if SeqAt.shaped d = true ∧ SeqAt.shaped e = true then R.ok (D.bl (!PyData.eqv d e)) g else .bad
    | _, _ => .bad) = _
  rw [toP1_ints]
  simp only [shaped_ints, and_self, if_true, PyData.eqv, eqvAll_ints, Bool.not_true]
theorem vd_eqT (xs : List Int) (g : Gp) : eqD (.tup (xs.map D.int)) (.tup (xs.map D.int)) g = .ok (.bl true) g := by
  show (match toP1 g (.tup (xs.map D.int)), toP1 g (.tup (xs.map D.int)) with
    | some d, some e => if SeqAt.shaped d = true ∧ SeqAt.shaped e = true then R.ok (D.bl (PyData.eqv d e)) g else .bad
    | _, _ => .bad) = _
  rw [toP1_ints]
  simp only [shaped_ints, and_self, if_true, PyData.eqv, eqvAll_ints]
/-! ### what is earned, from the front -/
def goE (E : Int → Int) : Int → List Int → List Int
  | _, [] => []
  | acc, u :: us => (E (acc + u) - E acc) :: goE E (acc + u) us
theorem goE_eq (E : Int → Int) : ∀ (us : List Int) (acc : Int), (List.range us.length).map (fun j => E (acc + pre us (j + 1)) - E (acc + pre us j)) = goE E acc us
  | [], acc => rfl
  | u :: us, acc => by
    rw [List.length_cons, List.range_succ_eq_map, List.map_cons, List.map_map, goE, ← goE_eq E us (acc + u)]
    have h0 : pre (u :: us) 0 = 0 := rfl
    have hs : ∀ j, pre (u :: us) (j + 1) = u + pre us j := fun j => by unfold pre; rw [List.take_succ_cons, List.sum_cons]
    have h00 : pre us 0 = 0 := rfl
    congr 1
    · rw [hs, h00, h0, Int.add_zero, Int.add_zero]
    · refine List.map_congr_left (fun j _ => ?_)
      show E (acc + pre (u :: us) (j + 1 + 1)) - E (acc + pre (u :: us) (j + 1)) = _
      rw [hs, hs, Int.add_assoc, Int.add_assoc]
theorem recg_goE (sold p q : Int) (us : List Int) : recg sold p q us = goE (earn sold p q) 0 us := by
  rw [← goE_eq]
  unfold recg
  simp only [Int.zero_add]
theorem still_owed_ok {sold p q : Int} {us : List Int} (hs : 1 ≤ sold ∧ sold ≤ 1000000) (h : Sh p q) (hl : 1 ≤ us.length ∧ us.length ≤ 12) (hu : ∀ u ∈ us, 0 ≤ u ∧ u ≤ 1000000) (g : Gp) : m_still_owed [.int sold, rt p q, .tup (us.map D.int)] g = .ok (.int (if sold - us.sum - earn sold p q us.sum > 0 then sold - us.sum - earn sold p q us.sum else 0)) g := by
  have key : m_owed_behind [.int sold, rt p q, .tup (us.map D.int)] g = .ok (.int (if sold - us.sum - earn sold p q us.sum > 0 then sold - us.sum - earn sold p q us.sum else 0)) g := by
    unfold m_owed_behind
    walk_at "ev"; rw [vd_sumT _ (intsD_map us)]; walk_at "ev"; rw [earned_by_ok h]; walk_at "ev"
  unfold m_still_owed
  walk_at "ev"; rw [need_periods_ok hs h hl hu]; walk_at "ev"; rw [key]; walk_at "ev"
/-! ### periods put together and cut in two -/
theorem l6_0 {sold : Int} {sh : D} {E W : Int → Int} (hR : ∀ us : List Int, 1 ≤ us.length ∧ us.length ≤ 12 → (∀ u ∈ us, 0 ≤ u ∧ u ≤ 1000000) → ∀ g, m_recognised [.int sold, sh, .tup (us.map D.int)] g = .ok (.tup ((goE E 0 us).map D.int)) g)
    (hO : ∀ us : List Int, 1 ≤ us.length ∧ us.length ≤ 12 → (∀ u ∈ us, 0 ≤ u ∧ u ≤ 1000000) → ∀ g, m_still_owed [.int sold, sh, .tup (us.map D.int)] g = .ok (.int (W us.sum)) g)
    (u0 u1 u2 u3 u4 u5 : Int) (h0 : 0 ≤ u0 ∧ u0 ≤ 1000) (h1 : 0 ≤ u1 ∧ u1 ≤ 1000) (h2 : 0 ≤ u2 ∧ u2 ≤ 1000) (h3 : 0 ≤ u3 ∧ u3 ≤ 1000) (h4 : 0 ≤ u4 ∧ u4 ≤ 1000) (h5 : 0 ≤ u5 ∧ u5 ≤ 1000) (g : Gp) (x0 x1 x2 x3 x4 x5 x6 x7 x8 x9 x10 x11 x12 x13 x14 x15 x16 x22 x23 x24 x25 : Option D) :
    ∃ y22 y23 y24 y25 : Option D, l_law_6 [x0, x1, x2, x3, x4, x5, x6, x7, x8, x9, x10, x11, x12, x13, x14, x15, x16, some (.int sold), some sh, some (.tup [.int (u0), .int (u1), .int (u2), .int (u3), .int (u4), .int (u5)]), some (.tup [.int (E (0 + u0) - E 0), .int (E ((0 + u0) + u1) - E (0 + u0)), .int (E (((0 + u0) + u1) + u2) - E ((0 + u0) + u1)), .int (E ((((0 + u0) + u1) + u2) + u3) - E (((0 + u0) + u1) + u2)), .int (E (((((0 + u0) + u1) + u2) + u3) + u4) - E ((((0 + u0) + u1) + u2) + u3)), .int (E ((((((0 + u0) + u1) + u2) + u3) + u4) + u5) - E (((((0 + u0) + u1) + u2) + u3) + u4))]), some (.int 0), x22, x23, x24, x25] g = .nx [x0, x1, x2, x3, x4, x5, x6, x7, x8, x9, x10, x11, x12, x13, x14, x15, x16, some (.int sold), some sh, some (.tup [.int (u0), .int (u1), .int (u2), .int (u3), .int (u4), .int (u5)]), some (.tup [.int (E (0 + u0) - E 0), .int (E ((0 + u0) + u1) - E (0 + u0)), .int (E (((0 + u0) + u1) + u2) - E ((0 + u0) + u1)), .int (E ((((0 + u0) + u1) + u2) + u3) - E (((0 + u0) + u1) + u2)), .int (E (((((0 + u0) + u1) + u2) + u3) + u4) - E ((((0 + u0) + u1) + u2) + u3)), .int (E ((((((0 + u0) + u1) + u2) + u3) + u4) + u5) - E (((((0 + u0) + u1) + u2) + u3) + u4))]), some (.int 0), y22, y23, y24, y25] g := by
  have bJ : ∀ u ∈ ([u0 + u1, u2, u3, u4, u5] : List Int), 0 ≤ u ∧ u ≤ 1000000 := by
    simp only [List.forall_mem_cons, List.not_mem_nil, false_implies, implies_true, and_true]; omega
  have bC : ∀ u ∈ ([u0 / 2, u0 - u0 / 2, u1, u2, u3, u4, u5] : List Int), 0 ≤ u ∧ u ≤ 1000000 := by
    simp only [List.forall_mem_cons, List.not_mem_nil, false_implies, implies_true, and_true]; omega
  have bU : ∀ u ∈ ([u0, u1, u2, u3, u4, u5] : List Int), 0 ≤ u ∧ u ≤ 1000000 := by
    simp only [List.forall_mem_cons, List.not_mem_nil, false_implies, implies_true, and_true]; omega
  have rJ : m_recognised [.int sold, sh, .tup [.int (u0 + u1), .int (u2), .int (u3), .int (u4), .int (u5)]] g = .ok (.tup [.int (E (0 + (u0 + u1)) - E 0), .int (E ((0 + (u0 + u1)) + u2) - E (0 + (u0 + u1))), .int (E (((0 + (u0 + u1)) + u2) + u3) - E ((0 + (u0 + u1)) + u2)), .int (E ((((0 + (u0 + u1)) + u2) + u3) + u4) - E (((0 + (u0 + u1)) + u2) + u3)), .int (E (((((0 + (u0 + u1)) + u2) + u3) + u4) + u5) - E ((((0 + (u0 + u1)) + u2) + u3) + u4))]) g := hR [u0 + u1, u2, u3, u4, u5] ⟨by simp, by simp⟩ bJ g
  have rC : m_recognised [.int sold, sh, .tup [.int (u0 / 2), .int (u0 - u0 / 2), .int (u1), .int (u2), .int (u3), .int (u4), .int (u5)]] g = .ok (.tup [.int (E (0 + (u0 / 2)) - E 0), .int (E ((0 + (u0 / 2)) + (u0 - u0 / 2)) - E (0 + (u0 / 2))), .int (E (((0 + (u0 / 2)) + (u0 - u0 / 2)) + u1) - E ((0 + (u0 / 2)) + (u0 - u0 / 2))), .int (E ((((0 + (u0 / 2)) + (u0 - u0 / 2)) + u1) + u2) - E (((0 + (u0 / 2)) + (u0 - u0 / 2)) + u1)), .int (E (((((0 + (u0 / 2)) + (u0 - u0 / 2)) + u1) + u2) + u3) - E ((((0 + (u0 / 2)) + (u0 - u0 / 2)) + u1) + u2)), .int (E ((((((0 + (u0 / 2)) + (u0 - u0 / 2)) + u1) + u2) + u3) + u4) - E (((((0 + (u0 / 2)) + (u0 - u0 / 2)) + u1) + u2) + u3)), .int (E (((((((0 + (u0 / 2)) + (u0 - u0 / 2)) + u1) + u2) + u3) + u4) + u5) - E ((((((0 + (u0 / 2)) + (u0 - u0 / 2)) + u1) + u2) + u3) + u4))]) g := hR [u0 / 2, u0 - u0 / 2, u1, u2, u3, u4, u5] ⟨by simp, by simp⟩ bC g
  have oJ : m_still_owed [.int sold, sh, .tup [.int (u0 + u1), .int (u2), .int (u3), .int (u4), .int (u5)]] g = .ok (.int (W ([u0, u1, u2, u3, u4, u5] : List Int).sum)) g := by
    have : ([u0 + u1, u2, u3, u4, u5] : List Int).sum = ([u0, u1, u2, u3, u4, u5] : List Int).sum := by simp only [List.sum_cons, List.sum_nil]; omega
    rw [← this]; exact hO [u0 + u1, u2, u3, u4, u5] ⟨by simp, by simp⟩ bJ g
  have oU : m_still_owed [.int sold, sh, .tup [.int (u0), .int (u1), .int (u2), .int (u3), .int (u4), .int (u5)]] g = .ok (.int (W ([u0, u1, u2, u3, u4, u5] : List Int).sum)) g := hO [u0, u1, u2, u3, u4, u5] ⟨by simp, by simp⟩ bU g
  have eJ : ([E (0 + (u0 + u1)) - E 0, E ((0 + (u0 + u1)) + u2) - E (0 + (u0 + u1)), E (((0 + (u0 + u1)) + u2) + u3) - E ((0 + (u0 + u1)) + u2), E ((((0 + (u0 + u1)) + u2) + u3) + u4) - E (((0 + (u0 + u1)) + u2) + u3), E (((((0 + (u0 + u1)) + u2) + u3) + u4) + u5) - E ((((0 + (u0 + u1)) + u2) + u3) + u4)] : List Int) = [E (0 + u0) - E 0 + (E ((0 + u0) + u1) - E (0 + u0)), E (((0 + u0) + u1) + u2) - E ((0 + u0) + u1), E ((((0 + u0) + u1) + u2) + u3) - E (((0 + u0) + u1) + u2), E (((((0 + u0) + u1) + u2) + u3) + u4) - E ((((0 + u0) + u1) + u2) + u3), E ((((((0 + u0) + u1) + u2) + u3) + u4) + u5) - E (((((0 + u0) + u1) + u2) + u3) + u4)] := by
    simp only [Int.add_assoc, List.cons.injEq, and_true, true_and]; omega
  have e22 : (mOp addD (mOp addD (mSl (mVar 19) oNone (oSome (mVar 21))) (mTup (mCons (mOp addD (mOp ixD (mVar 19) (mVar 21)) (mOp ixD (mVar 19) (mOp addD (mVar 21) (mC (.int 1))))) mNil))) (mSl (mVar 19) (oSome (mOp addD (mVar 21) (mC (.int 2)))) oNone)) [x0, x1, x2, x3, x4, x5, x6, x7, x8, x9, x10, x11, x12, x13, x14, x15, x16, some (.int sold), some sh, some (.tup [.int (u0), .int (u1), .int (u2), .int (u3), .int (u4), .int (u5)]), some (.tup [.int (E (0 + u0) - E 0), .int (E ((0 + u0) + u1) - E (0 + u0)), .int (E (((0 + u0) + u1) + u2) - E ((0 + u0) + u1)), .int (E ((((0 + u0) + u1) + u2) + u3) - E (((0 + u0) + u1) + u2)), .int (E (((((0 + u0) + u1) + u2) + u3) + u4) - E ((((0 + u0) + u1) + u2) + u3)), .int (E ((((((0 + u0) + u1) + u2) + u3) + u4) + u5) - E (((((0 + u0) + u1) + u2) + u3) + u4))]), some (.int 0), x22, x23, x24, x25] g = .ok (.tup [.int (u0 + u1), .int (u2), .int (u3), .int (u4), .int (u5)]) g := rfl
  have e23 : (mOp addD (mOp addD (mSl (mVar 20) oNone (oSome (mVar 21))) (mTup (mCons (mOp addD (mOp ixD (mVar 20) (mVar 21)) (mOp ixD (mVar 20) (mOp addD (mVar 21) (mC (.int 1))))) mNil))) (mSl (mVar 20) (oSome (mOp addD (mVar 21) (mC (.int 2)))) oNone)) [x0, x1, x2, x3, x4, x5, x6, x7, x8, x9, x10, x11, x12, x13, x14, x15, x16, some (.int sold), some sh, some (.tup [.int (u0), .int (u1), .int (u2), .int (u3), .int (u4), .int (u5)]), some (.tup [.int (E (0 + u0) - E 0), .int (E ((0 + u0) + u1) - E (0 + u0)), .int (E (((0 + u0) + u1) + u2) - E ((0 + u0) + u1)), .int (E ((((0 + u0) + u1) + u2) + u3) - E (((0 + u0) + u1) + u2)), .int (E (((((0 + u0) + u1) + u2) + u3) + u4) - E ((((0 + u0) + u1) + u2) + u3)), .int (E ((((((0 + u0) + u1) + u2) + u3) + u4) + u5) - E (((((0 + u0) + u1) + u2) + u3) + u4))]), some (.int 0), some (.tup [.int (u0 + u1), .int (u2), .int (u3), .int (u4), .int (u5)]), some (.tup [.int (E (0 + (u0 + u1)) - E 0), .int (E ((0 + (u0 + u1)) + u2) - E (0 + (u0 + u1))), .int (E (((0 + (u0 + u1)) + u2) + u3) - E ((0 + (u0 + u1)) + u2)), .int (E ((((0 + (u0 + u1)) + u2) + u3) + u4) - E (((0 + (u0 + u1)) + u2) + u3)), .int (E (((((0 + (u0 + u1)) + u2) + u3) + u4) + u5) - E ((((0 + (u0 + u1)) + u2) + u3) + u4))]), x24, x25] g = .ok (.tup [.int (E (0 + u0) - E 0 + (E ((0 + u0) + u1) - E (0 + u0))), .int (E (((0 + u0) + u1) + u2) - E ((0 + u0) + u1)), .int (E ((((0 + u0) + u1) + u2) + u3) - E (((0 + u0) + u1) + u2)), .int (E (((((0 + u0) + u1) + u2) + u3) + u4) - E ((((0 + u0) + u1) + u2) + u3)), .int (E ((((((0 + u0) + u1) + u2) + u3) + u4) + u5) - E (((((0 + u0) + u1) + u2) + u3) + u4))]) g := rfl
  have n23 : neD (.tup [.int (E (0 + (u0 + u1)) - E 0), .int (E ((0 + (u0 + u1)) + u2) - E (0 + (u0 + u1))), .int (E (((0 + (u0 + u1)) + u2) + u3) - E ((0 + (u0 + u1)) + u2)), .int (E ((((0 + (u0 + u1)) + u2) + u3) + u4) - E (((0 + (u0 + u1)) + u2) + u3)), .int (E (((((0 + (u0 + u1)) + u2) + u3) + u4) + u5) - E ((((0 + (u0 + u1)) + u2) + u3) + u4))]) (.tup [.int (E (0 + u0) - E 0 + (E ((0 + u0) + u1) - E (0 + u0))), .int (E (((0 + u0) + u1) + u2) - E ((0 + u0) + u1)), .int (E ((((0 + u0) + u1) + u2) + u3) - E (((0 + u0) + u1) + u2)), .int (E (((((0 + u0) + u1) + u2) + u3) + u4) - E ((((0 + u0) + u1) + u2) + u3)), .int (E ((((((0 + u0) + u1) + u2) + u3) + u4) + u5) - E (((((0 + u0) + u1) + u2) + u3) + u4))]) g = .ok (.bl false) g := by
    have := vd_neT [E (0 + (u0 + u1)) - E 0, E ((0 + (u0 + u1)) + u2) - E (0 + (u0 + u1)), E (((0 + (u0 + u1)) + u2) + u3) - E ((0 + (u0 + u1)) + u2), E ((((0 + (u0 + u1)) + u2) + u3) + u4) - E (((0 + (u0 + u1)) + u2) + u3), E (((((0 + (u0 + u1)) + u2) + u3) + u4) + u5) - E ((((0 + (u0 + u1)) + u2) + u3) + u4)] g
    rw [show (neD (.tup [.int (E (0 + (u0 + u1)) - E 0), .int (E ((0 + (u0 + u1)) + u2) - E (0 + (u0 + u1))), .int (E (((0 + (u0 + u1)) + u2) + u3) - E ((0 + (u0 + u1)) + u2)), .int (E ((((0 + (u0 + u1)) + u2) + u3) + u4) - E (((0 + (u0 + u1)) + u2) + u3)), .int (E (((((0 + (u0 + u1)) + u2) + u3) + u4) + u5) - E ((((0 + (u0 + u1)) + u2) + u3) + u4))]) (.tup [.int (E (0 + u0) - E 0 + (E ((0 + u0) + u1) - E (0 + u0))), .int (E (((0 + u0) + u1) + u2) - E ((0 + u0) + u1)), .int (E ((((0 + u0) + u1) + u2) + u3) - E (((0 + u0) + u1) + u2)), .int (E (((((0 + u0) + u1) + u2) + u3) + u4) - E ((((0 + u0) + u1) + u2) + u3)), .int (E ((((((0 + u0) + u1) + u2) + u3) + u4) + u5) - E (((((0 + u0) + u1) + u2) + u3) + u4))]) g) = neD (.tup (([E (0 + (u0 + u1)) - E 0, E ((0 + (u0 + u1)) + u2) - E (0 + (u0 + u1)), E (((0 + (u0 + u1)) + u2) + u3) - E ((0 + (u0 + u1)) + u2), E ((((0 + (u0 + u1)) + u2) + u3) + u4) - E (((0 + (u0 + u1)) + u2) + u3), E (((((0 + (u0 + u1)) + u2) + u3) + u4) + u5) - E ((((0 + (u0 + u1)) + u2) + u3) + u4)] : List Int).map D.int)) (.tup (([E (0 + u0) - E 0 + (E ((0 + u0) + u1) - E (0 + u0)), E (((0 + u0) + u1) + u2) - E ((0 + u0) + u1), E ((((0 + u0) + u1) + u2) + u3) - E (((0 + u0) + u1) + u2), E (((((0 + u0) + u1) + u2) + u3) + u4) - E ((((0 + u0) + u1) + u2) + u3), E ((((((0 + u0) + u1) + u2) + u3) + u4) + u5) - E (((((0 + u0) + u1) + u2) + u3) + u4)] : List Int).map D.int)) g from rfl, ← eJ]; exact this
  have e25 : (mOp addD (mOp addD (mSl (mVar 19) oNone (oSome (mVar 21))) (mTup (mCons (mVar 24) (mCons (mOp subD (mOp ixD (mVar 19) (mVar 21)) (mVar 24)) mNil)))) (mSl (mVar 19) (oSome (mOp addD (mVar 21) (mC (.int 1)))) oNone)) [x0, x1, x2, x3, x4, x5, x6, x7, x8, x9, x10, x11, x12, x13, x14, x15, x16, some (.int sold), some sh, some (.tup [.int (u0), .int (u1), .int (u2), .int (u3), .int (u4), .int (u5)]), some (.tup [.int (E (0 + u0) - E 0), .int (E ((0 + u0) + u1) - E (0 + u0)), .int (E (((0 + u0) + u1) + u2) - E ((0 + u0) + u1)), .int (E ((((0 + u0) + u1) + u2) + u3) - E (((0 + u0) + u1) + u2)), .int (E (((((0 + u0) + u1) + u2) + u3) + u4) - E ((((0 + u0) + u1) + u2) + u3)), .int (E ((((((0 + u0) + u1) + u2) + u3) + u4) + u5) - E (((((0 + u0) + u1) + u2) + u3) + u4))]), some (.int 0), some (.tup [.int (u0 + u1), .int (u2), .int (u3), .int (u4), .int (u5)]), some (.tup [.int (E (0 + (u0 + u1)) - E 0), .int (E ((0 + (u0 + u1)) + u2) - E (0 + (u0 + u1))), .int (E (((0 + (u0 + u1)) + u2) + u3) - E ((0 + (u0 + u1)) + u2)), .int (E ((((0 + (u0 + u1)) + u2) + u3) + u4) - E (((0 + (u0 + u1)) + u2) + u3)), .int (E (((((0 + (u0 + u1)) + u2) + u3) + u4) + u5) - E ((((0 + (u0 + u1)) + u2) + u3) + u4))]), some (.int (u0 / 2)), x25] g = .ok (.tup [.int (u0 / 2), .int (u0 - u0 / 2), .int (u1), .int (u2), .int (u3), .int (u4), .int (u5)]) g := rfl
  refine ⟨some (.tup [.int (u0 + u1), .int (u2), .int (u3), .int (u4), .int (u5)]), some (.tup [.int (E (0 + (u0 + u1)) - E 0), .int (E ((0 + (u0 + u1)) + u2) - E (0 + (u0 + u1))), .int (E (((0 + (u0 + u1)) + u2) + u3) - E ((0 + (u0 + u1)) + u2)), .int (E ((((0 + (u0 + u1)) + u2) + u3) + u4) - E (((0 + (u0 + u1)) + u2) + u3)), .int (E (((((0 + (u0 + u1)) + u2) + u3) + u4) + u5) - E ((((0 + (u0 + u1)) + u2) + u3) + u4))]), some (.int (u0 / 2)), some (.tup [.int (E (0 + (u0 / 2)) - E 0), .int (E ((0 + (u0 / 2)) + (u0 - u0 / 2)) - E (0 + (u0 / 2))), .int (E (((0 + (u0 / 2)) + (u0 - u0 / 2)) + u1) - E ((0 + (u0 / 2)) + (u0 - u0 / 2))), .int (E ((((0 + (u0 / 2)) + (u0 - u0 / 2)) + u1) + u2) - E (((0 + (u0 / 2)) + (u0 - u0 / 2)) + u1)), .int (E (((((0 + (u0 / 2)) + (u0 - u0 / 2)) + u1) + u2) + u3) - E ((((0 + (u0 / 2)) + (u0 - u0 / 2)) + u1) + u2)), .int (E ((((((0 + (u0 / 2)) + (u0 - u0 / 2)) + u1) + u2) + u3) + u4) - E (((((0 + (u0 / 2)) + (u0 - u0 / 2)) + u1) + u2) + u3)), .int (E (((((((0 + (u0 / 2)) + (u0 - u0 / 2)) + u1) + u2) + u3) + u4) + u5) - E ((((((0 + (u0 / 2)) + (u0 - u0 / 2)) + u1) + u2) + u3) + u4))]), ?_⟩
  have s22 : l_law_6 [x0, x1, x2, x3, x4, x5, x6, x7, x8, x9, x10, x11, x12, x13, x14, x15, x16, some (.int sold), some sh, some (.tup [.int (u0), .int (u1), .int (u2), .int (u3), .int (u4), .int (u5)]), some (.tup [.int (E (0 + u0) - E 0), .int (E ((0 + u0) + u1) - E (0 + u0)), .int (E (((0 + u0) + u1) + u2) - E ((0 + u0) + u1)), .int (E ((((0 + u0) + u1) + u2) + u3) - E (((0 + u0) + u1) + u2)), .int (E (((((0 + u0) + u1) + u2) + u3) + u4) - E ((((0 + u0) + u1) + u2) + u3)), .int (E ((((((0 + u0) + u1) + u2) + u3) + u4) + u5) - E (((((0 + u0) + u1) + u2) + u3) + u4))]), some (.int 0), x22, x23, x24, x25] g = t_law_24 [x0, x1, x2, x3, x4, x5, x6, x7, x8, x9, x10, x11, x12, x13, x14, x15, x16, some (.int sold), some sh, some (.tup [.int (u0), .int (u1), .int (u2), .int (u3), .int (u4), .int (u5)]), some (.tup [.int (E (0 + u0) - E 0), .int (E ((0 + u0) + u1) - E (0 + u0)), .int (E (((0 + u0) + u1) + u2) - E ((0 + u0) + u1)), .int (E ((((0 + u0) + u1) + u2) + u3) - E (((0 + u0) + u1) + u2)), .int (E (((((0 + u0) + u1) + u2) + u3) + u4) - E ((((0 + u0) + u1) + u2) + u3)), .int (E ((((((0 + u0) + u1) + u2) + u3) + u4) + u5) - E (((((0 + u0) + u1) + u2) + u3) + u4))]), some (.int 0), some (.tup [.int (u0 + u1), .int (u2), .int (u3), .int (u4), .int (u5)]), x23, x24, x25] g := by
    unfold l_law_6
    rw [ev_seq, ev_set, e22]; rfl
  have s23 : t_law_24 [x0, x1, x2, x3, x4, x5, x6, x7, x8, x9, x10, x11, x12, x13, x14, x15, x16, some (.int sold), some sh, some (.tup [.int (u0), .int (u1), .int (u2), .int (u3), .int (u4), .int (u5)]), some (.tup [.int (E (0 + u0) - E 0), .int (E ((0 + u0) + u1) - E (0 + u0)), .int (E (((0 + u0) + u1) + u2) - E ((0 + u0) + u1)), .int (E ((((0 + u0) + u1) + u2) + u3) - E (((0 + u0) + u1) + u2)), .int (E (((((0 + u0) + u1) + u2) + u3) + u4) - E ((((0 + u0) + u1) + u2) + u3)), .int (E ((((((0 + u0) + u1) + u2) + u3) + u4) + u5) - E (((((0 + u0) + u1) + u2) + u3) + u4))]), some (.int 0), some (.tup [.int (u0 + u1), .int (u2), .int (u3), .int (u4), .int (u5)]), x23, x24, x25] g = t_law_25 [x0, x1, x2, x3, x4, x5, x6, x7, x8, x9, x10, x11, x12, x13, x14, x15, x16, some (.int sold), some sh, some (.tup [.int (u0), .int (u1), .int (u2), .int (u3), .int (u4), .int (u5)]), some (.tup [.int (E (0 + u0) - E 0), .int (E ((0 + u0) + u1) - E (0 + u0)), .int (E (((0 + u0) + u1) + u2) - E ((0 + u0) + u1)), .int (E ((((0 + u0) + u1) + u2) + u3) - E (((0 + u0) + u1) + u2)), .int (E (((((0 + u0) + u1) + u2) + u3) + u4) - E ((((0 + u0) + u1) + u2) + u3)), .int (E ((((((0 + u0) + u1) + u2) + u3) + u4) + u5) - E (((((0 + u0) + u1) + u2) + u3) + u4))]), some (.int 0), some (.tup [.int (u0 + u1), .int (u2), .int (u3), .int (u4), .int (u5)]), some (.tup [.int (E (0 + (u0 + u1)) - E 0), .int (E ((0 + (u0 + u1)) + u2) - E (0 + (u0 + u1))), .int (E (((0 + (u0 + u1)) + u2) + u3) - E ((0 + (u0 + u1)) + u2)), .int (E ((((0 + (u0 + u1)) + u2) + u3) + u4) - E (((0 + (u0 + u1)) + u2) + u3)), .int (E (((((0 + (u0 + u1)) + u2) + u3) + u4) + u5) - E ((((0 + (u0 + u1)) + u2) + u3) + u4))]), x24, x25] g := by
    unfold t_law_24
    rw [ev_seq, ev_set, ev_call]
    show ((m_recognised [.int sold, sh, .tup [.int (u0 + u1), .int (u2), .int (u3), .int (u4), .int (u5)]] g).go _).then _ = _
    rw [rJ]; rfl
  have s24 : t_law_25 [x0, x1, x2, x3, x4, x5, x6, x7, x8, x9, x10, x11, x12, x13, x14, x15, x16, some (.int sold), some sh, some (.tup [.int (u0), .int (u1), .int (u2), .int (u3), .int (u4), .int (u5)]), some (.tup [.int (E (0 + u0) - E 0), .int (E ((0 + u0) + u1) - E (0 + u0)), .int (E (((0 + u0) + u1) + u2) - E ((0 + u0) + u1)), .int (E ((((0 + u0) + u1) + u2) + u3) - E (((0 + u0) + u1) + u2)), .int (E (((((0 + u0) + u1) + u2) + u3) + u4) - E ((((0 + u0) + u1) + u2) + u3)), .int (E ((((((0 + u0) + u1) + u2) + u3) + u4) + u5) - E (((((0 + u0) + u1) + u2) + u3) + u4))]), some (.int 0), some (.tup [.int (u0 + u1), .int (u2), .int (u3), .int (u4), .int (u5)]), some (.tup [.int (E (0 + (u0 + u1)) - E 0), .int (E ((0 + (u0 + u1)) + u2) - E (0 + (u0 + u1))), .int (E (((0 + (u0 + u1)) + u2) + u3) - E ((0 + (u0 + u1)) + u2)), .int (E ((((0 + (u0 + u1)) + u2) + u3) + u4) - E (((0 + (u0 + u1)) + u2) + u3)), .int (E (((((0 + (u0 + u1)) + u2) + u3) + u4) + u5) - E ((((0 + (u0 + u1)) + u2) + u3) + u4))]), x24, x25] g = t_law_27 [x0, x1, x2, x3, x4, x5, x6, x7, x8, x9, x10, x11, x12, x13, x14, x15, x16, some (.int sold), some sh, some (.tup [.int (u0), .int (u1), .int (u2), .int (u3), .int (u4), .int (u5)]), some (.tup [.int (E (0 + u0) - E 0), .int (E ((0 + u0) + u1) - E (0 + u0)), .int (E (((0 + u0) + u1) + u2) - E ((0 + u0) + u1)), .int (E ((((0 + u0) + u1) + u2) + u3) - E (((0 + u0) + u1) + u2)), .int (E (((((0 + u0) + u1) + u2) + u3) + u4) - E ((((0 + u0) + u1) + u2) + u3)), .int (E ((((((0 + u0) + u1) + u2) + u3) + u4) + u5) - E (((((0 + u0) + u1) + u2) + u3) + u4))]), some (.int 0), some (.tup [.int (u0 + u1), .int (u2), .int (u3), .int (u4), .int (u5)]), some (.tup [.int (E (0 + (u0 + u1)) - E 0), .int (E ((0 + (u0 + u1)) + u2) - E (0 + (u0 + u1))), .int (E (((0 + (u0 + u1)) + u2) + u3) - E ((0 + (u0 + u1)) + u2)), .int (E ((((0 + (u0 + u1)) + u2) + u3) + u4) - E (((0 + (u0 + u1)) + u2) + u3)), .int (E (((((0 + (u0 + u1)) + u2) + u3) + u4) + u5) - E ((((0 + (u0 + u1)) + u2) + u3) + u4))]), some (.int (u0 / 2)), x25] g := by
    unfold t_law_25
    rw [ev_seq, ev_if, ev_tor]
    have c1 : isB (mOp neD (mVar 23) (mOp addD (mOp addD (mSl (mVar 20) oNone (oSome (mVar 21))) (mTup (mCons (mOp addD (mOp ixD (mVar 20) (mVar 21)) (mOp ixD (mVar 20) (mOp addD (mVar 21) (mC (.int 1))))) mNil))) (mSl (mVar 20) (oSome (mOp addD (mVar 21) (mC (.int 2)))) oNone))) [x0, x1, x2, x3, x4, x5, x6, x7, x8, x9, x10, x11, x12, x13, x14, x15, x16, some (.int sold), some sh, some (.tup [.int (u0), .int (u1), .int (u2), .int (u3), .int (u4), .int (u5)]), some (.tup [.int (E (0 + u0) - E 0), .int (E ((0 + u0) + u1) - E (0 + u0)), .int (E (((0 + u0) + u1) + u2) - E ((0 + u0) + u1)), .int (E ((((0 + u0) + u1) + u2) + u3) - E (((0 + u0) + u1) + u2)), .int (E (((((0 + u0) + u1) + u2) + u3) + u4) - E ((((0 + u0) + u1) + u2) + u3)), .int (E ((((((0 + u0) + u1) + u2) + u3) + u4) + u5) - E (((((0 + u0) + u1) + u2) + u3) + u4))]), some (.int 0), some (.tup [.int (u0 + u1), .int (u2), .int (u3), .int (u4), .int (u5)]), some (.tup [.int (E (0 + (u0 + u1)) - E 0), .int (E ((0 + (u0 + u1)) + u2) - E (0 + (u0 + u1))), .int (E (((0 + (u0 + u1)) + u2) + u3) - E ((0 + (u0 + u1)) + u2)), .int (E ((((0 + (u0 + u1)) + u2) + u3) + u4) - E (((0 + (u0 + u1)) + u2) + u3)), .int (E (((((0 + (u0 + u1)) + u2) + u3) + u4) + u5) - E ((((0 + (u0 + u1)) + u2) + u3) + u4))]), x24, x25] g = .ok false g := by
      unfold isB
      have v23 : mVar 23 [x0, x1, x2, x3, x4, x5, x6, x7, x8, x9, x10, x11, x12, x13, x14, x15, x16, some (.int sold), some sh, some (.tup [.int (u0), .int (u1), .int (u2), .int (u3), .int (u4), .int (u5)]), some (.tup [.int (E (0 + u0) - E 0), .int (E ((0 + u0) + u1) - E (0 + u0)), .int (E (((0 + u0) + u1) + u2) - E ((0 + u0) + u1)), .int (E ((((0 + u0) + u1) + u2) + u3) - E (((0 + u0) + u1) + u2)), .int (E (((((0 + u0) + u1) + u2) + u3) + u4) - E ((((0 + u0) + u1) + u2) + u3)), .int (E ((((((0 + u0) + u1) + u2) + u3) + u4) + u5) - E (((((0 + u0) + u1) + u2) + u3) + u4))]), some (.int 0), some (.tup [.int (u0 + u1), .int (u2), .int (u3), .int (u4), .int (u5)]), some (.tup [.int (E (0 + (u0 + u1)) - E 0), .int (E ((0 + (u0 + u1)) + u2) - E (0 + (u0 + u1))), .int (E (((0 + (u0 + u1)) + u2) + u3) - E ((0 + (u0 + u1)) + u2)), .int (E ((((0 + (u0 + u1)) + u2) + u3) + u4) - E (((0 + (u0 + u1)) + u2) + u3)), .int (E (((((0 + (u0 + u1)) + u2) + u3) + u4) + u5) - E ((((0 + (u0 + u1)) + u2) + u3) + u4))]), x24, x25] g = .ok (.tup [.int (E (0 + (u0 + u1)) - E 0), .int (E ((0 + (u0 + u1)) + u2) - E (0 + (u0 + u1))), .int (E (((0 + (u0 + u1)) + u2) + u3) - E ((0 + (u0 + u1)) + u2)), .int (E ((((0 + (u0 + u1)) + u2) + u3) + u4) - E (((0 + (u0 + u1)) + u2) + u3)), .int (E (((((0 + (u0 + u1)) + u2) + u3) + u4) + u5) - E ((((0 + (u0 + u1)) + u2) + u3) + u4))]) g := rfl
      rw [ev_op, v23, R.bind_ok, e23, R.bind_ok, n23]; rfl
    rw [c1, R.bind_ok]
    have c2 : isB (mOp neD (mCall m_still_owed (mCons (mVar 17) (mCons (mVar 18) (mCons (mVar 22) mNil)))) (mCall m_still_owed (mCons (mVar 17) (mCons (mVar 18) (mCons (mVar 19) mNil))))) [x0, x1, x2, x3, x4, x5, x6, x7, x8, x9, x10, x11, x12, x13, x14, x15, x16, some (.int sold), some sh, some (.tup [.int (u0), .int (u1), .int (u2), .int (u3), .int (u4), .int (u5)]), some (.tup [.int (E (0 + u0) - E 0), .int (E ((0 + u0) + u1) - E (0 + u0)), .int (E (((0 + u0) + u1) + u2) - E ((0 + u0) + u1)), .int (E ((((0 + u0) + u1) + u2) + u3) - E (((0 + u0) + u1) + u2)), .int (E (((((0 + u0) + u1) + u2) + u3) + u4) - E ((((0 + u0) + u1) + u2) + u3)), .int (E ((((((0 + u0) + u1) + u2) + u3) + u4) + u5) - E (((((0 + u0) + u1) + u2) + u3) + u4))]), some (.int 0), some (.tup [.int (u0 + u1), .int (u2), .int (u3), .int (u4), .int (u5)]), some (.tup [.int (E (0 + (u0 + u1)) - E 0), .int (E ((0 + (u0 + u1)) + u2) - E (0 + (u0 + u1))), .int (E (((0 + (u0 + u1)) + u2) + u3) - E ((0 + (u0 + u1)) + u2)), .int (E ((((0 + (u0 + u1)) + u2) + u3) + u4) - E (((0 + (u0 + u1)) + u2) + u3)), .int (E (((((0 + (u0 + u1)) + u2) + u3) + u4) + u5) - E ((((0 + (u0 + u1)) + u2) + u3) + u4))]), x24, x25] g = .ok false g := by
      unfold isB
      rw [ev_op, ev_call]
      show (((m_still_owed [.int sold, sh, .tup [.int (u0 + u1), .int (u2), .int (u3), .int (u4), .int (u5)]] g).bind fun x g1 => (m_still_owed [.int sold, sh, .tup [.int (u0), .int (u1), .int (u2), .int (u3), .int (u4), .int (u5)]] g1).bind fun y g2 => neD x y g2).bind _) = _
      rw [oJ, R.bind_ok, oU, R.bind_ok, vd_ne]
      simp only [decide_true, Bool.not_true]; rfl
    rw [if_neg Bool.false_ne_true, c2]
    rfl
  have s25 : t_law_27 [x0, x1, x2, x3, x4, x5, x6, x7, x8, x9, x10, x11, x12, x13, x14, x15, x16, some (.int sold), some sh, some (.tup [.int (u0), .int (u1), .int (u2), .int (u3), .int (u4), .int (u5)]), some (.tup [.int (E (0 + u0) - E 0), .int (E ((0 + u0) + u1) - E (0 + u0)), .int (E (((0 + u0) + u1) + u2) - E ((0 + u0) + u1)), .int (E ((((0 + u0) + u1) + u2) + u3) - E (((0 + u0) + u1) + u2)), .int (E (((((0 + u0) + u1) + u2) + u3) + u4) - E ((((0 + u0) + u1) + u2) + u3)), .int (E ((((((0 + u0) + u1) + u2) + u3) + u4) + u5) - E (((((0 + u0) + u1) + u2) + u3) + u4))]), some (.int 0), some (.tup [.int (u0 + u1), .int (u2), .int (u3), .int (u4), .int (u5)]), some (.tup [.int (E (0 + (u0 + u1)) - E 0), .int (E ((0 + (u0 + u1)) + u2) - E (0 + (u0 + u1))), .int (E (((0 + (u0 + u1)) + u2) + u3) - E ((0 + (u0 + u1)) + u2)), .int (E ((((0 + (u0 + u1)) + u2) + u3) + u4) - E (((0 + (u0 + u1)) + u2) + u3)), .int (E (((((0 + (u0 + u1)) + u2) + u3) + u4) + u5) - E ((((0 + (u0 + u1)) + u2) + u3) + u4))]), some (.int (u0 / 2)), x25] g = t_law_28 [x0, x1, x2, x3, x4, x5, x6, x7, x8, x9, x10, x11, x12, x13, x14, x15, x16, some (.int sold), some sh, some (.tup [.int (u0), .int (u1), .int (u2), .int (u3), .int (u4), .int (u5)]), some (.tup [.int (E (0 + u0) - E 0), .int (E ((0 + u0) + u1) - E (0 + u0)), .int (E (((0 + u0) + u1) + u2) - E ((0 + u0) + u1)), .int (E ((((0 + u0) + u1) + u2) + u3) - E (((0 + u0) + u1) + u2)), .int (E (((((0 + u0) + u1) + u2) + u3) + u4) - E ((((0 + u0) + u1) + u2) + u3)), .int (E ((((((0 + u0) + u1) + u2) + u3) + u4) + u5) - E (((((0 + u0) + u1) + u2) + u3) + u4))]), some (.int 0), some (.tup [.int (u0 + u1), .int (u2), .int (u3), .int (u4), .int (u5)]), some (.tup [.int (E (0 + (u0 + u1)) - E 0), .int (E ((0 + (u0 + u1)) + u2) - E (0 + (u0 + u1))), .int (E (((0 + (u0 + u1)) + u2) + u3) - E ((0 + (u0 + u1)) + u2)), .int (E ((((0 + (u0 + u1)) + u2) + u3) + u4) - E (((0 + (u0 + u1)) + u2) + u3)), .int (E (((((0 + (u0 + u1)) + u2) + u3) + u4) + u5) - E ((((0 + (u0 + u1)) + u2) + u3) + u4))]), some (.int (u0 / 2)), some (.tup [.int (E (0 + (u0 / 2)) - E 0), .int (E ((0 + (u0 / 2)) + (u0 - u0 / 2)) - E (0 + (u0 / 2))), .int (E (((0 + (u0 / 2)) + (u0 - u0 / 2)) + u1) - E ((0 + (u0 / 2)) + (u0 - u0 / 2))), .int (E ((((0 + (u0 / 2)) + (u0 - u0 / 2)) + u1) + u2) - E (((0 + (u0 / 2)) + (u0 - u0 / 2)) + u1)), .int (E (((((0 + (u0 / 2)) + (u0 - u0 / 2)) + u1) + u2) + u3) - E ((((0 + (u0 / 2)) + (u0 - u0 / 2)) + u1) + u2)), .int (E ((((((0 + (u0 / 2)) + (u0 - u0 / 2)) + u1) + u2) + u3) + u4) - E (((((0 + (u0 / 2)) + (u0 - u0 / 2)) + u1) + u2) + u3)), .int (E (((((((0 + (u0 / 2)) + (u0 - u0 / 2)) + u1) + u2) + u3) + u4) + u5) - E ((((((0 + (u0 / 2)) + (u0 - u0 / 2)) + u1) + u2) + u3) + u4))])] g := by
    unfold t_law_27
    rw [ev_seq, ev_set, ev_call]
    have a1 : (mCons (mVar 17) (mCons (mVar 18) (mCons (mOp addD (mOp addD (mSl (mVar 19) oNone (oSome (mVar 21))) (mTup (mCons (mVar 24) (mCons (mOp subD (mOp ixD (mVar 19) (mVar 21)) (mVar 24)) mNil)))) (mSl (mVar 19) (oSome (mOp addD (mVar 21) (mC (.int 1)))) oNone)) mNil))) [x0, x1, x2, x3, x4, x5, x6, x7, x8, x9, x10, x11, x12, x13, x14, x15, x16, some (.int sold), some sh, some (.tup [.int (u0), .int (u1), .int (u2), .int (u3), .int (u4), .int (u5)]), some (.tup [.int (E (0 + u0) - E 0), .int (E ((0 + u0) + u1) - E (0 + u0)), .int (E (((0 + u0) + u1) + u2) - E ((0 + u0) + u1)), .int (E ((((0 + u0) + u1) + u2) + u3) - E (((0 + u0) + u1) + u2)), .int (E (((((0 + u0) + u1) + u2) + u3) + u4) - E ((((0 + u0) + u1) + u2) + u3)), .int (E ((((((0 + u0) + u1) + u2) + u3) + u4) + u5) - E (((((0 + u0) + u1) + u2) + u3) + u4))]), some (.int 0), some (.tup [.int (u0 + u1), .int (u2), .int (u3), .int (u4), .int (u5)]), some (.tup [.int (E (0 + (u0 + u1)) - E 0), .int (E ((0 + (u0 + u1)) + u2) - E (0 + (u0 + u1))), .int (E (((0 + (u0 + u1)) + u2) + u3) - E ((0 + (u0 + u1)) + u2)), .int (E ((((0 + (u0 + u1)) + u2) + u3) + u4) - E (((0 + (u0 + u1)) + u2) + u3)), .int (E (((((0 + (u0 + u1)) + u2) + u3) + u4) + u5) - E ((((0 + (u0 + u1)) + u2) + u3) + u4))]), some (.int (u0 / 2)), x25] g = .ok [.int sold, sh, .tup [.int (u0 / 2), .int (u0 - u0 / 2), .int (u1), .int (u2), .int (u3), .int (u4), .int (u5)]] g := by
      have v17 : mVar 17 [x0, x1, x2, x3, x4, x5, x6, x7, x8, x9, x10, x11, x12, x13, x14, x15, x16, some (.int sold), some sh, some (.tup [.int (u0), .int (u1), .int (u2), .int (u3), .int (u4), .int (u5)]), some (.tup [.int (E (0 + u0) - E 0), .int (E ((0 + u0) + u1) - E (0 + u0)), .int (E (((0 + u0) + u1) + u2) - E ((0 + u0) + u1)), .int (E ((((0 + u0) + u1) + u2) + u3) - E (((0 + u0) + u1) + u2)), .int (E (((((0 + u0) + u1) + u2) + u3) + u4) - E ((((0 + u0) + u1) + u2) + u3)), .int (E ((((((0 + u0) + u1) + u2) + u3) + u4) + u5) - E (((((0 + u0) + u1) + u2) + u3) + u4))]), some (.int 0), some (.tup [.int (u0 + u1), .int (u2), .int (u3), .int (u4), .int (u5)]), some (.tup [.int (E (0 + (u0 + u1)) - E 0), .int (E ((0 + (u0 + u1)) + u2) - E (0 + (u0 + u1))), .int (E (((0 + (u0 + u1)) + u2) + u3) - E ((0 + (u0 + u1)) + u2)), .int (E ((((0 + (u0 + u1)) + u2) + u3) + u4) - E (((0 + (u0 + u1)) + u2) + u3)), .int (E (((((0 + (u0 + u1)) + u2) + u3) + u4) + u5) - E ((((0 + (u0 + u1)) + u2) + u3) + u4))]), some (.int (u0 / 2)), x25] g = .ok (.int sold) g := rfl
      have v18 : mVar 18 [x0, x1, x2, x3, x4, x5, x6, x7, x8, x9, x10, x11, x12, x13, x14, x15, x16, some (.int sold), some sh, some (.tup [.int (u0), .int (u1), .int (u2), .int (u3), .int (u4), .int (u5)]), some (.tup [.int (E (0 + u0) - E 0), .int (E ((0 + u0) + u1) - E (0 + u0)), .int (E (((0 + u0) + u1) + u2) - E ((0 + u0) + u1)), .int (E ((((0 + u0) + u1) + u2) + u3) - E (((0 + u0) + u1) + u2)), .int (E (((((0 + u0) + u1) + u2) + u3) + u4) - E ((((0 + u0) + u1) + u2) + u3)), .int (E ((((((0 + u0) + u1) + u2) + u3) + u4) + u5) - E (((((0 + u0) + u1) + u2) + u3) + u4))]), some (.int 0), some (.tup [.int (u0 + u1), .int (u2), .int (u3), .int (u4), .int (u5)]), some (.tup [.int (E (0 + (u0 + u1)) - E 0), .int (E ((0 + (u0 + u1)) + u2) - E (0 + (u0 + u1))), .int (E (((0 + (u0 + u1)) + u2) + u3) - E ((0 + (u0 + u1)) + u2)), .int (E ((((0 + (u0 + u1)) + u2) + u3) + u4) - E (((0 + (u0 + u1)) + u2) + u3)), .int (E (((((0 + (u0 + u1)) + u2) + u3) + u4) + u5) - E ((((0 + (u0 + u1)) + u2) + u3) + u4))]), some (.int (u0 / 2)), x25] g = .ok sh g := rfl
      rw [ev_cons, v17, R.bind_ok, ev_cons, v18, R.bind_ok, ev_cons, e25, R.bind_ok, ev_nil]; rfl
    rw [a1, R.bind_ok, rC]; rfl
  rw [s22, s23, s24, s25]
  have hh : ((0 + (u0 / 2)) + (u0 - u0 / 2)) = (0 + u0) := by omega
  have dA : isB (mOp neD (mSl (mVar 25) oNone (oSome (mVar 21))) (mSl (mVar 20) oNone (oSome (mVar 21)))) [x0, x1, x2, x3, x4, x5, x6, x7, x8, x9, x10, x11, x12, x13, x14, x15, x16, some (.int sold), some sh, some (.tup [.int (u0), .int (u1), .int (u2), .int (u3), .int (u4), .int (u5)]), some (.tup [.int (E (0 + u0) - E 0), .int (E ((0 + u0) + u1) - E (0 + u0)), .int (E (((0 + u0) + u1) + u2) - E ((0 + u0) + u1)), .int (E ((((0 + u0) + u1) + u2) + u3) - E (((0 + u0) + u1) + u2)), .int (E (((((0 + u0) + u1) + u2) + u3) + u4) - E ((((0 + u0) + u1) + u2) + u3)), .int (E ((((((0 + u0) + u1) + u2) + u3) + u4) + u5) - E (((((0 + u0) + u1) + u2) + u3) + u4))]), some (.int 0), some (.tup [.int (u0 + u1), .int (u2), .int (u3), .int (u4), .int (u5)]), some (.tup [.int (E (0 + (u0 + u1)) - E 0), .int (E ((0 + (u0 + u1)) + u2) - E (0 + (u0 + u1))), .int (E (((0 + (u0 + u1)) + u2) + u3) - E ((0 + (u0 + u1)) + u2)), .int (E ((((0 + (u0 + u1)) + u2) + u3) + u4) - E (((0 + (u0 + u1)) + u2) + u3)), .int (E (((((0 + (u0 + u1)) + u2) + u3) + u4) + u5) - E ((((0 + (u0 + u1)) + u2) + u3) + u4))]), some (.int (u0 / 2)), some (.tup [.int (E (0 + (u0 / 2)) - E 0), .int (E ((0 + (u0 / 2)) + (u0 - u0 / 2)) - E (0 + (u0 / 2))), .int (E (((0 + (u0 / 2)) + (u0 - u0 / 2)) + u1) - E ((0 + (u0 / 2)) + (u0 - u0 / 2))), .int (E ((((0 + (u0 / 2)) + (u0 - u0 / 2)) + u1) + u2) - E (((0 + (u0 / 2)) + (u0 - u0 / 2)) + u1)), .int (E (((((0 + (u0 / 2)) + (u0 - u0 / 2)) + u1) + u2) + u3) - E ((((0 + (u0 / 2)) + (u0 - u0 / 2)) + u1) + u2)), .int (E ((((((0 + (u0 / 2)) + (u0 - u0 / 2)) + u1) + u2) + u3) + u4) - E (((((0 + (u0 / 2)) + (u0 - u0 / 2)) + u1) + u2) + u3)), .int (E (((((((0 + (u0 / 2)) + (u0 - u0 / 2)) + u1) + u2) + u3) + u4) + u5) - E ((((((0 + (u0 / 2)) + (u0 - u0 / 2)) + u1) + u2) + u3) + u4))])] g = .ok false g := by
    unfold isB
    have w1 : mSl (mVar 25) oNone (oSome (mVar 21)) [x0, x1, x2, x3, x4, x5, x6, x7, x8, x9, x10, x11, x12, x13, x14, x15, x16, some (.int sold), some sh, some (.tup [.int (u0), .int (u1), .int (u2), .int (u3), .int (u4), .int (u5)]), some (.tup [.int (E (0 + u0) - E 0), .int (E ((0 + u0) + u1) - E (0 + u0)), .int (E (((0 + u0) + u1) + u2) - E ((0 + u0) + u1)), .int (E ((((0 + u0) + u1) + u2) + u3) - E (((0 + u0) + u1) + u2)), .int (E (((((0 + u0) + u1) + u2) + u3) + u4) - E ((((0 + u0) + u1) + u2) + u3)), .int (E ((((((0 + u0) + u1) + u2) + u3) + u4) + u5) - E (((((0 + u0) + u1) + u2) + u3) + u4))]), some (.int 0), some (.tup [.int (u0 + u1), .int (u2), .int (u3), .int (u4), .int (u5)]), some (.tup [.int (E (0 + (u0 + u1)) - E 0), .int (E ((0 + (u0 + u1)) + u2) - E (0 + (u0 + u1))), .int (E (((0 + (u0 + u1)) + u2) + u3) - E ((0 + (u0 + u1)) + u2)), .int (E ((((0 + (u0 + u1)) + u2) + u3) + u4) - E (((0 + (u0 + u1)) + u2) + u3)), .int (E (((((0 + (u0 + u1)) + u2) + u3) + u4) + u5) - E ((((0 + (u0 + u1)) + u2) + u3) + u4))]), some (.int (u0 / 2)), some (.tup [.int (E (0 + (u0 / 2)) - E 0), .int (E ((0 + (u0 / 2)) + (u0 - u0 / 2)) - E (0 + (u0 / 2))), .int (E (((0 + (u0 / 2)) + (u0 - u0 / 2)) + u1) - E ((0 + (u0 / 2)) + (u0 - u0 / 2))), .int (E ((((0 + (u0 / 2)) + (u0 - u0 / 2)) + u1) + u2) - E (((0 + (u0 / 2)) + (u0 - u0 / 2)) + u1)), .int (E (((((0 + (u0 / 2)) + (u0 - u0 / 2)) + u1) + u2) + u3) - E ((((0 + (u0 / 2)) + (u0 - u0 / 2)) + u1) + u2)), .int (E ((((((0 + (u0 / 2)) + (u0 - u0 / 2)) + u1) + u2) + u3) + u4) - E (((((0 + (u0 / 2)) + (u0 - u0 / 2)) + u1) + u2) + u3)), .int (E (((((((0 + (u0 / 2)) + (u0 - u0 / 2)) + u1) + u2) + u3) + u4) + u5) - E ((((((0 + (u0 / 2)) + (u0 - u0 / 2)) + u1) + u2) + u3) + u4))])] g = .ok (.tup []) g := rfl
    have w2 : mSl (mVar 20) oNone (oSome (mVar 21)) [x0, x1, x2, x3, x4, x5, x6, x7, x8, x9, x10, x11, x12, x13, x14, x15, x16, some (.int sold), some sh, some (.tup [.int (u0), .int (u1), .int (u2), .int (u3), .int (u4), .int (u5)]), some (.tup [.int (E (0 + u0) - E 0), .int (E ((0 + u0) + u1) - E (0 + u0)), .int (E (((0 + u0) + u1) + u2) - E ((0 + u0) + u1)), .int (E ((((0 + u0) + u1) + u2) + u3) - E (((0 + u0) + u1) + u2)), .int (E (((((0 + u0) + u1) + u2) + u3) + u4) - E ((((0 + u0) + u1) + u2) + u3)), .int (E ((((((0 + u0) + u1) + u2) + u3) + u4) + u5) - E (((((0 + u0) + u1) + u2) + u3) + u4))]), some (.int 0), some (.tup [.int (u0 + u1), .int (u2), .int (u3), .int (u4), .int (u5)]), some (.tup [.int (E (0 + (u0 + u1)) - E 0), .int (E ((0 + (u0 + u1)) + u2) - E (0 + (u0 + u1))), .int (E (((0 + (u0 + u1)) + u2) + u3) - E ((0 + (u0 + u1)) + u2)), .int (E ((((0 + (u0 + u1)) + u2) + u3) + u4) - E (((0 + (u0 + u1)) + u2) + u3)), .int (E (((((0 + (u0 + u1)) + u2) + u3) + u4) + u5) - E ((((0 + (u0 + u1)) + u2) + u3) + u4))]), some (.int (u0 / 2)), some (.tup [.int (E (0 + (u0 / 2)) - E 0), .int (E ((0 + (u0 / 2)) + (u0 - u0 / 2)) - E (0 + (u0 / 2))), .int (E (((0 + (u0 / 2)) + (u0 - u0 / 2)) + u1) - E ((0 + (u0 / 2)) + (u0 - u0 / 2))), .int (E ((((0 + (u0 / 2)) + (u0 - u0 / 2)) + u1) + u2) - E (((0 + (u0 / 2)) + (u0 - u0 / 2)) + u1)), .int (E (((((0 + (u0 / 2)) + (u0 - u0 / 2)) + u1) + u2) + u3) - E ((((0 + (u0 / 2)) + (u0 - u0 / 2)) + u1) + u2)), .int (E ((((((0 + (u0 / 2)) + (u0 - u0 / 2)) + u1) + u2) + u3) + u4) - E (((((0 + (u0 / 2)) + (u0 - u0 / 2)) + u1) + u2) + u3)), .int (E (((((((0 + (u0 / 2)) + (u0 - u0 / 2)) + u1) + u2) + u3) + u4) + u5) - E ((((((0 + (u0 / 2)) + (u0 - u0 / 2)) + u1) + u2) + u3) + u4))])] g = .ok (.tup []) g := rfl
    rw [ev_op, w1, R.bind_ok, w2, R.bind_ok, show neD (.tup []) (.tup []) g = .ok (.bl false) g from vd_neT [] g]; rfl
  have dB : isB (mOp neD (mOp addD (mOp ixD (mVar 25) (mVar 21)) (mOp ixD (mVar 25) (mOp addD (mVar 21) (mC (.int 1))))) (mOp ixD (mVar 20) (mVar 21))) [x0, x1, x2, x3, x4, x5, x6, x7, x8, x9, x10, x11, x12, x13, x14, x15, x16, some (.int sold), some sh, some (.tup [.int (u0), .int (u1), .int (u2), .int (u3), .int (u4), .int (u5)]), some (.tup [.int (E (0 + u0) - E 0), .int (E ((0 + u0) + u1) - E (0 + u0)), .int (E (((0 + u0) + u1) + u2) - E ((0 + u0) + u1)), .int (E ((((0 + u0) + u1) + u2) + u3) - E (((0 + u0) + u1) + u2)), .int (E (((((0 + u0) + u1) + u2) + u3) + u4) - E ((((0 + u0) + u1) + u2) + u3)), .int (E ((((((0 + u0) + u1) + u2) + u3) + u4) + u5) - E (((((0 + u0) + u1) + u2) + u3) + u4))]), some (.int 0), some (.tup [.int (u0 + u1), .int (u2), .int (u3), .int (u4), .int (u5)]), some (.tup [.int (E (0 + (u0 + u1)) - E 0), .int (E ((0 + (u0 + u1)) + u2) - E (0 + (u0 + u1))), .int (E (((0 + (u0 + u1)) + u2) + u3) - E ((0 + (u0 + u1)) + u2)), .int (E ((((0 + (u0 + u1)) + u2) + u3) + u4) - E (((0 + (u0 + u1)) + u2) + u3)), .int (E (((((0 + (u0 + u1)) + u2) + u3) + u4) + u5) - E ((((0 + (u0 + u1)) + u2) + u3) + u4))]), some (.int (u0 / 2)), some (.tup [.int (E (0 + (u0 / 2)) - E 0), .int (E ((0 + (u0 / 2)) + (u0 - u0 / 2)) - E (0 + (u0 / 2))), .int (E (((0 + (u0 / 2)) + (u0 - u0 / 2)) + u1) - E ((0 + (u0 / 2)) + (u0 - u0 / 2))), .int (E ((((0 + (u0 / 2)) + (u0 - u0 / 2)) + u1) + u2) - E (((0 + (u0 / 2)) + (u0 - u0 / 2)) + u1)), .int (E (((((0 + (u0 / 2)) + (u0 - u0 / 2)) + u1) + u2) + u3) - E ((((0 + (u0 / 2)) + (u0 - u0 / 2)) + u1) + u2)), .int (E ((((((0 + (u0 / 2)) + (u0 - u0 / 2)) + u1) + u2) + u3) + u4) - E (((((0 + (u0 / 2)) + (u0 - u0 / 2)) + u1) + u2) + u3)), .int (E (((((((0 + (u0 / 2)) + (u0 - u0 / 2)) + u1) + u2) + u3) + u4) + u5) - E ((((((0 + (u0 / 2)) + (u0 - u0 / 2)) + u1) + u2) + u3) + u4))])] g = .ok false g := by
    unfold isB
    have w1 : mOp addD (mOp ixD (mVar 25) (mVar 21)) (mOp ixD (mVar 25) (mOp addD (mVar 21) (mC (.int 1)))) [x0, x1, x2, x3, x4, x5, x6, x7, x8, x9, x10, x11, x12, x13, x14, x15, x16, some (.int sold), some sh, some (.tup [.int (u0), .int (u1), .int (u2), .int (u3), .int (u4), .int (u5)]), some (.tup [.int (E (0 + u0) - E 0), .int (E ((0 + u0) + u1) - E (0 + u0)), .int (E (((0 + u0) + u1) + u2) - E ((0 + u0) + u1)), .int (E ((((0 + u0) + u1) + u2) + u3) - E (((0 + u0) + u1) + u2)), .int (E (((((0 + u0) + u1) + u2) + u3) + u4) - E ((((0 + u0) + u1) + u2) + u3)), .int (E ((((((0 + u0) + u1) + u2) + u3) + u4) + u5) - E (((((0 + u0) + u1) + u2) + u3) + u4))]), some (.int 0), some (.tup [.int (u0 + u1), .int (u2), .int (u3), .int (u4), .int (u5)]), some (.tup [.int (E (0 + (u0 + u1)) - E 0), .int (E ((0 + (u0 + u1)) + u2) - E (0 + (u0 + u1))), .int (E (((0 + (u0 + u1)) + u2) + u3) - E ((0 + (u0 + u1)) + u2)), .int (E ((((0 + (u0 + u1)) + u2) + u3) + u4) - E (((0 + (u0 + u1)) + u2) + u3)), .int (E (((((0 + (u0 + u1)) + u2) + u3) + u4) + u5) - E ((((0 + (u0 + u1)) + u2) + u3) + u4))]), some (.int (u0 / 2)), some (.tup [.int (E (0 + (u0 / 2)) - E 0), .int (E ((0 + (u0 / 2)) + (u0 - u0 / 2)) - E (0 + (u0 / 2))), .int (E (((0 + (u0 / 2)) + (u0 - u0 / 2)) + u1) - E ((0 + (u0 / 2)) + (u0 - u0 / 2))), .int (E ((((0 + (u0 / 2)) + (u0 - u0 / 2)) + u1) + u2) - E (((0 + (u0 / 2)) + (u0 - u0 / 2)) + u1)), .int (E (((((0 + (u0 / 2)) + (u0 - u0 / 2)) + u1) + u2) + u3) - E ((((0 + (u0 / 2)) + (u0 - u0 / 2)) + u1) + u2)), .int (E ((((((0 + (u0 / 2)) + (u0 - u0 / 2)) + u1) + u2) + u3) + u4) - E (((((0 + (u0 / 2)) + (u0 - u0 / 2)) + u1) + u2) + u3)), .int (E (((((((0 + (u0 / 2)) + (u0 - u0 / 2)) + u1) + u2) + u3) + u4) + u5) - E ((((((0 + (u0 / 2)) + (u0 - u0 / 2)) + u1) + u2) + u3) + u4))])] g = .ok (.int (E (0 + (u0 / 2)) - E 0 + (E ((0 + (u0 / 2)) + (u0 - u0 / 2)) - E (0 + (u0 / 2))))) g := rfl
    have w2 : mOp ixD (mVar 20) (mVar 21) [x0, x1, x2, x3, x4, x5, x6, x7, x8, x9, x10, x11, x12, x13, x14, x15, x16, some (.int sold), some sh, some (.tup [.int (u0), .int (u1), .int (u2), .int (u3), .int (u4), .int (u5)]), some (.tup [.int (E (0 + u0) - E 0), .int (E ((0 + u0) + u1) - E (0 + u0)), .int (E (((0 + u0) + u1) + u2) - E ((0 + u0) + u1)), .int (E ((((0 + u0) + u1) + u2) + u3) - E (((0 + u0) + u1) + u2)), .int (E (((((0 + u0) + u1) + u2) + u3) + u4) - E ((((0 + u0) + u1) + u2) + u3)), .int (E ((((((0 + u0) + u1) + u2) + u3) + u4) + u5) - E (((((0 + u0) + u1) + u2) + u3) + u4))]), some (.int 0), some (.tup [.int (u0 + u1), .int (u2), .int (u3), .int (u4), .int (u5)]), some (.tup [.int (E (0 + (u0 + u1)) - E 0), .int (E ((0 + (u0 + u1)) + u2) - E (0 + (u0 + u1))), .int (E (((0 + (u0 + u1)) + u2) + u3) - E ((0 + (u0 + u1)) + u2)), .int (E ((((0 + (u0 + u1)) + u2) + u3) + u4) - E (((0 + (u0 + u1)) + u2) + u3)), .int (E (((((0 + (u0 + u1)) + u2) + u3) + u4) + u5) - E ((((0 + (u0 + u1)) + u2) + u3) + u4))]), some (.int (u0 / 2)), some (.tup [.int (E (0 + (u0 / 2)) - E 0), .int (E ((0 + (u0 / 2)) + (u0 - u0 / 2)) - E (0 + (u0 / 2))), .int (E (((0 + (u0 / 2)) + (u0 - u0 / 2)) + u1) - E ((0 + (u0 / 2)) + (u0 - u0 / 2))), .int (E ((((0 + (u0 / 2)) + (u0 - u0 / 2)) + u1) + u2) - E (((0 + (u0 / 2)) + (u0 - u0 / 2)) + u1)), .int (E (((((0 + (u0 / 2)) + (u0 - u0 / 2)) + u1) + u2) + u3) - E ((((0 + (u0 / 2)) + (u0 - u0 / 2)) + u1) + u2)), .int (E ((((((0 + (u0 / 2)) + (u0 - u0 / 2)) + u1) + u2) + u3) + u4) - E (((((0 + (u0 / 2)) + (u0 - u0 / 2)) + u1) + u2) + u3)), .int (E (((((((0 + (u0 / 2)) + (u0 - u0 / 2)) + u1) + u2) + u3) + u4) + u5) - E ((((((0 + (u0 / 2)) + (u0 - u0 / 2)) + u1) + u2) + u3) + u4))])] g = .ok (.int (E (0 + u0) - E 0)) g := rfl
    rw [ev_op, w1, R.bind_ok, w2, R.bind_ok, vd_ne, hh]
    have : E (0 + (u0 / 2)) - E 0 + (E (0 + u0) - E (0 + (u0 / 2))) = E (0 + u0) - E 0 := by omega
    rw [decide_eq_true this]; rfl
  have dC : isB (mOp neD (mSl (mVar 25) (oSome (mOp addD (mVar 21) (mC (.int 2)))) oNone) (mSl (mVar 20) (oSome (mOp addD (mVar 21) (mC (.int 1)))) oNone)) [x0, x1, x2, x3, x4, x5, x6, x7, x8, x9, x10, x11, x12, x13, x14, x15, x16, some (.int sold), some sh, some (.tup [.int (u0), .int (u1), .int (u2), .int (u3), .int (u4), .int (u5)]), some (.tup [.int (E (0 + u0) - E 0), .int (E ((0 + u0) + u1) - E (0 + u0)), .int (E (((0 + u0) + u1) + u2) - E ((0 + u0) + u1)), .int (E ((((0 + u0) + u1) + u2) + u3) - E (((0 + u0) + u1) + u2)), .int (E (((((0 + u0) + u1) + u2) + u3) + u4) - E ((((0 + u0) + u1) + u2) + u3)), .int (E ((((((0 + u0) + u1) + u2) + u3) + u4) + u5) - E (((((0 + u0) + u1) + u2) + u3) + u4))]), some (.int 0), some (.tup [.int (u0 + u1), .int (u2), .int (u3), .int (u4), .int (u5)]), some (.tup [.int (E (0 + (u0 + u1)) - E 0), .int (E ((0 + (u0 + u1)) + u2) - E (0 + (u0 + u1))), .int (E (((0 + (u0 + u1)) + u2) + u3) - E ((0 + (u0 + u1)) + u2)), .int (E ((((0 + (u0 + u1)) + u2) + u3) + u4) - E (((0 + (u0 + u1)) + u2) + u3)), .int (E (((((0 + (u0 + u1)) + u2) + u3) + u4) + u5) - E ((((0 + (u0 + u1)) + u2) + u3) + u4))]), some (.int (u0 / 2)), some (.tup [.int (E (0 + (u0 / 2)) - E 0), .int (E ((0 + (u0 / 2)) + (u0 - u0 / 2)) - E (0 + (u0 / 2))), .int (E (((0 + (u0 / 2)) + (u0 - u0 / 2)) + u1) - E ((0 + (u0 / 2)) + (u0 - u0 / 2))), .int (E ((((0 + (u0 / 2)) + (u0 - u0 / 2)) + u1) + u2) - E (((0 + (u0 / 2)) + (u0 - u0 / 2)) + u1)), .int (E (((((0 + (u0 / 2)) + (u0 - u0 / 2)) + u1) + u2) + u3) - E ((((0 + (u0 / 2)) + (u0 - u0 / 2)) + u1) + u2)), .int (E ((((((0 + (u0 / 2)) + (u0 - u0 / 2)) + u1) + u2) + u3) + u4) - E (((((0 + (u0 / 2)) + (u0 - u0 / 2)) + u1) + u2) + u3)), .int (E (((((((0 + (u0 / 2)) + (u0 - u0 / 2)) + u1) + u2) + u3) + u4) + u5) - E ((((((0 + (u0 / 2)) + (u0 - u0 / 2)) + u1) + u2) + u3) + u4))])] g = .ok false g := by
    unfold isB
    have w1 : mSl (mVar 25) (oSome (mOp addD (mVar 21) (mC (.int 2)))) oNone [x0, x1, x2, x3, x4, x5, x6, x7, x8, x9, x10, x11, x12, x13, x14, x15, x16, some (.int sold), some sh, some (.tup [.int (u0), .int (u1), .int (u2), .int (u3), .int (u4), .int (u5)]), some (.tup [.int (E (0 + u0) - E 0), .int (E ((0 + u0) + u1) - E (0 + u0)), .int (E (((0 + u0) + u1) + u2) - E ((0 + u0) + u1)), .int (E ((((0 + u0) + u1) + u2) + u3) - E (((0 + u0) + u1) + u2)), .int (E (((((0 + u0) + u1) + u2) + u3) + u4) - E ((((0 + u0) + u1) + u2) + u3)), .int (E ((((((0 + u0) + u1) + u2) + u3) + u4) + u5) - E (((((0 + u0) + u1) + u2) + u3) + u4))]), some (.int 0), some (.tup [.int (u0 + u1), .int (u2), .int (u3), .int (u4), .int (u5)]), some (.tup [.int (E (0 + (u0 + u1)) - E 0), .int (E ((0 + (u0 + u1)) + u2) - E (0 + (u0 + u1))), .int (E (((0 + (u0 + u1)) + u2) + u3) - E ((0 + (u0 + u1)) + u2)), .int (E ((((0 + (u0 + u1)) + u2) + u3) + u4) - E (((0 + (u0 + u1)) + u2) + u3)), .int (E (((((0 + (u0 + u1)) + u2) + u3) + u4) + u5) - E ((((0 + (u0 + u1)) + u2) + u3) + u4))]), some (.int (u0 / 2)), some (.tup [.int (E (0 + (u0 / 2)) - E 0), .int (E ((0 + (u0 / 2)) + (u0 - u0 / 2)) - E (0 + (u0 / 2))), .int (E (((0 + (u0 / 2)) + (u0 - u0 / 2)) + u1) - E ((0 + (u0 / 2)) + (u0 - u0 / 2))), .int (E ((((0 + (u0 / 2)) + (u0 - u0 / 2)) + u1) + u2) - E (((0 + (u0 / 2)) + (u0 - u0 / 2)) + u1)), .int (E (((((0 + (u0 / 2)) + (u0 - u0 / 2)) + u1) + u2) + u3) - E ((((0 + (u0 / 2)) + (u0 - u0 / 2)) + u1) + u2)), .int (E ((((((0 + (u0 / 2)) + (u0 - u0 / 2)) + u1) + u2) + u3) + u4) - E (((((0 + (u0 / 2)) + (u0 - u0 / 2)) + u1) + u2) + u3)), .int (E (((((((0 + (u0 / 2)) + (u0 - u0 / 2)) + u1) + u2) + u3) + u4) + u5) - E ((((((0 + (u0 / 2)) + (u0 - u0 / 2)) + u1) + u2) + u3) + u4))])] g = .ok (.tup [.int (E (((0 + (u0 / 2)) + (u0 - u0 / 2)) + u1) - E ((0 + (u0 / 2)) + (u0 - u0 / 2))), .int (E ((((0 + (u0 / 2)) + (u0 - u0 / 2)) + u1) + u2) - E (((0 + (u0 / 2)) + (u0 - u0 / 2)) + u1)), .int (E (((((0 + (u0 / 2)) + (u0 - u0 / 2)) + u1) + u2) + u3) - E ((((0 + (u0 / 2)) + (u0 - u0 / 2)) + u1) + u2)), .int (E ((((((0 + (u0 / 2)) + (u0 - u0 / 2)) + u1) + u2) + u3) + u4) - E (((((0 + (u0 / 2)) + (u0 - u0 / 2)) + u1) + u2) + u3)), .int (E (((((((0 + (u0 / 2)) + (u0 - u0 / 2)) + u1) + u2) + u3) + u4) + u5) - E ((((((0 + (u0 / 2)) + (u0 - u0 / 2)) + u1) + u2) + u3) + u4))]) g := rfl
    have w2 : mSl (mVar 20) (oSome (mOp addD (mVar 21) (mC (.int 1)))) oNone [x0, x1, x2, x3, x4, x5, x6, x7, x8, x9, x10, x11, x12, x13, x14, x15, x16, some (.int sold), some sh, some (.tup [.int (u0), .int (u1), .int (u2), .int (u3), .int (u4), .int (u5)]), some (.tup [.int (E (0 + u0) - E 0), .int (E ((0 + u0) + u1) - E (0 + u0)), .int (E (((0 + u0) + u1) + u2) - E ((0 + u0) + u1)), .int (E ((((0 + u0) + u1) + u2) + u3) - E (((0 + u0) + u1) + u2)), .int (E (((((0 + u0) + u1) + u2) + u3) + u4) - E ((((0 + u0) + u1) + u2) + u3)), .int (E ((((((0 + u0) + u1) + u2) + u3) + u4) + u5) - E (((((0 + u0) + u1) + u2) + u3) + u4))]), some (.int 0), some (.tup [.int (u0 + u1), .int (u2), .int (u3), .int (u4), .int (u5)]), some (.tup [.int (E (0 + (u0 + u1)) - E 0), .int (E ((0 + (u0 + u1)) + u2) - E (0 + (u0 + u1))), .int (E (((0 + (u0 + u1)) + u2) + u3) - E ((0 + (u0 + u1)) + u2)), .int (E ((((0 + (u0 + u1)) + u2) + u3) + u4) - E (((0 + (u0 + u1)) + u2) + u3)), .int (E (((((0 + (u0 + u1)) + u2) + u3) + u4) + u5) - E ((((0 + (u0 + u1)) + u2) + u3) + u4))]), some (.int (u0 / 2)), some (.tup [.int (E (0 + (u0 / 2)) - E 0), .int (E ((0 + (u0 / 2)) + (u0 - u0 / 2)) - E (0 + (u0 / 2))), .int (E (((0 + (u0 / 2)) + (u0 - u0 / 2)) + u1) - E ((0 + (u0 / 2)) + (u0 - u0 / 2))), .int (E ((((0 + (u0 / 2)) + (u0 - u0 / 2)) + u1) + u2) - E (((0 + (u0 / 2)) + (u0 - u0 / 2)) + u1)), .int (E (((((0 + (u0 / 2)) + (u0 - u0 / 2)) + u1) + u2) + u3) - E ((((0 + (u0 / 2)) + (u0 - u0 / 2)) + u1) + u2)), .int (E ((((((0 + (u0 / 2)) + (u0 - u0 / 2)) + u1) + u2) + u3) + u4) - E (((((0 + (u0 / 2)) + (u0 - u0 / 2)) + u1) + u2) + u3)), .int (E (((((((0 + (u0 / 2)) + (u0 - u0 / 2)) + u1) + u2) + u3) + u4) + u5) - E ((((((0 + (u0 / 2)) + (u0 - u0 / 2)) + u1) + u2) + u3) + u4))])] g = .ok (.tup [.int (E ((0 + u0) + u1) - E (0 + u0)), .int (E (((0 + u0) + u1) + u2) - E ((0 + u0) + u1)), .int (E ((((0 + u0) + u1) + u2) + u3) - E (((0 + u0) + u1) + u2)), .int (E (((((0 + u0) + u1) + u2) + u3) + u4) - E ((((0 + u0) + u1) + u2) + u3)), .int (E ((((((0 + u0) + u1) + u2) + u3) + u4) + u5) - E (((((0 + u0) + u1) + u2) + u3) + u4))]) g := rfl
    rw [ev_op, w1, R.bind_ok, w2, R.bind_ok, hh, show neD (.tup [.int (E ((0 + u0) + u1) - E (0 + u0)), .int (E (((0 + u0) + u1) + u2) - E ((0 + u0) + u1)), .int (E ((((0 + u0) + u1) + u2) + u3) - E (((0 + u0) + u1) + u2)), .int (E (((((0 + u0) + u1) + u2) + u3) + u4) - E ((((0 + u0) + u1) + u2) + u3)), .int (E ((((((0 + u0) + u1) + u2) + u3) + u4) + u5) - E (((((0 + u0) + u1) + u2) + u3) + u4))]) (.tup [.int (E ((0 + u0) + u1) - E (0 + u0)), .int (E (((0 + u0) + u1) + u2) - E ((0 + u0) + u1)), .int (E ((((0 + u0) + u1) + u2) + u3) - E (((0 + u0) + u1) + u2)), .int (E (((((0 + u0) + u1) + u2) + u3) + u4) - E ((((0 + u0) + u1) + u2) + u3)), .int (E ((((((0 + u0) + u1) + u2) + u3) + u4) + u5) - E (((((0 + u0) + u1) + u2) + u3) + u4))]) g = .ok (.bl false) g from vd_neT [E ((0 + u0) + u1) - E (0 + u0), E (((0 + u0) + u1) + u2) - E ((0 + u0) + u1), E ((((0 + u0) + u1) + u2) + u3) - E (((0 + u0) + u1) + u2), E (((((0 + u0) + u1) + u2) + u3) + u4) - E ((((0 + u0) + u1) + u2) + u3), E ((((((0 + u0) + u1) + u2) + u3) + u4) + u5) - E (((((0 + u0) + u1) + u2) + u3) + u4)] g]; rfl
  unfold t_law_28
  rw [ev_if, ev_tor, dA, R.bind_ok, if_neg Bool.false_ne_true, ev_tor, dB, R.bind_ok, if_neg Bool.false_ne_true, dC, R.go_ok, if_neg Bool.false_ne_true]
  rfl

theorem l6_1 {sold : Int} {sh : D} {E W : Int → Int} (hR : ∀ us : List Int, 1 ≤ us.length ∧ us.length ≤ 12 → (∀ u ∈ us, 0 ≤ u ∧ u ≤ 1000000) → ∀ g, m_recognised [.int sold, sh, .tup (us.map D.int)] g = .ok (.tup ((goE E 0 us).map D.int)) g)
    (hO : ∀ us : List Int, 1 ≤ us.length ∧ us.length ≤ 12 → (∀ u ∈ us, 0 ≤ u ∧ u ≤ 1000000) → ∀ g, m_still_owed [.int sold, sh, .tup (us.map D.int)] g = .ok (.int (W us.sum)) g)
    (u0 u1 u2 u3 u4 u5 : Int) (h0 : 0 ≤ u0 ∧ u0 ≤ 1000) (h1 : 0 ≤ u1 ∧ u1 ≤ 1000) (h2 : 0 ≤ u2 ∧ u2 ≤ 1000) (h3 : 0 ≤ u3 ∧ u3 ≤ 1000) (h4 : 0 ≤ u4 ∧ u4 ≤ 1000) (h5 : 0 ≤ u5 ∧ u5 ≤ 1000) (g : Gp) (x0 x1 x2 x3 x4 x5 x6 x7 x8 x9 x10 x11 x12 x13 x14 x15 x16 x22 x23 x24 x25 : Option D) :
    ∃ y22 y23 y24 y25 : Option D, l_law_6 [x0, x1, x2, x3, x4, x5, x6, x7, x8, x9, x10, x11, x12, x13, x14, x15, x16, some (.int sold), some sh, some (.tup [.int (u0), .int (u1), .int (u2), .int (u3), .int (u4), .int (u5)]), some (.tup [.int (E (0 + u0) - E 0), .int (E ((0 + u0) + u1) - E (0 + u0)), .int (E (((0 + u0) + u1) + u2) - E ((0 + u0) + u1)), .int (E ((((0 + u0) + u1) + u2) + u3) - E (((0 + u0) + u1) + u2)), .int (E (((((0 + u0) + u1) + u2) + u3) + u4) - E ((((0 + u0) + u1) + u2) + u3)), .int (E ((((((0 + u0) + u1) + u2) + u3) + u4) + u5) - E (((((0 + u0) + u1) + u2) + u3) + u4))]), some (.int 1), x22, x23, x24, x25] g = .nx [x0, x1, x2, x3, x4, x5, x6, x7, x8, x9, x10, x11, x12, x13, x14, x15, x16, some (.int sold), some sh, some (.tup [.int (u0), .int (u1), .int (u2), .int (u3), .int (u4), .int (u5)]), some (.tup [.int (E (0 + u0) - E 0), .int (E ((0 + u0) + u1) - E (0 + u0)), .int (E (((0 + u0) + u1) + u2) - E ((0 + u0) + u1)), .int (E ((((0 + u0) + u1) + u2) + u3) - E (((0 + u0) + u1) + u2)), .int (E (((((0 + u0) + u1) + u2) + u3) + u4) - E ((((0 + u0) + u1) + u2) + u3)), .int (E ((((((0 + u0) + u1) + u2) + u3) + u4) + u5) - E (((((0 + u0) + u1) + u2) + u3) + u4))]), some (.int 1), y22, y23, y24, y25] g := by
  have bJ : ∀ u ∈ ([u0, u1 + u2, u3, u4, u5] : List Int), 0 ≤ u ∧ u ≤ 1000000 := by
    simp only [List.forall_mem_cons, List.not_mem_nil, false_implies, implies_true, and_true]; omega
  have bC : ∀ u ∈ ([u0, u1 / 2, u1 - u1 / 2, u2, u3, u4, u5] : List Int), 0 ≤ u ∧ u ≤ 1000000 := by
    simp only [List.forall_mem_cons, List.not_mem_nil, false_implies, implies_true, and_true]; omega
  have bU : ∀ u ∈ ([u0, u1, u2, u3, u4, u5] : List Int), 0 ≤ u ∧ u ≤ 1000000 := by
    simp only [List.forall_mem_cons, List.not_mem_nil, false_implies, implies_true, and_true]; omega
  have rJ : m_recognised [.int sold, sh, .tup [.int (u0), .int (u1 + u2), .int (u3), .int (u4), .int (u5)]] g = .ok (.tup [.int (E (0 + u0) - E 0), .int (E ((0 + u0) + (u1 + u2)) - E (0 + u0)), .int (E (((0 + u0) + (u1 + u2)) + u3) - E ((0 + u0) + (u1 + u2))), .int (E ((((0 + u0) + (u1 + u2)) + u3) + u4) - E (((0 + u0) + (u1 + u2)) + u3)), .int (E (((((0 + u0) + (u1 + u2)) + u3) + u4) + u5) - E ((((0 + u0) + (u1 + u2)) + u3) + u4))]) g := hR [u0, u1 + u2, u3, u4, u5] ⟨by simp, by simp⟩ bJ g
  have rC : m_recognised [.int sold, sh, .tup [.int (u0), .int (u1 / 2), .int (u1 - u1 / 2), .int (u2), .int (u3), .int (u4), .int (u5)]] g = .ok (.tup [.int (E (0 + u0) - E 0), .int (E ((0 + u0) + (u1 / 2)) - E (0 + u0)), .int (E (((0 + u0) + (u1 / 2)) + (u1 - u1 / 2)) - E ((0 + u0) + (u1 / 2))), .int (E ((((0 + u0) + (u1 / 2)) + (u1 - u1 / 2)) + u2) - E (((0 + u0) + (u1 / 2)) + (u1 - u1 / 2))), .int (E (((((0 + u0) + (u1 / 2)) + (u1 - u1 / 2)) + u2) + u3) - E ((((0 + u0) + (u1 / 2)) + (u1 - u1 / 2)) + u2)), .int (E ((((((0 + u0) + (u1 / 2)) + (u1 - u1 / 2)) + u2) + u3) + u4) - E (((((0 + u0) + (u1 / 2)) + (u1 - u1 / 2)) + u2) + u3)), .int (E (((((((0 + u0) + (u1 / 2)) + (u1 - u1 / 2)) + u2) + u3) + u4) + u5) - E ((((((0 + u0) + (u1 / 2)) + (u1 - u1 / 2)) + u2) + u3) + u4))]) g := hR [u0, u1 / 2, u1 - u1 / 2, u2, u3, u4, u5] ⟨by simp, by simp⟩ bC g
  have oJ : m_still_owed [.int sold, sh, .tup [.int (u0), .int (u1 + u2), .int (u3), .int (u4), .int (u5)]] g = .ok (.int (W ([u0, u1, u2, u3, u4, u5] : List Int).sum)) g := by
    have : ([u0, u1 + u2, u3, u4, u5] : List Int).sum = ([u0, u1, u2, u3, u4, u5] : List Int).sum := by simp only [List.sum_cons, List.sum_nil]; omega
    rw [← this]; exact hO [u0, u1 + u2, u3, u4, u5] ⟨by simp, by simp⟩ bJ g
  have oU : m_still_owed [.int sold, sh, .tup [.int (u0), .int (u1), .int (u2), .int (u3), .int (u4), .int (u5)]] g = .ok (.int (W ([u0, u1, u2, u3, u4, u5] : List Int).sum)) g := hO [u0, u1, u2, u3, u4, u5] ⟨by simp, by simp⟩ bU g
  have eJ : ([E (0 + u0) - E 0, E ((0 + u0) + (u1 + u2)) - E (0 + u0), E (((0 + u0) + (u1 + u2)) + u3) - E ((0 + u0) + (u1 + u2)), E ((((0 + u0) + (u1 + u2)) + u3) + u4) - E (((0 + u0) + (u1 + u2)) + u3), E (((((0 + u0) + (u1 + u2)) + u3) + u4) + u5) - E ((((0 + u0) + (u1 + u2)) + u3) + u4)] : List Int) = [E (0 + u0) - E 0, E ((0 + u0) + u1) - E (0 + u0) + (E (((0 + u0) + u1) + u2) - E ((0 + u0) + u1)), E ((((0 + u0) + u1) + u2) + u3) - E (((0 + u0) + u1) + u2), E (((((0 + u0) + u1) + u2) + u3) + u4) - E ((((0 + u0) + u1) + u2) + u3), E ((((((0 + u0) + u1) + u2) + u3) + u4) + u5) - E (((((0 + u0) + u1) + u2) + u3) + u4)] := by
    simp only [Int.add_assoc, List.cons.injEq, and_true, true_and]; omega
  have e22 : (mOp addD (mOp addD (mSl (mVar 19) oNone (oSome (mVar 21))) (mTup (mCons (mOp addD (mOp ixD (mVar 19) (mVar 21)) (mOp ixD (mVar 19) (mOp addD (mVar 21) (mC (.int 1))))) mNil))) (mSl (mVar 19) (oSome (mOp addD (mVar 21) (mC (.int 2)))) oNone)) [x0, x1, x2, x3, x4, x5, x6, x7, x8, x9, x10, x11, x12, x13, x14, x15, x16, some (.int sold), some sh, some (.tup [.int (u0), .int (u1), .int (u2), .int (u3), .int (u4), .int (u5)]), some (.tup [.int (E (0 + u0) - E 0), .int (E ((0 + u0) + u1) - E (0 + u0)), .int (E (((0 + u0) + u1) + u2) - E ((0 + u0) + u1)), .int (E ((((0 + u0) + u1) + u2) + u3) - E (((0 + u0) + u1) + u2)), .int (E (((((0 + u0) + u1) + u2) + u3) + u4) - E ((((0 + u0) + u1) + u2) + u3)), .int (E ((((((0 + u0) + u1) + u2) + u3) + u4) + u5) - E (((((0 + u0) + u1) + u2) + u3) + u4))]), some (.int 1), x22, x23, x24, x25] g = .ok (.tup [.int (u0), .int (u1 + u2), .int (u3), .int (u4), .int (u5)]) g := rfl
  have e23 : (mOp addD (mOp addD (mSl (mVar 20) oNone (oSome (mVar 21))) (mTup (mCons (mOp addD (mOp ixD (mVar 20) (mVar 21)) (mOp ixD (mVar 20) (mOp addD (mVar 21) (mC (.int 1))))) mNil))) (mSl (mVar 20) (oSome (mOp addD (mVar 21) (mC (.int 2)))) oNone)) [x0, x1, x2, x3, x4, x5, x6, x7, x8, x9, x10, x11, x12, x13, x14, x15, x16, some (.int sold), some sh, some (.tup [.int (u0), .int (u1), .int (u2), .int (u3), .int (u4), .int (u5)]), some (.tup [.int (E (0 + u0) - E 0), .int (E ((0 + u0) + u1) - E (0 + u0)), .int (E (((0 + u0) + u1) + u2) - E ((0 + u0) + u1)), .int (E ((((0 + u0) + u1) + u2) + u3) - E (((0 + u0) + u1) + u2)), .int (E (((((0 + u0) + u1) + u2) + u3) + u4) - E ((((0 + u0) + u1) + u2) + u3)), .int (E ((((((0 + u0) + u1) + u2) + u3) + u4) + u5) - E (((((0 + u0) + u1) + u2) + u3) + u4))]), some (.int 1), some (.tup [.int (u0), .int (u1 + u2), .int (u3), .int (u4), .int (u5)]), some (.tup [.int (E (0 + u0) - E 0), .int (E ((0 + u0) + (u1 + u2)) - E (0 + u0)), .int (E (((0 + u0) + (u1 + u2)) + u3) - E ((0 + u0) + (u1 + u2))), .int (E ((((0 + u0) + (u1 + u2)) + u3) + u4) - E (((0 + u0) + (u1 + u2)) + u3)), .int (E (((((0 + u0) + (u1 + u2)) + u3) + u4) + u5) - E ((((0 + u0) + (u1 + u2)) + u3) + u4))]), x24, x25] g = .ok (.tup [.int (E (0 + u0) - E 0), .int (E ((0 + u0) + u1) - E (0 + u0) + (E (((0 + u0) + u1) + u2) - E ((0 + u0) + u1))), .int (E ((((0 + u0) + u1) + u2) + u3) - E (((0 + u0) + u1) + u2)), .int (E (((((0 + u0) + u1) + u2) + u3) + u4) - E ((((0 + u0) + u1) + u2) + u3)), .int (E ((((((0 + u0) + u1) + u2) + u3) + u4) + u5) - E (((((0 + u0) + u1) + u2) + u3) + u4))]) g := rfl
  have n23 : neD (.tup [.int (E (0 + u0) - E 0), .int (E ((0 + u0) + (u1 + u2)) - E (0 + u0)), .int (E (((0 + u0) + (u1 + u2)) + u3) - E ((0 + u0) + (u1 + u2))), .int (E ((((0 + u0) + (u1 + u2)) + u3) + u4) - E (((0 + u0) + (u1 + u2)) + u3)), .int (E (((((0 + u0) + (u1 + u2)) + u3) + u4) + u5) - E ((((0 + u0) + (u1 + u2)) + u3) + u4))]) (.tup [.int (E (0 + u0) - E 0), .int (E ((0 + u0) + u1) - E (0 + u0) + (E (((0 + u0) + u1) + u2) - E ((0 + u0) + u1))), .int (E ((((0 + u0) + u1) + u2) + u3) - E (((0 + u0) + u1) + u2)), .int (E (((((0 + u0) + u1) + u2) + u3) + u4) - E ((((0 + u0) + u1) + u2) + u3)), .int (E ((((((0 + u0) + u1) + u2) + u3) + u4) + u5) - E (((((0 + u0) + u1) + u2) + u3) + u4))]) g = .ok (.bl false) g := by
    have := vd_neT [E (0 + u0) - E 0, E ((0 + u0) + (u1 + u2)) - E (0 + u0), E (((0 + u0) + (u1 + u2)) + u3) - E ((0 + u0) + (u1 + u2)), E ((((0 + u0) + (u1 + u2)) + u3) + u4) - E (((0 + u0) + (u1 + u2)) + u3), E (((((0 + u0) + (u1 + u2)) + u3) + u4) + u5) - E ((((0 + u0) + (u1 + u2)) + u3) + u4)] g
    rw [show (neD (.tup [.int (E (0 + u0) - E 0), .int (E ((0 + u0) + (u1 + u2)) - E (0 + u0)), .int (E (((0 + u0) + (u1 + u2)) + u3) - E ((0 + u0) + (u1 + u2))), .int (E ((((0 + u0) + (u1 + u2)) + u3) + u4) - E (((0 + u0) + (u1 + u2)) + u3)), .int (E (((((0 + u0) + (u1 + u2)) + u3) + u4) + u5) - E ((((0 + u0) + (u1 + u2)) + u3) + u4))]) (.tup [.int (E (0 + u0) - E 0), .int (E ((0 + u0) + u1) - E (0 + u0) + (E (((0 + u0) + u1) + u2) - E ((0 + u0) + u1))), .int (E ((((0 + u0) + u1) + u2) + u3) - E (((0 + u0) + u1) + u2)), .int (E (((((0 + u0) + u1) + u2) + u3) + u4) - E ((((0 + u0) + u1) + u2) + u3)), .int (E ((((((0 + u0) + u1) + u2) + u3) + u4) + u5) - E (((((0 + u0) + u1) + u2) + u3) + u4))]) g) = neD (.tup (([E (0 + u0) - E 0, E ((0 + u0) + (u1 + u2)) - E (0 + u0), E (((0 + u0) + (u1 + u2)) + u3) - E ((0 + u0) + (u1 + u2)), E ((((0 + u0) + (u1 + u2)) + u3) + u4) - E (((0 + u0) + (u1 + u2)) + u3), E (((((0 + u0) + (u1 + u2)) + u3) + u4) + u5) - E ((((0 + u0) + (u1 + u2)) + u3) + u4)] : List Int).map D.int)) (.tup (([E (0 + u0) - E 0, E ((0 + u0) + u1) - E (0 + u0) + (E (((0 + u0) + u1) + u2) - E ((0 + u0) + u1)), E ((((0 + u0) + u1) + u2) + u3) - E (((0 + u0) + u1) + u2), E (((((0 + u0) + u1) + u2) + u3) + u4) - E ((((0 + u0) + u1) + u2) + u3), E ((((((0 + u0) + u1) + u2) + u3) + u4) + u5) - E (((((0 + u0) + u1) + u2) + u3) + u4)] : List Int).map D.int)) g from rfl, ← eJ]; exact this
  have e25 : (mOp addD (mOp addD (mSl (mVar 19) oNone (oSome (mVar 21))) (mTup (mCons (mVar 24) (mCons (mOp subD (mOp ixD (mVar 19) (mVar 21)) (mVar 24)) mNil)))) (mSl (mVar 19) (oSome (mOp addD (mVar 21) (mC (.int 1)))) oNone)) [x0, x1, x2, x3, x4, x5, x6, x7, x8, x9, x10, x11, x12, x13, x14, x15, x16, some (.int sold), some sh, some (.tup [.int (u0), .int (u1), .int (u2), .int (u3), .int (u4), .int (u5)]), some (.tup [.int (E (0 + u0) - E 0), .int (E ((0 + u0) + u1) - E (0 + u0)), .int (E (((0 + u0) + u1) + u2) - E ((0 + u0) + u1)), .int (E ((((0 + u0) + u1) + u2) + u3) - E (((0 + u0) + u1) + u2)), .int (E (((((0 + u0) + u1) + u2) + u3) + u4) - E ((((0 + u0) + u1) + u2) + u3)), .int (E ((((((0 + u0) + u1) + u2) + u3) + u4) + u5) - E (((((0 + u0) + u1) + u2) + u3) + u4))]), some (.int 1), some (.tup [.int (u0), .int (u1 + u2), .int (u3), .int (u4), .int (u5)]), some (.tup [.int (E (0 + u0) - E 0), .int (E ((0 + u0) + (u1 + u2)) - E (0 + u0)), .int (E (((0 + u0) + (u1 + u2)) + u3) - E ((0 + u0) + (u1 + u2))), .int (E ((((0 + u0) + (u1 + u2)) + u3) + u4) - E (((0 + u0) + (u1 + u2)) + u3)), .int (E (((((0 + u0) + (u1 + u2)) + u3) + u4) + u5) - E ((((0 + u0) + (u1 + u2)) + u3) + u4))]), some (.int (u1 / 2)), x25] g = .ok (.tup [.int (u0), .int (u1 / 2), .int (u1 - u1 / 2), .int (u2), .int (u3), .int (u4), .int (u5)]) g := rfl
  refine ⟨some (.tup [.int (u0), .int (u1 + u2), .int (u3), .int (u4), .int (u5)]), some (.tup [.int (E (0 + u0) - E 0), .int (E ((0 + u0) + (u1 + u2)) - E (0 + u0)), .int (E (((0 + u0) + (u1 + u2)) + u3) - E ((0 + u0) + (u1 + u2))), .int (E ((((0 + u0) + (u1 + u2)) + u3) + u4) - E (((0 + u0) + (u1 + u2)) + u3)), .int (E (((((0 + u0) + (u1 + u2)) + u3) + u4) + u5) - E ((((0 + u0) + (u1 + u2)) + u3) + u4))]), some (.int (u1 / 2)), some (.tup [.int (E (0 + u0) - E 0), .int (E ((0 + u0) + (u1 / 2)) - E (0 + u0)), .int (E (((0 + u0) + (u1 / 2)) + (u1 - u1 / 2)) - E ((0 + u0) + (u1 / 2))), .int (E ((((0 + u0) + (u1 / 2)) + (u1 - u1 / 2)) + u2) - E (((0 + u0) + (u1 / 2)) + (u1 - u1 / 2))), .int (E (((((0 + u0) + (u1 / 2)) + (u1 - u1 / 2)) + u2) + u3) - E ((((0 + u0) + (u1 / 2)) + (u1 - u1 / 2)) + u2)), .int (E ((((((0 + u0) + (u1 / 2)) + (u1 - u1 / 2)) + u2) + u3) + u4) - E (((((0 + u0) + (u1 / 2)) + (u1 - u1 / 2)) + u2) + u3)), .int (E (((((((0 + u0) + (u1 / 2)) + (u1 - u1 / 2)) + u2) + u3) + u4) + u5) - E ((((((0 + u0) + (u1 / 2)) + (u1 - u1 / 2)) + u2) + u3) + u4))]), ?_⟩
  have s22 : l_law_6 [x0, x1, x2, x3, x4, x5, x6, x7, x8, x9, x10, x11, x12, x13, x14, x15, x16, some (.int sold), some sh, some (.tup [.int (u0), .int (u1), .int (u2), .int (u3), .int (u4), .int (u5)]), some (.tup [.int (E (0 + u0) - E 0), .int (E ((0 + u0) + u1) - E (0 + u0)), .int (E (((0 + u0) + u1) + u2) - E ((0 + u0) + u1)), .int (E ((((0 + u0) + u1) + u2) + u3) - E (((0 + u0) + u1) + u2)), .int (E (((((0 + u0) + u1) + u2) + u3) + u4) - E ((((0 + u0) + u1) + u2) + u3)), .int (E ((((((0 + u0) + u1) + u2) + u3) + u4) + u5) - E (((((0 + u0) + u1) + u2) + u3) + u4))]), some (.int 1), x22, x23, x24, x25] g = t_law_24 [x0, x1, x2, x3, x4, x5, x6, x7, x8, x9, x10, x11, x12, x13, x14, x15, x16, some (.int sold), some sh, some (.tup [.int (u0), .int (u1), .int (u2), .int (u3), .int (u4), .int (u5)]), some (.tup [.int (E (0 + u0) - E 0), .int (E ((0 + u0) + u1) - E (0 + u0)), .int (E (((0 + u0) + u1) + u2) - E ((0 + u0) + u1)), .int (E ((((0 + u0) + u1) + u2) + u3) - E (((0 + u0) + u1) + u2)), .int (E (((((0 + u0) + u1) + u2) + u3) + u4) - E ((((0 + u0) + u1) + u2) + u3)), .int (E ((((((0 + u0) + u1) + u2) + u3) + u4) + u5) - E (((((0 + u0) + u1) + u2) + u3) + u4))]), some (.int 1), some (.tup [.int (u0), .int (u1 + u2), .int (u3), .int (u4), .int (u5)]), x23, x24, x25] g := by
    unfold l_law_6
    rw [ev_seq, ev_set, e22]; rfl
  have s23 : t_law_24 [x0, x1, x2, x3, x4, x5, x6, x7, x8, x9, x10, x11, x12, x13, x14, x15, x16, some (.int sold), some sh, some (.tup [.int (u0), .int (u1), .int (u2), .int (u3), .int (u4), .int (u5)]), some (.tup [.int (E (0 + u0) - E 0), .int (E ((0 + u0) + u1) - E (0 + u0)), .int (E (((0 + u0) + u1) + u2) - E ((0 + u0) + u1)), .int (E ((((0 + u0) + u1) + u2) + u3) - E (((0 + u0) + u1) + u2)), .int (E (((((0 + u0) + u1) + u2) + u3) + u4) - E ((((0 + u0) + u1) + u2) + u3)), .int (E ((((((0 + u0) + u1) + u2) + u3) + u4) + u5) - E (((((0 + u0) + u1) + u2) + u3) + u4))]), some (.int 1), some (.tup [.int (u0), .int (u1 + u2), .int (u3), .int (u4), .int (u5)]), x23, x24, x25] g = t_law_25 [x0, x1, x2, x3, x4, x5, x6, x7, x8, x9, x10, x11, x12, x13, x14, x15, x16, some (.int sold), some sh, some (.tup [.int (u0), .int (u1), .int (u2), .int (u3), .int (u4), .int (u5)]), some (.tup [.int (E (0 + u0) - E 0), .int (E ((0 + u0) + u1) - E (0 + u0)), .int (E (((0 + u0) + u1) + u2) - E ((0 + u0) + u1)), .int (E ((((0 + u0) + u1) + u2) + u3) - E (((0 + u0) + u1) + u2)), .int (E (((((0 + u0) + u1) + u2) + u3) + u4) - E ((((0 + u0) + u1) + u2) + u3)), .int (E ((((((0 + u0) + u1) + u2) + u3) + u4) + u5) - E (((((0 + u0) + u1) + u2) + u3) + u4))]), some (.int 1), some (.tup [.int (u0), .int (u1 + u2), .int (u3), .int (u4), .int (u5)]), some (.tup [.int (E (0 + u0) - E 0), .int (E ((0 + u0) + (u1 + u2)) - E (0 + u0)), .int (E (((0 + u0) + (u1 + u2)) + u3) - E ((0 + u0) + (u1 + u2))), .int (E ((((0 + u0) + (u1 + u2)) + u3) + u4) - E (((0 + u0) + (u1 + u2)) + u3)), .int (E (((((0 + u0) + (u1 + u2)) + u3) + u4) + u5) - E ((((0 + u0) + (u1 + u2)) + u3) + u4))]), x24, x25] g := by
    unfold t_law_24
    rw [ev_seq, ev_set, ev_call]
    show ((m_recognised [.int sold, sh, .tup [.int (u0), .int (u1 + u2), .int (u3), .int (u4), .int (u5)]] g).go _).then _ = _
    rw [rJ]; rfl
  have s24 : t_law_25 [x0, x1, x2, x3, x4, x5, x6, x7, x8, x9, x10, x11, x12, x13, x14, x15, x16, some (.int sold), some sh, some (.tup [.int (u0), .int (u1), .int (u2), .int (u3), .int (u4), .int (u5)]), some (.tup [.int (E (0 + u0) - E 0), .int (E ((0 + u0) + u1) - E (0 + u0)), .int (E (((0 + u0) + u1) + u2) - E ((0 + u0) + u1)), .int (E ((((0 + u0) + u1) + u2) + u3) - E (((0 + u0) + u1) + u2)), .int (E (((((0 + u0) + u1) + u2) + u3) + u4) - E ((((0 + u0) + u1) + u2) + u3)), .int (E ((((((0 + u0) + u1) + u2) + u3) + u4) + u5) - E (((((0 + u0) + u1) + u2) + u3) + u4))]), some (.int 1), some (.tup [.int (u0), .int (u1 + u2), .int (u3), .int (u4), .int (u5)]), some (.tup [.int (E (0 + u0) - E 0), .int (E ((0 + u0) + (u1 + u2)) - E (0 + u0)), .int (E (((0 + u0) + (u1 + u2)) + u3) - E ((0 + u0) + (u1 + u2))), .int (E ((((0 + u0) + (u1 + u2)) + u3) + u4) - E (((0 + u0) + (u1 + u2)) + u3)), .int (E (((((0 + u0) + (u1 + u2)) + u3) + u4) + u5) - E ((((0 + u0) + (u1 + u2)) + u3) + u4))]), x24, x25] g = t_law_27 [x0, x1, x2, x3, x4, x5, x6, x7, x8, x9, x10, x11, x12, x13, x14, x15, x16, some (.int sold), some sh, some (.tup [.int (u0), .int (u1), .int (u2), .int (u3), .int (u4), .int (u5)]), some (.tup [.int (E (0 + u0) - E 0), .int (E ((0 + u0) + u1) - E (0 + u0)), .int (E (((0 + u0) + u1) + u2) - E ((0 + u0) + u1)), .int (E ((((0 + u0) + u1) + u2) + u3) - E (((0 + u0) + u1) + u2)), .int (E (((((0 + u0) + u1) + u2) + u3) + u4) - E ((((0 + u0) + u1) + u2) + u3)), .int (E ((((((0 + u0) + u1) + u2) + u3) + u4) + u5) - E (((((0 + u0) + u1) + u2) + u3) + u4))]), some (.int 1), some (.tup [.int (u0), .int (u1 + u2), .int (u3), .int (u4), .int (u5)]), some (.tup [.int (E (0 + u0) - E 0), .int (E ((0 + u0) + (u1 + u2)) - E (0 + u0)), .int (E (((0 + u0) + (u1 + u2)) + u3) - E ((0 + u0) + (u1 + u2))), .int (E ((((0 + u0) + (u1 + u2)) + u3) + u4) - E (((0 + u0) + (u1 + u2)) + u3)), .int (E (((((0 + u0) + (u1 + u2)) + u3) + u4) + u5) - E ((((0 + u0) + (u1 + u2)) + u3) + u4))]), some (.int (u1 / 2)), x25] g := by
    unfold t_law_25
    rw [ev_seq, ev_if, ev_tor]
    have c1 : isB (mOp neD (mVar 23) (mOp addD (mOp addD (mSl (mVar 20) oNone (oSome (mVar 21))) (mTup (mCons (mOp addD (mOp ixD (mVar 20) (mVar 21)) (mOp ixD (mVar 20) (mOp addD (mVar 21) (mC (.int 1))))) mNil))) (mSl (mVar 20) (oSome (mOp addD (mVar 21) (mC (.int 2)))) oNone))) [x0, x1, x2, x3, x4, x5, x6, x7, x8, x9, x10, x11, x12, x13, x14, x15, x16, some (.int sold), some sh, some (.tup [.int (u0), .int (u1), .int (u2), .int (u3), .int (u4), .int (u5)]), some (.tup [.int (E (0 + u0) - E 0), .int (E ((0 + u0) + u1) - E (0 + u0)), .int (E (((0 + u0) + u1) + u2) - E ((0 + u0) + u1)), .int (E ((((0 + u0) + u1) + u2) + u3) - E (((0 + u0) + u1) + u2)), .int (E (((((0 + u0) + u1) + u2) + u3) + u4) - E ((((0 + u0) + u1) + u2) + u3)), .int (E ((((((0 + u0) + u1) + u2) + u3) + u4) + u5) - E (((((0 + u0) + u1) + u2) + u3) + u4))]), some (.int 1), some (.tup [.int (u0), .int (u1 + u2), .int (u3), .int (u4), .int (u5)]), some (.tup [.int (E (0 + u0) - E 0), .int (E ((0 + u0) + (u1 + u2)) - E (0 + u0)), .int (E (((0 + u0) + (u1 + u2)) + u3) - E ((0 + u0) + (u1 + u2))), .int (E ((((0 + u0) + (u1 + u2)) + u3) + u4) - E (((0 + u0) + (u1 + u2)) + u3)), .int (E (((((0 + u0) + (u1 + u2)) + u3) + u4) + u5) - E ((((0 + u0) + (u1 + u2)) + u3) + u4))]), x24, x25] g = .ok false g := by
      unfold isB
      have v23 : mVar 23 [x0, x1, x2, x3, x4, x5, x6, x7, x8, x9, x10, x11, x12, x13, x14, x15, x16, some (.int sold), some sh, some (.tup [.int (u0), .int (u1), .int (u2), .int (u3), .int (u4), .int (u5)]), some (.tup [.int (E (0 + u0) - E 0), .int (E ((0 + u0) + u1) - E (0 + u0)), .int (E (((0 + u0) + u1) + u2) - E ((0 + u0) + u1)), .int (E ((((0 + u0) + u1) + u2) + u3) - E (((0 + u0) + u1) + u2)), .int (E (((((0 + u0) + u1) + u2) + u3) + u4) - E ((((0 + u0) + u1) + u2) + u3)), .int (E ((((((0 + u0) + u1) + u2) + u3) + u4) + u5) - E (((((0 + u0) + u1) + u2) + u3) + u4))]), some (.int 1), some (.tup [.int (u0), .int (u1 + u2), .int (u3), .int (u4), .int (u5)]), some (.tup [.int (E (0 + u0) - E 0), .int (E ((0 + u0) + (u1 + u2)) - E (0 + u0)), .int (E (((0 + u0) + (u1 + u2)) + u3) - E ((0 + u0) + (u1 + u2))), .int (E ((((0 + u0) + (u1 + u2)) + u3) + u4) - E (((0 + u0) + (u1 + u2)) + u3)), .int (E (((((0 + u0) + (u1 + u2)) + u3) + u4) + u5) - E ((((0 + u0) + (u1 + u2)) + u3) + u4))]), x24, x25] g = .ok (.tup [.int (E (0 + u0) - E 0), .int (E ((0 + u0) + (u1 + u2)) - E (0 + u0)), .int (E (((0 + u0) + (u1 + u2)) + u3) - E ((0 + u0) + (u1 + u2))), .int (E ((((0 + u0) + (u1 + u2)) + u3) + u4) - E (((0 + u0) + (u1 + u2)) + u3)), .int (E (((((0 + u0) + (u1 + u2)) + u3) + u4) + u5) - E ((((0 + u0) + (u1 + u2)) + u3) + u4))]) g := rfl
      rw [ev_op, v23, R.bind_ok, e23, R.bind_ok, n23]; rfl
    rw [c1, R.bind_ok]
    have c2 : isB (mOp neD (mCall m_still_owed (mCons (mVar 17) (mCons (mVar 18) (mCons (mVar 22) mNil)))) (mCall m_still_owed (mCons (mVar 17) (mCons (mVar 18) (mCons (mVar 19) mNil))))) [x0, x1, x2, x3, x4, x5, x6, x7, x8, x9, x10, x11, x12, x13, x14, x15, x16, some (.int sold), some sh, some (.tup [.int (u0), .int (u1), .int (u2), .int (u3), .int (u4), .int (u5)]), some (.tup [.int (E (0 + u0) - E 0), .int (E ((0 + u0) + u1) - E (0 + u0)), .int (E (((0 + u0) + u1) + u2) - E ((0 + u0) + u1)), .int (E ((((0 + u0) + u1) + u2) + u3) - E (((0 + u0) + u1) + u2)), .int (E (((((0 + u0) + u1) + u2) + u3) + u4) - E ((((0 + u0) + u1) + u2) + u3)), .int (E ((((((0 + u0) + u1) + u2) + u3) + u4) + u5) - E (((((0 + u0) + u1) + u2) + u3) + u4))]), some (.int 1), some (.tup [.int (u0), .int (u1 + u2), .int (u3), .int (u4), .int (u5)]), some (.tup [.int (E (0 + u0) - E 0), .int (E ((0 + u0) + (u1 + u2)) - E (0 + u0)), .int (E (((0 + u0) + (u1 + u2)) + u3) - E ((0 + u0) + (u1 + u2))), .int (E ((((0 + u0) + (u1 + u2)) + u3) + u4) - E (((0 + u0) + (u1 + u2)) + u3)), .int (E (((((0 + u0) + (u1 + u2)) + u3) + u4) + u5) - E ((((0 + u0) + (u1 + u2)) + u3) + u4))]), x24, x25] g = .ok false g := by
      unfold isB
      rw [ev_op, ev_call]
      show (((m_still_owed [.int sold, sh, .tup [.int (u0), .int (u1 + u2), .int (u3), .int (u4), .int (u5)]] g).bind fun x g1 => (m_still_owed [.int sold, sh, .tup [.int (u0), .int (u1), .int (u2), .int (u3), .int (u4), .int (u5)]] g1).bind fun y g2 => neD x y g2).bind _) = _
      rw [oJ, R.bind_ok, oU, R.bind_ok, vd_ne]
      simp only [decide_true, Bool.not_true]; rfl
    rw [if_neg Bool.false_ne_true, c2]
    rfl
  have s25 : t_law_27 [x0, x1, x2, x3, x4, x5, x6, x7, x8, x9, x10, x11, x12, x13, x14, x15, x16, some (.int sold), some sh, some (.tup [.int (u0), .int (u1), .int (u2), .int (u3), .int (u4), .int (u5)]), some (.tup [.int (E (0 + u0) - E 0), .int (E ((0 + u0) + u1) - E (0 + u0)), .int (E (((0 + u0) + u1) + u2) - E ((0 + u0) + u1)), .int (E ((((0 + u0) + u1) + u2) + u3) - E (((0 + u0) + u1) + u2)), .int (E (((((0 + u0) + u1) + u2) + u3) + u4) - E ((((0 + u0) + u1) + u2) + u3)), .int (E ((((((0 + u0) + u1) + u2) + u3) + u4) + u5) - E (((((0 + u0) + u1) + u2) + u3) + u4))]), some (.int 1), some (.tup [.int (u0), .int (u1 + u2), .int (u3), .int (u4), .int (u5)]), some (.tup [.int (E (0 + u0) - E 0), .int (E ((0 + u0) + (u1 + u2)) - E (0 + u0)), .int (E (((0 + u0) + (u1 + u2)) + u3) - E ((0 + u0) + (u1 + u2))), .int (E ((((0 + u0) + (u1 + u2)) + u3) + u4) - E (((0 + u0) + (u1 + u2)) + u3)), .int (E (((((0 + u0) + (u1 + u2)) + u3) + u4) + u5) - E ((((0 + u0) + (u1 + u2)) + u3) + u4))]), some (.int (u1 / 2)), x25] g = t_law_28 [x0, x1, x2, x3, x4, x5, x6, x7, x8, x9, x10, x11, x12, x13, x14, x15, x16, some (.int sold), some sh, some (.tup [.int (u0), .int (u1), .int (u2), .int (u3), .int (u4), .int (u5)]), some (.tup [.int (E (0 + u0) - E 0), .int (E ((0 + u0) + u1) - E (0 + u0)), .int (E (((0 + u0) + u1) + u2) - E ((0 + u0) + u1)), .int (E ((((0 + u0) + u1) + u2) + u3) - E (((0 + u0) + u1) + u2)), .int (E (((((0 + u0) + u1) + u2) + u3) + u4) - E ((((0 + u0) + u1) + u2) + u3)), .int (E ((((((0 + u0) + u1) + u2) + u3) + u4) + u5) - E (((((0 + u0) + u1) + u2) + u3) + u4))]), some (.int 1), some (.tup [.int (u0), .int (u1 + u2), .int (u3), .int (u4), .int (u5)]), some (.tup [.int (E (0 + u0) - E 0), .int (E ((0 + u0) + (u1 + u2)) - E (0 + u0)), .int (E (((0 + u0) + (u1 + u2)) + u3) - E ((0 + u0) + (u1 + u2))), .int (E ((((0 + u0) + (u1 + u2)) + u3) + u4) - E (((0 + u0) + (u1 + u2)) + u3)), .int (E (((((0 + u0) + (u1 + u2)) + u3) + u4) + u5) - E ((((0 + u0) + (u1 + u2)) + u3) + u4))]), some (.int (u1 / 2)), some (.tup [.int (E (0 + u0) - E 0), .int (E ((0 + u0) + (u1 / 2)) - E (0 + u0)), .int (E (((0 + u0) + (u1 / 2)) + (u1 - u1 / 2)) - E ((0 + u0) + (u1 / 2))), .int (E ((((0 + u0) + (u1 / 2)) + (u1 - u1 / 2)) + u2) - E (((0 + u0) + (u1 / 2)) + (u1 - u1 / 2))), .int (E (((((0 + u0) + (u1 / 2)) + (u1 - u1 / 2)) + u2) + u3) - E ((((0 + u0) + (u1 / 2)) + (u1 - u1 / 2)) + u2)), .int (E ((((((0 + u0) + (u1 / 2)) + (u1 - u1 / 2)) + u2) + u3) + u4) - E (((((0 + u0) + (u1 / 2)) + (u1 - u1 / 2)) + u2) + u3)), .int (E (((((((0 + u0) + (u1 / 2)) + (u1 - u1 / 2)) + u2) + u3) + u4) + u5) - E ((((((0 + u0) + (u1 / 2)) + (u1 - u1 / 2)) + u2) + u3) + u4))])] g := by
    unfold t_law_27
    rw [ev_seq, ev_set, ev_call]
    have a1 : (mCons (mVar 17) (mCons (mVar 18) (mCons (mOp addD (mOp addD (mSl (mVar 19) oNone (oSome (mVar 21))) (mTup (mCons (mVar 24) (mCons (mOp subD (mOp ixD (mVar 19) (mVar 21)) (mVar 24)) mNil)))) (mSl (mVar 19) (oSome (mOp addD (mVar 21) (mC (.int 1)))) oNone)) mNil))) [x0, x1, x2, x3, x4, x5, x6, x7, x8, x9, x10, x11, x12, x13, x14, x15, x16, some (.int sold), some sh, some (.tup [.int (u0), .int (u1), .int (u2), .int (u3), .int (u4), .int (u5)]), some (.tup [.int (E (0 + u0) - E 0), .int (E ((0 + u0) + u1) - E (0 + u0)), .int (E (((0 + u0) + u1) + u2) - E ((0 + u0) + u1)), .int (E ((((0 + u0) + u1) + u2) + u3) - E (((0 + u0) + u1) + u2)), .int (E (((((0 + u0) + u1) + u2) + u3) + u4) - E ((((0 + u0) + u1) + u2) + u3)), .int (E ((((((0 + u0) + u1) + u2) + u3) + u4) + u5) - E (((((0 + u0) + u1) + u2) + u3) + u4))]), some (.int 1), some (.tup [.int (u0), .int (u1 + u2), .int (u3), .int (u4), .int (u5)]), some (.tup [.int (E (0 + u0) - E 0), .int (E ((0 + u0) + (u1 + u2)) - E (0 + u0)), .int (E (((0 + u0) + (u1 + u2)) + u3) - E ((0 + u0) + (u1 + u2))), .int (E ((((0 + u0) + (u1 + u2)) + u3) + u4) - E (((0 + u0) + (u1 + u2)) + u3)), .int (E (((((0 + u0) + (u1 + u2)) + u3) + u4) + u5) - E ((((0 + u0) + (u1 + u2)) + u3) + u4))]), some (.int (u1 / 2)), x25] g = .ok [.int sold, sh, .tup [.int (u0), .int (u1 / 2), .int (u1 - u1 / 2), .int (u2), .int (u3), .int (u4), .int (u5)]] g := by
      have v17 : mVar 17 [x0, x1, x2, x3, x4, x5, x6, x7, x8, x9, x10, x11, x12, x13, x14, x15, x16, some (.int sold), some sh, some (.tup [.int (u0), .int (u1), .int (u2), .int (u3), .int (u4), .int (u5)]), some (.tup [.int (E (0 + u0) - E 0), .int (E ((0 + u0) + u1) - E (0 + u0)), .int (E (((0 + u0) + u1) + u2) - E ((0 + u0) + u1)), .int (E ((((0 + u0) + u1) + u2) + u3) - E (((0 + u0) + u1) + u2)), .int (E (((((0 + u0) + u1) + u2) + u3) + u4) - E ((((0 + u0) + u1) + u2) + u3)), .int (E ((((((0 + u0) + u1) + u2) + u3) + u4) + u5) - E (((((0 + u0) + u1) + u2) + u3) + u4))]), some (.int 1), some (.tup [.int (u0), .int (u1 + u2), .int (u3), .int (u4), .int (u5)]), some (.tup [.int (E (0 + u0) - E 0), .int (E ((0 + u0) + (u1 + u2)) - E (0 + u0)), .int (E (((0 + u0) + (u1 + u2)) + u3) - E ((0 + u0) + (u1 + u2))), .int (E ((((0 + u0) + (u1 + u2)) + u3) + u4) - E (((0 + u0) + (u1 + u2)) + u3)), .int (E (((((0 + u0) + (u1 + u2)) + u3) + u4) + u5) - E ((((0 + u0) + (u1 + u2)) + u3) + u4))]), some (.int (u1 / 2)), x25] g = .ok (.int sold) g := rfl
      have v18 : mVar 18 [x0, x1, x2, x3, x4, x5, x6, x7, x8, x9, x10, x11, x12, x13, x14, x15, x16, some (.int sold), some sh, some (.tup [.int (u0), .int (u1), .int (u2), .int (u3), .int (u4), .int (u5)]), some (.tup [.int (E (0 + u0) - E 0), .int (E ((0 + u0) + u1) - E (0 + u0)), .int (E (((0 + u0) + u1) + u2) - E ((0 + u0) + u1)), .int (E ((((0 + u0) + u1) + u2) + u3) - E (((0 + u0) + u1) + u2)), .int (E (((((0 + u0) + u1) + u2) + u3) + u4) - E ((((0 + u0) + u1) + u2) + u3)), .int (E ((((((0 + u0) + u1) + u2) + u3) + u4) + u5) - E (((((0 + u0) + u1) + u2) + u3) + u4))]), some (.int 1), some (.tup [.int (u0), .int (u1 + u2), .int (u3), .int (u4), .int (u5)]), some (.tup [.int (E (0 + u0) - E 0), .int (E ((0 + u0) + (u1 + u2)) - E (0 + u0)), .int (E (((0 + u0) + (u1 + u2)) + u3) - E ((0 + u0) + (u1 + u2))), .int (E ((((0 + u0) + (u1 + u2)) + u3) + u4) - E (((0 + u0) + (u1 + u2)) + u3)), .int (E (((((0 + u0) + (u1 + u2)) + u3) + u4) + u5) - E ((((0 + u0) + (u1 + u2)) + u3) + u4))]), some (.int (u1 / 2)), x25] g = .ok sh g := rfl
      rw [ev_cons, v17, R.bind_ok, ev_cons, v18, R.bind_ok, ev_cons, e25, R.bind_ok, ev_nil]; rfl
    rw [a1, R.bind_ok, rC]; rfl
  rw [s22, s23, s24, s25]
  have hh : (((0 + u0) + (u1 / 2)) + (u1 - u1 / 2)) = ((0 + u0) + u1) := by omega
  have dA : isB (mOp neD (mSl (mVar 25) oNone (oSome (mVar 21))) (mSl (mVar 20) oNone (oSome (mVar 21)))) [x0, x1, x2, x3, x4, x5, x6, x7, x8, x9, x10, x11, x12, x13, x14, x15, x16, some (.int sold), some sh, some (.tup [.int (u0), .int (u1), .int (u2), .int (u3), .int (u4), .int (u5)]), some (.tup [.int (E (0 + u0) - E 0), .int (E ((0 + u0) + u1) - E (0 + u0)), .int (E (((0 + u0) + u1) + u2) - E ((0 + u0) + u1)), .int (E ((((0 + u0) + u1) + u2) + u3) - E (((0 + u0) + u1) + u2)), .int (E (((((0 + u0) + u1) + u2) + u3) + u4) - E ((((0 + u0) + u1) + u2) + u3)), .int (E ((((((0 + u0) + u1) + u2) + u3) + u4) + u5) - E (((((0 + u0) + u1) + u2) + u3) + u4))]), some (.int 1), some (.tup [.int (u0), .int (u1 + u2), .int (u3), .int (u4), .int (u5)]), some (.tup [.int (E (0 + u0) - E 0), .int (E ((0 + u0) + (u1 + u2)) - E (0 + u0)), .int (E (((0 + u0) + (u1 + u2)) + u3) - E ((0 + u0) + (u1 + u2))), .int (E ((((0 + u0) + (u1 + u2)) + u3) + u4) - E (((0 + u0) + (u1 + u2)) + u3)), .int (E (((((0 + u0) + (u1 + u2)) + u3) + u4) + u5) - E ((((0 + u0) + (u1 + u2)) + u3) + u4))]), some (.int (u1 / 2)), some (.tup [.int (E (0 + u0) - E 0), .int (E ((0 + u0) + (u1 / 2)) - E (0 + u0)), .int (E (((0 + u0) + (u1 / 2)) + (u1 - u1 / 2)) - E ((0 + u0) + (u1 / 2))), .int (E ((((0 + u0) + (u1 / 2)) + (u1 - u1 / 2)) + u2) - E (((0 + u0) + (u1 / 2)) + (u1 - u1 / 2))), .int (E (((((0 + u0) + (u1 / 2)) + (u1 - u1 / 2)) + u2) + u3) - E ((((0 + u0) + (u1 / 2)) + (u1 - u1 / 2)) + u2)), .int (E ((((((0 + u0) + (u1 / 2)) + (u1 - u1 / 2)) + u2) + u3) + u4) - E (((((0 + u0) + (u1 / 2)) + (u1 - u1 / 2)) + u2) + u3)), .int (E (((((((0 + u0) + (u1 / 2)) + (u1 - u1 / 2)) + u2) + u3) + u4) + u5) - E ((((((0 + u0) + (u1 / 2)) + (u1 - u1 / 2)) + u2) + u3) + u4))])] g = .ok false g := by
    unfold isB
    have w1 : mSl (mVar 25) oNone (oSome (mVar 21)) [x0, x1, x2, x3, x4, x5, x6, x7, x8, x9, x10, x11, x12, x13, x14, x15, x16, some (.int sold), some sh, some (.tup [.int (u0), .int (u1), .int (u2), .int (u3), .int (u4), .int (u5)]), some (.tup [.int (E (0 + u0) - E 0), .int (E ((0 + u0) + u1) - E (0 + u0)), .int (E (((0 + u0) + u1) + u2) - E ((0 + u0) + u1)), .int (E ((((0 + u0) + u1) + u2) + u3) - E (((0 + u0) + u1) + u2)), .int (E (((((0 + u0) + u1) + u2) + u3) + u4) - E ((((0 + u0) + u1) + u2) + u3)), .int (E ((((((0 + u0) + u1) + u2) + u3) + u4) + u5) - E (((((0 + u0) + u1) + u2) + u3) + u4))]), some (.int 1), some (.tup [.int (u0), .int (u1 + u2), .int (u3), .int (u4), .int (u5)]), some (.tup [.int (E (0 + u0) - E 0), .int (E ((0 + u0) + (u1 + u2)) - E (0 + u0)), .int (E (((0 + u0) + (u1 + u2)) + u3) - E ((0 + u0) + (u1 + u2))), .int (E ((((0 + u0) + (u1 + u2)) + u3) + u4) - E (((0 + u0) + (u1 + u2)) + u3)), .int (E (((((0 + u0) + (u1 + u2)) + u3) + u4) + u5) - E ((((0 + u0) + (u1 + u2)) + u3) + u4))]), some (.int (u1 / 2)), some (.tup [.int (E (0 + u0) - E 0), .int (E ((0 + u0) + (u1 / 2)) - E (0 + u0)), .int (E (((0 + u0) + (u1 / 2)) + (u1 - u1 / 2)) - E ((0 + u0) + (u1 / 2))), .int (E ((((0 + u0) + (u1 / 2)) + (u1 - u1 / 2)) + u2) - E (((0 + u0) + (u1 / 2)) + (u1 - u1 / 2))), .int (E (((((0 + u0) + (u1 / 2)) + (u1 - u1 / 2)) + u2) + u3) - E ((((0 + u0) + (u1 / 2)) + (u1 - u1 / 2)) + u2)), .int (E ((((((0 + u0) + (u1 / 2)) + (u1 - u1 / 2)) + u2) + u3) + u4) - E (((((0 + u0) + (u1 / 2)) + (u1 - u1 / 2)) + u2) + u3)), .int (E (((((((0 + u0) + (u1 / 2)) + (u1 - u1 / 2)) + u2) + u3) + u4) + u5) - E ((((((0 + u0) + (u1 / 2)) + (u1 - u1 / 2)) + u2) + u3) + u4))])] g = .ok (.tup [.int (E (0 + u0) - E 0)]) g := rfl
    have w2 : mSl (mVar 20) oNone (oSome (mVar 21)) [x0, x1, x2, x3, x4, x5, x6, x7, x8, x9, x10, x11, x12, x13, x14, x15, x16, some (.int sold), some sh, some (.tup [.int (u0), .int (u1), .int (u2), .int (u3), .int (u4), .int (u5)]), some (.tup [.int (E (0 + u0) - E 0), .int (E ((0 + u0) + u1) - E (0 + u0)), .int (E (((0 + u0) + u1) + u2) - E ((0 + u0) + u1)), .int (E ((((0 + u0) + u1) + u2) + u3) - E (((0 + u0) + u1) + u2)), .int (E (((((0 + u0) + u1) + u2) + u3) + u4) - E ((((0 + u0) + u1) + u2) + u3)), .int (E ((((((0 + u0) + u1) + u2) + u3) + u4) + u5) - E (((((0 + u0) + u1) + u2) + u3) + u4))]), some (.int 1), some (.tup [.int (u0), .int (u1 + u2), .int (u3), .int (u4), .int (u5)]), some (.tup [.int (E (0 + u0) - E 0), .int (E ((0 + u0) + (u1 + u2)) - E (0 + u0)), .int (E (((0 + u0) + (u1 + u2)) + u3) - E ((0 + u0) + (u1 + u2))), .int (E ((((0 + u0) + (u1 + u2)) + u3) + u4) - E (((0 + u0) + (u1 + u2)) + u3)), .int (E (((((0 + u0) + (u1 + u2)) + u3) + u4) + u5) - E ((((0 + u0) + (u1 + u2)) + u3) + u4))]), some (.int (u1 / 2)), some (.tup [.int (E (0 + u0) - E 0), .int (E ((0 + u0) + (u1 / 2)) - E (0 + u0)), .int (E (((0 + u0) + (u1 / 2)) + (u1 - u1 / 2)) - E ((0 + u0) + (u1 / 2))), .int (E ((((0 + u0) + (u1 / 2)) + (u1 - u1 / 2)) + u2) - E (((0 + u0) + (u1 / 2)) + (u1 - u1 / 2))), .int (E (((((0 + u0) + (u1 / 2)) + (u1 - u1 / 2)) + u2) + u3) - E ((((0 + u0) + (u1 / 2)) + (u1 - u1 / 2)) + u2)), .int (E ((((((0 + u0) + (u1 / 2)) + (u1 - u1 / 2)) + u2) + u3) + u4) - E (((((0 + u0) + (u1 / 2)) + (u1 - u1 / 2)) + u2) + u3)), .int (E (((((((0 + u0) + (u1 / 2)) + (u1 - u1 / 2)) + u2) + u3) + u4) + u5) - E ((((((0 + u0) + (u1 / 2)) + (u1 - u1 / 2)) + u2) + u3) + u4))])] g = .ok (.tup [.int (E (0 + u0) - E 0)]) g := rfl
    rw [ev_op, w1, R.bind_ok, w2, R.bind_ok, show neD (.tup [.int (E (0 + u0) - E 0)]) (.tup [.int (E (0 + u0) - E 0)]) g = .ok (.bl false) g from vd_neT [E (0 + u0) - E 0] g]; rfl
  have dB : isB (mOp neD (mOp addD (mOp ixD (mVar 25) (mVar 21)) (mOp ixD (mVar 25) (mOp addD (mVar 21) (mC (.int 1))))) (mOp ixD (mVar 20) (mVar 21))) [x0, x1, x2, x3, x4, x5, x6, x7, x8, x9, x10, x11, x12, x13, x14, x15, x16, some (.int sold), some sh, some (.tup [.int (u0), .int (u1), .int (u2), .int (u3), .int (u4), .int (u5)]), some (.tup [.int (E (0 + u0) - E 0), .int (E ((0 + u0) + u1) - E (0 + u0)), .int (E (((0 + u0) + u1) + u2) - E ((0 + u0) + u1)), .int (E ((((0 + u0) + u1) + u2) + u3) - E (((0 + u0) + u1) + u2)), .int (E (((((0 + u0) + u1) + u2) + u3) + u4) - E ((((0 + u0) + u1) + u2) + u3)), .int (E ((((((0 + u0) + u1) + u2) + u3) + u4) + u5) - E (((((0 + u0) + u1) + u2) + u3) + u4))]), some (.int 1), some (.tup [.int (u0), .int (u1 + u2), .int (u3), .int (u4), .int (u5)]), some (.tup [.int (E (0 + u0) - E 0), .int (E ((0 + u0) + (u1 + u2)) - E (0 + u0)), .int (E (((0 + u0) + (u1 + u2)) + u3) - E ((0 + u0) + (u1 + u2))), .int (E ((((0 + u0) + (u1 + u2)) + u3) + u4) - E (((0 + u0) + (u1 + u2)) + u3)), .int (E (((((0 + u0) + (u1 + u2)) + u3) + u4) + u5) - E ((((0 + u0) + (u1 + u2)) + u3) + u4))]), some (.int (u1 / 2)), some (.tup [.int (E (0 + u0) - E 0), .int (E ((0 + u0) + (u1 / 2)) - E (0 + u0)), .int (E (((0 + u0) + (u1 / 2)) + (u1 - u1 / 2)) - E ((0 + u0) + (u1 / 2))), .int (E ((((0 + u0) + (u1 / 2)) + (u1 - u1 / 2)) + u2) - E (((0 + u0) + (u1 / 2)) + (u1 - u1 / 2))), .int (E (((((0 + u0) + (u1 / 2)) + (u1 - u1 / 2)) + u2) + u3) - E ((((0 + u0) + (u1 / 2)) + (u1 - u1 / 2)) + u2)), .int (E ((((((0 + u0) + (u1 / 2)) + (u1 - u1 / 2)) + u2) + u3) + u4) - E (((((0 + u0) + (u1 / 2)) + (u1 - u1 / 2)) + u2) + u3)), .int (E (((((((0 + u0) + (u1 / 2)) + (u1 - u1 / 2)) + u2) + u3) + u4) + u5) - E ((((((0 + u0) + (u1 / 2)) + (u1 - u1 / 2)) + u2) + u3) + u4))])] g = .ok false g := by
    unfold isB
    have w1 : mOp addD (mOp ixD (mVar 25) (mVar 21)) (mOp ixD (mVar 25) (mOp addD (mVar 21) (mC (.int 1)))) [x0, x1, x2, x3, x4, x5, x6, x7, x8, x9, x10, x11, x12, x13, x14, x15, x16, some (.int sold), some sh, some (.tup [.int (u0), .int (u1), .int (u2), .int (u3), .int (u4), .int (u5)]), some (.tup [.int (E (0 + u0) - E 0), .int (E ((0 + u0) + u1) - E (0 + u0)), .int (E (((0 + u0) + u1) + u2) - E ((0 + u0) + u1)), .int (E ((((0 + u0) + u1) + u2) + u3) - E (((0 + u0) + u1) + u2)), .int (E (((((0 + u0) + u1) + u2) + u3) + u4) - E ((((0 + u0) + u1) + u2) + u3)), .int (E ((((((0 + u0) + u1) + u2) + u3) + u4) + u5) - E (((((0 + u0) + u1) + u2) + u3) + u4))]), some (.int 1), some (.tup [.int (u0), .int (u1 + u2), .int (u3), .int (u4), .int (u5)]), some (.tup [.int (E (0 + u0) - E 0), .int (E ((0 + u0) + (u1 + u2)) - E (0 + u0)), .int (E (((0 + u0) + (u1 + u2)) + u3) - E ((0 + u0) + (u1 + u2))), .int (E ((((0 + u0) + (u1 + u2)) + u3) + u4) - E (((0 + u0) + (u1 + u2)) + u3)), .int (E (((((0 + u0) + (u1 + u2)) + u3) + u4) + u5) - E ((((0 + u0) + (u1 + u2)) + u3) + u4))]), some (.int (u1 / 2)), some (.tup [.int (E (0 + u0) - E 0), .int (E ((0 + u0) + (u1 / 2)) - E (0 + u0)), .int (E (((0 + u0) + (u1 / 2)) + (u1 - u1 / 2)) - E ((0 + u0) + (u1 / 2))), .int (E ((((0 + u0) + (u1 / 2)) + (u1 - u1 / 2)) + u2) - E (((0 + u0) + (u1 / 2)) + (u1 - u1 / 2))), .int (E (((((0 + u0) + (u1 / 2)) + (u1 - u1 / 2)) + u2) + u3) - E ((((0 + u0) + (u1 / 2)) + (u1 - u1 / 2)) + u2)), .int (E ((((((0 + u0) + (u1 / 2)) + (u1 - u1 / 2)) + u2) + u3) + u4) - E (((((0 + u0) + (u1 / 2)) + (u1 - u1 / 2)) + u2) + u3)), .int (E (((((((0 + u0) + (u1 / 2)) + (u1 - u1 / 2)) + u2) + u3) + u4) + u5) - E ((((((0 + u0) + (u1 / 2)) + (u1 - u1 / 2)) + u2) + u3) + u4))])] g = .ok (.int (E ((0 + u0) + (u1 / 2)) - E (0 + u0) + (E (((0 + u0) + (u1 / 2)) + (u1 - u1 / 2)) - E ((0 + u0) + (u1 / 2))))) g := rfl
    have w2 : mOp ixD (mVar 20) (mVar 21) [x0, x1, x2, x3, x4, x5, x6, x7, x8, x9, x10, x11, x12, x13, x14, x15, x16, some (.int sold), some sh, some (.tup [.int (u0), .int (u1), .int (u2), .int (u3), .int (u4), .int (u5)]), some (.tup [.int (E (0 + u0) - E 0), .int (E ((0 + u0) + u1) - E (0 + u0)), .int (E (((0 + u0) + u1) + u2) - E ((0 + u0) + u1)), .int (E ((((0 + u0) + u1) + u2) + u3) - E (((0 + u0) + u1) + u2)), .int (E (((((0 + u0) + u1) + u2) + u3) + u4) - E ((((0 + u0) + u1) + u2) + u3)), .int (E ((((((0 + u0) + u1) + u2) + u3) + u4) + u5) - E (((((0 + u0) + u1) + u2) + u3) + u4))]), some (.int 1), some (.tup [.int (u0), .int (u1 + u2), .int (u3), .int (u4), .int (u5)]), some (.tup [.int (E (0 + u0) - E 0), .int (E ((0 + u0) + (u1 + u2)) - E (0 + u0)), .int (E (((0 + u0) + (u1 + u2)) + u3) - E ((0 + u0) + (u1 + u2))), .int (E ((((0 + u0) + (u1 + u2)) + u3) + u4) - E (((0 + u0) + (u1 + u2)) + u3)), .int (E (((((0 + u0) + (u1 + u2)) + u3) + u4) + u5) - E ((((0 + u0) + (u1 + u2)) + u3) + u4))]), some (.int (u1 / 2)), some (.tup [.int (E (0 + u0) - E 0), .int (E ((0 + u0) + (u1 / 2)) - E (0 + u0)), .int (E (((0 + u0) + (u1 / 2)) + (u1 - u1 / 2)) - E ((0 + u0) + (u1 / 2))), .int (E ((((0 + u0) + (u1 / 2)) + (u1 - u1 / 2)) + u2) - E (((0 + u0) + (u1 / 2)) + (u1 - u1 / 2))), .int (E (((((0 + u0) + (u1 / 2)) + (u1 - u1 / 2)) + u2) + u3) - E ((((0 + u0) + (u1 / 2)) + (u1 - u1 / 2)) + u2)), .int (E ((((((0 + u0) + (u1 / 2)) + (u1 - u1 / 2)) + u2) + u3) + u4) - E (((((0 + u0) + (u1 / 2)) + (u1 - u1 / 2)) + u2) + u3)), .int (E (((((((0 + u0) + (u1 / 2)) + (u1 - u1 / 2)) + u2) + u3) + u4) + u5) - E ((((((0 + u0) + (u1 / 2)) + (u1 - u1 / 2)) + u2) + u3) + u4))])] g = .ok (.int (E ((0 + u0) + u1) - E (0 + u0))) g := rfl
    rw [ev_op, w1, R.bind_ok, w2, R.bind_ok, vd_ne, hh]
    have : E ((0 + u0) + (u1 / 2)) - E (0 + u0) + (E ((0 + u0) + u1) - E ((0 + u0) + (u1 / 2))) = E ((0 + u0) + u1) - E (0 + u0) := by omega
    rw [decide_eq_true this]; rfl
  have dC : isB (mOp neD (mSl (mVar 25) (oSome (mOp addD (mVar 21) (mC (.int 2)))) oNone) (mSl (mVar 20) (oSome (mOp addD (mVar 21) (mC (.int 1)))) oNone)) [x0, x1, x2, x3, x4, x5, x6, x7, x8, x9, x10, x11, x12, x13, x14, x15, x16, some (.int sold), some sh, some (.tup [.int (u0), .int (u1), .int (u2), .int (u3), .int (u4), .int (u5)]), some (.tup [.int (E (0 + u0) - E 0), .int (E ((0 + u0) + u1) - E (0 + u0)), .int (E (((0 + u0) + u1) + u2) - E ((0 + u0) + u1)), .int (E ((((0 + u0) + u1) + u2) + u3) - E (((0 + u0) + u1) + u2)), .int (E (((((0 + u0) + u1) + u2) + u3) + u4) - E ((((0 + u0) + u1) + u2) + u3)), .int (E ((((((0 + u0) + u1) + u2) + u3) + u4) + u5) - E (((((0 + u0) + u1) + u2) + u3) + u4))]), some (.int 1), some (.tup [.int (u0), .int (u1 + u2), .int (u3), .int (u4), .int (u5)]), some (.tup [.int (E (0 + u0) - E 0), .int (E ((0 + u0) + (u1 + u2)) - E (0 + u0)), .int (E (((0 + u0) + (u1 + u2)) + u3) - E ((0 + u0) + (u1 + u2))), .int (E ((((0 + u0) + (u1 + u2)) + u3) + u4) - E (((0 + u0) + (u1 + u2)) + u3)), .int (E (((((0 + u0) + (u1 + u2)) + u3) + u4) + u5) - E ((((0 + u0) + (u1 + u2)) + u3) + u4))]), some (.int (u1 / 2)), some (.tup [.int (E (0 + u0) - E 0), .int (E ((0 + u0) + (u1 / 2)) - E (0 + u0)), .int (E (((0 + u0) + (u1 / 2)) + (u1 - u1 / 2)) - E ((0 + u0) + (u1 / 2))), .int (E ((((0 + u0) + (u1 / 2)) + (u1 - u1 / 2)) + u2) - E (((0 + u0) + (u1 / 2)) + (u1 - u1 / 2))), .int (E (((((0 + u0) + (u1 / 2)) + (u1 - u1 / 2)) + u2) + u3) - E ((((0 + u0) + (u1 / 2)) + (u1 - u1 / 2)) + u2)), .int (E ((((((0 + u0) + (u1 / 2)) + (u1 - u1 / 2)) + u2) + u3) + u4) - E (((((0 + u0) + (u1 / 2)) + (u1 - u1 / 2)) + u2) + u3)), .int (E (((((((0 + u0) + (u1 / 2)) + (u1 - u1 / 2)) + u2) + u3) + u4) + u5) - E ((((((0 + u0) + (u1 / 2)) + (u1 - u1 / 2)) + u2) + u3) + u4))])] g = .ok false g := by
    unfold isB
    have w1 : mSl (mVar 25) (oSome (mOp addD (mVar 21) (mC (.int 2)))) oNone [x0, x1, x2, x3, x4, x5, x6, x7, x8, x9, x10, x11, x12, x13, x14, x15, x16, some (.int sold), some sh, some (.tup [.int (u0), .int (u1), .int (u2), .int (u3), .int (u4), .int (u5)]), some (.tup [.int (E (0 + u0) - E 0), .int (E ((0 + u0) + u1) - E (0 + u0)), .int (E (((0 + u0) + u1) + u2) - E ((0 + u0) + u1)), .int (E ((((0 + u0) + u1) + u2) + u3) - E (((0 + u0) + u1) + u2)), .int (E (((((0 + u0) + u1) + u2) + u3) + u4) - E ((((0 + u0) + u1) + u2) + u3)), .int (E ((((((0 + u0) + u1) + u2) + u3) + u4) + u5) - E (((((0 + u0) + u1) + u2) + u3) + u4))]), some (.int 1), some (.tup [.int (u0), .int (u1 + u2), .int (u3), .int (u4), .int (u5)]), some (.tup [.int (E (0 + u0) - E 0), .int (E ((0 + u0) + (u1 + u2)) - E (0 + u0)), .int (E (((0 + u0) + (u1 + u2)) + u3) - E ((0 + u0) + (u1 + u2))), .int (E ((((0 + u0) + (u1 + u2)) + u3) + u4) - E (((0 + u0) + (u1 + u2)) + u3)), .int (E (((((0 + u0) + (u1 + u2)) + u3) + u4) + u5) - E ((((0 + u0) + (u1 + u2)) + u3) + u4))]), some (.int (u1 / 2)), some (.tup [.int (E (0 + u0) - E 0), .int (E ((0 + u0) + (u1 / 2)) - E (0 + u0)), .int (E (((0 + u0) + (u1 / 2)) + (u1 - u1 / 2)) - E ((0 + u0) + (u1 / 2))), .int (E ((((0 + u0) + (u1 / 2)) + (u1 - u1 / 2)) + u2) - E (((0 + u0) + (u1 / 2)) + (u1 - u1 / 2))), .int (E (((((0 + u0) + (u1 / 2)) + (u1 - u1 / 2)) + u2) + u3) - E ((((0 + u0) + (u1 / 2)) + (u1 - u1 / 2)) + u2)), .int (E ((((((0 + u0) + (u1 / 2)) + (u1 - u1 / 2)) + u2) + u3) + u4) - E (((((0 + u0) + (u1 / 2)) + (u1 - u1 / 2)) + u2) + u3)), .int (E (((((((0 + u0) + (u1 / 2)) + (u1 - u1 / 2)) + u2) + u3) + u4) + u5) - E ((((((0 + u0) + (u1 / 2)) + (u1 - u1 / 2)) + u2) + u3) + u4))])] g = .ok (.tup [.int (E ((((0 + u0) + (u1 / 2)) + (u1 - u1 / 2)) + u2) - E (((0 + u0) + (u1 / 2)) + (u1 - u1 / 2))), .int (E (((((0 + u0) + (u1 / 2)) + (u1 - u1 / 2)) + u2) + u3) - E ((((0 + u0) + (u1 / 2)) + (u1 - u1 / 2)) + u2)), .int (E ((((((0 + u0) + (u1 / 2)) + (u1 - u1 / 2)) + u2) + u3) + u4) - E (((((0 + u0) + (u1 / 2)) + (u1 - u1 / 2)) + u2) + u3)), .int (E (((((((0 + u0) + (u1 / 2)) + (u1 - u1 / 2)) + u2) + u3) + u4) + u5) - E ((((((0 + u0) + (u1 / 2)) + (u1 - u1 / 2)) + u2) + u3) + u4))]) g := rfl
    have w2 : mSl (mVar 20) (oSome (mOp addD (mVar 21) (mC (.int 1)))) oNone [x0, x1, x2, x3, x4, x5, x6, x7, x8, x9, x10, x11, x12, x13, x14, x15, x16, some (.int sold), some sh, some (.tup [.int (u0), .int (u1), .int (u2), .int (u3), .int (u4), .int (u5)]), some (.tup [.int (E (0 + u0) - E 0), .int (E ((0 + u0) + u1) - E (0 + u0)), .int (E (((0 + u0) + u1) + u2) - E ((0 + u0) + u1)), .int (E ((((0 + u0) + u1) + u2) + u3) - E (((0 + u0) + u1) + u2)), .int (E (((((0 + u0) + u1) + u2) + u3) + u4) - E ((((0 + u0) + u1) + u2) + u3)), .int (E ((((((0 + u0) + u1) + u2) + u3) + u4) + u5) - E (((((0 + u0) + u1) + u2) + u3) + u4))]), some (.int 1), some (.tup [.int (u0), .int (u1 + u2), .int (u3), .int (u4), .int (u5)]), some (.tup [.int (E (0 + u0) - E 0), .int (E ((0 + u0) + (u1 + u2)) - E (0 + u0)), .int (E (((0 + u0) + (u1 + u2)) + u3) - E ((0 + u0) + (u1 + u2))), .int (E ((((0 + u0) + (u1 + u2)) + u3) + u4) - E (((0 + u0) + (u1 + u2)) + u3)), .int (E (((((0 + u0) + (u1 + u2)) + u3) + u4) + u5) - E ((((0 + u0) + (u1 + u2)) + u3) + u4))]), some (.int (u1 / 2)), some (.tup [.int (E (0 + u0) - E 0), .int (E ((0 + u0) + (u1 / 2)) - E (0 + u0)), .int (E (((0 + u0) + (u1 / 2)) + (u1 - u1 / 2)) - E ((0 + u0) + (u1 / 2))), .int (E ((((0 + u0) + (u1 / 2)) + (u1 - u1 / 2)) + u2) - E (((0 + u0) + (u1 / 2)) + (u1 - u1 / 2))), .int (E (((((0 + u0) + (u1 / 2)) + (u1 - u1 / 2)) + u2) + u3) - E ((((0 + u0) + (u1 / 2)) + (u1 - u1 / 2)) + u2)), .int (E ((((((0 + u0) + (u1 / 2)) + (u1 - u1 / 2)) + u2) + u3) + u4) - E (((((0 + u0) + (u1 / 2)) + (u1 - u1 / 2)) + u2) + u3)), .int (E (((((((0 + u0) + (u1 / 2)) + (u1 - u1 / 2)) + u2) + u3) + u4) + u5) - E ((((((0 + u0) + (u1 / 2)) + (u1 - u1 / 2)) + u2) + u3) + u4))])] g = .ok (.tup [.int (E (((0 + u0) + u1) + u2) - E ((0 + u0) + u1)), .int (E ((((0 + u0) + u1) + u2) + u3) - E (((0 + u0) + u1) + u2)), .int (E (((((0 + u0) + u1) + u2) + u3) + u4) - E ((((0 + u0) + u1) + u2) + u3)), .int (E ((((((0 + u0) + u1) + u2) + u3) + u4) + u5) - E (((((0 + u0) + u1) + u2) + u3) + u4))]) g := rfl
    rw [ev_op, w1, R.bind_ok, w2, R.bind_ok, hh, show neD (.tup [.int (E (((0 + u0) + u1) + u2) - E ((0 + u0) + u1)), .int (E ((((0 + u0) + u1) + u2) + u3) - E (((0 + u0) + u1) + u2)), .int (E (((((0 + u0) + u1) + u2) + u3) + u4) - E ((((0 + u0) + u1) + u2) + u3)), .int (E ((((((0 + u0) + u1) + u2) + u3) + u4) + u5) - E (((((0 + u0) + u1) + u2) + u3) + u4))]) (.tup [.int (E (((0 + u0) + u1) + u2) - E ((0 + u0) + u1)), .int (E ((((0 + u0) + u1) + u2) + u3) - E (((0 + u0) + u1) + u2)), .int (E (((((0 + u0) + u1) + u2) + u3) + u4) - E ((((0 + u0) + u1) + u2) + u3)), .int (E ((((((0 + u0) + u1) + u2) + u3) + u4) + u5) - E (((((0 + u0) + u1) + u2) + u3) + u4))]) g = .ok (.bl false) g from vd_neT [E (((0 + u0) + u1) + u2) - E ((0 + u0) + u1), E ((((0 + u0) + u1) + u2) + u3) - E (((0 + u0) + u1) + u2), E (((((0 + u0) + u1) + u2) + u3) + u4) - E ((((0 + u0) + u1) + u2) + u3), E ((((((0 + u0) + u1) + u2) + u3) + u4) + u5) - E (((((0 + u0) + u1) + u2) + u3) + u4)] g]; rfl
  unfold t_law_28
  rw [ev_if, ev_tor, dA, R.bind_ok, if_neg Bool.false_ne_true, ev_tor, dB, R.bind_ok, if_neg Bool.false_ne_true, dC, R.go_ok, if_neg Bool.false_ne_true]
  rfl

theorem l6_2 {sold : Int} {sh : D} {E W : Int → Int} (hR : ∀ us : List Int, 1 ≤ us.length ∧ us.length ≤ 12 → (∀ u ∈ us, 0 ≤ u ∧ u ≤ 1000000) → ∀ g, m_recognised [.int sold, sh, .tup (us.map D.int)] g = .ok (.tup ((goE E 0 us).map D.int)) g)
    (hO : ∀ us : List Int, 1 ≤ us.length ∧ us.length ≤ 12 → (∀ u ∈ us, 0 ≤ u ∧ u ≤ 1000000) → ∀ g, m_still_owed [.int sold, sh, .tup (us.map D.int)] g = .ok (.int (W us.sum)) g)
    (u0 u1 u2 u3 u4 u5 : Int) (h0 : 0 ≤ u0 ∧ u0 ≤ 1000) (h1 : 0 ≤ u1 ∧ u1 ≤ 1000) (h2 : 0 ≤ u2 ∧ u2 ≤ 1000) (h3 : 0 ≤ u3 ∧ u3 ≤ 1000) (h4 : 0 ≤ u4 ∧ u4 ≤ 1000) (h5 : 0 ≤ u5 ∧ u5 ≤ 1000) (g : Gp) (x0 x1 x2 x3 x4 x5 x6 x7 x8 x9 x10 x11 x12 x13 x14 x15 x16 x22 x23 x24 x25 : Option D) :
    ∃ y22 y23 y24 y25 : Option D, l_law_6 [x0, x1, x2, x3, x4, x5, x6, x7, x8, x9, x10, x11, x12, x13, x14, x15, x16, some (.int sold), some sh, some (.tup [.int (u0), .int (u1), .int (u2), .int (u3), .int (u4), .int (u5)]), some (.tup [.int (E (0 + u0) - E 0), .int (E ((0 + u0) + u1) - E (0 + u0)), .int (E (((0 + u0) + u1) + u2) - E ((0 + u0) + u1)), .int (E ((((0 + u0) + u1) + u2) + u3) - E (((0 + u0) + u1) + u2)), .int (E (((((0 + u0) + u1) + u2) + u3) + u4) - E ((((0 + u0) + u1) + u2) + u3)), .int (E ((((((0 + u0) + u1) + u2) + u3) + u4) + u5) - E (((((0 + u0) + u1) + u2) + u3) + u4))]), some (.int 2), x22, x23, x24, x25] g = .nx [x0, x1, x2, x3, x4, x5, x6, x7, x8, x9, x10, x11, x12, x13, x14, x15, x16, some (.int sold), some sh, some (.tup [.int (u0), .int (u1), .int (u2), .int (u3), .int (u4), .int (u5)]), some (.tup [.int (E (0 + u0) - E 0), .int (E ((0 + u0) + u1) - E (0 + u0)), .int (E (((0 + u0) + u1) + u2) - E ((0 + u0) + u1)), .int (E ((((0 + u0) + u1) + u2) + u3) - E (((0 + u0) + u1) + u2)), .int (E (((((0 + u0) + u1) + u2) + u3) + u4) - E ((((0 + u0) + u1) + u2) + u3)), .int (E ((((((0 + u0) + u1) + u2) + u3) + u4) + u5) - E (((((0 + u0) + u1) + u2) + u3) + u4))]), some (.int 2), y22, y23, y24, y25] g := by
  have bJ : ∀ u ∈ ([u0, u1, u2 + u3, u4, u5] : List Int), 0 ≤ u ∧ u ≤ 1000000 := by
    simp only [List.forall_mem_cons, List.not_mem_nil, false_implies, implies_true, and_true]; omega
  have bC : ∀ u ∈ ([u0, u1, u2 / 2, u2 - u2 / 2, u3, u4, u5] : List Int), 0 ≤ u ∧ u ≤ 1000000 := by
    simp only [List.forall_mem_cons, List.not_mem_nil, false_implies, implies_true, and_true]; omega
  have bU : ∀ u ∈ ([u0, u1, u2, u3, u4, u5] : List Int), 0 ≤ u ∧ u ≤ 1000000 := by
    simp only [List.forall_mem_cons, List.not_mem_nil, false_implies, implies_true, and_true]; omega
  have rJ : m_recognised [.int sold, sh, .tup [.int (u0), .int (u1), .int (u2 + u3), .int (u4), .int (u5)]] g = .ok (.tup [.int (E (0 + u0) - E 0), .int (E ((0 + u0) + u1) - E (0 + u0)), .int (E (((0 + u0) + u1) + (u2 + u3)) - E ((0 + u0) + u1)), .int (E ((((0 + u0) + u1) + (u2 + u3)) + u4) - E (((0 + u0) + u1) + (u2 + u3))), .int (E (((((0 + u0) + u1) + (u2 + u3)) + u4) + u5) - E ((((0 + u0) + u1) + (u2 + u3)) + u4))]) g := hR [u0, u1, u2 + u3, u4, u5] ⟨by simp, by simp⟩ bJ g
  have rC : m_recognised [.int sold, sh, .tup [.int (u0), .int (u1), .int (u2 / 2), .int (u2 - u2 / 2), .int (u3), .int (u4), .int (u5)]] g = .ok (.tup [.int (E (0 + u0) - E 0), .int (E ((0 + u0) + u1) - E (0 + u0)), .int (E (((0 + u0) + u1) + (u2 / 2)) - E ((0 + u0) + u1)), .int (E ((((0 + u0) + u1) + (u2 / 2)) + (u2 - u2 / 2)) - E (((0 + u0) + u1) + (u2 / 2))), .int (E (((((0 + u0) + u1) + (u2 / 2)) + (u2 - u2 / 2)) + u3) - E ((((0 + u0) + u1) + (u2 / 2)) + (u2 - u2 / 2))), .int (E ((((((0 + u0) + u1) + (u2 / 2)) + (u2 - u2 / 2)) + u3) + u4) - E (((((0 + u0) + u1) + (u2 / 2)) + (u2 - u2 / 2)) + u3)), .int (E (((((((0 + u0) + u1) + (u2 / 2)) + (u2 - u2 / 2)) + u3) + u4) + u5) - E ((((((0 + u0) + u1) + (u2 / 2)) + (u2 - u2 / 2)) + u3) + u4))]) g := hR [u0, u1, u2 / 2, u2 - u2 / 2, u3, u4, u5] ⟨by simp, by simp⟩ bC g
  have oJ : m_still_owed [.int sold, sh, .tup [.int (u0), .int (u1), .int (u2 + u3), .int (u4), .int (u5)]] g = .ok (.int (W ([u0, u1, u2, u3, u4, u5] : List Int).sum)) g := by
    have : ([u0, u1, u2 + u3, u4, u5] : List Int).sum = ([u0, u1, u2, u3, u4, u5] : List Int).sum := by simp only [List.sum_cons, List.sum_nil]; omega
    rw [← this]; exact hO [u0, u1, u2 + u3, u4, u5] ⟨by simp, by simp⟩ bJ g
  have oU : m_still_owed [.int sold, sh, .tup [.int (u0), .int (u1), .int (u2), .int (u3), .int (u4), .int (u5)]] g = .ok (.int (W ([u0, u1, u2, u3, u4, u5] : List Int).sum)) g := hO [u0, u1, u2, u3, u4, u5] ⟨by simp, by simp⟩ bU g
  have eJ : ([E (0 + u0) - E 0, E ((0 + u0) + u1) - E (0 + u0), E (((0 + u0) + u1) + (u2 + u3)) - E ((0 + u0) + u1), E ((((0 + u0) + u1) + (u2 + u3)) + u4) - E (((0 + u0) + u1) + (u2 + u3)), E (((((0 + u0) + u1) + (u2 + u3)) + u4) + u5) - E ((((0 + u0) + u1) + (u2 + u3)) + u4)] : List Int) = [E (0 + u0) - E 0, E ((0 + u0) + u1) - E (0 + u0), E (((0 + u0) + u1) + u2) - E ((0 + u0) + u1) + (E ((((0 + u0) + u1) + u2) + u3) - E (((0 + u0) + u1) + u2)), E (((((0 + u0) + u1) + u2) + u3) + u4) - E ((((0 + u0) + u1) + u2) + u3), E ((((((0 + u0) + u1) + u2) + u3) + u4) + u5) - E (((((0 + u0) + u1) + u2) + u3) + u4)] := by
    simp only [Int.add_assoc, List.cons.injEq, and_true, true_and]; omega
  have e22 : (mOp addD (mOp addD (mSl (mVar 19) oNone (oSome (mVar 21))) (mTup (mCons (mOp addD (mOp ixD (mVar 19) (mVar 21)) (mOp ixD (mVar 19) (mOp addD (mVar 21) (mC (.int 1))))) mNil))) (mSl (mVar 19) (oSome (mOp addD (mVar 21) (mC (.int 2)))) oNone)) [x0, x1, x2, x3, x4, x5, x6, x7, x8, x9, x10, x11, x12, x13, x14, x15, x16, some (.int sold), some sh, some (.tup [.int (u0), .int (u1), .int (u2), .int (u3), .int (u4), .int (u5)]), some (.tup [.int (E (0 + u0) - E 0), .int (E ((0 + u0) + u1) - E (0 + u0)), .int (E (((0 + u0) + u1) + u2) - E ((0 + u0) + u1)), .int (E ((((0 + u0) + u1) + u2) + u3) - E (((0 + u0) + u1) + u2)), .int (E (((((0 + u0) + u1) + u2) + u3) + u4) - E ((((0 + u0) + u1) + u2) + u3)), .int (E ((((((0 + u0) + u1) + u2) + u3) + u4) + u5) - E (((((0 + u0) + u1) + u2) + u3) + u4))]), some (.int 2), x22, x23, x24, x25] g = .ok (.tup [.int (u0), .int (u1), .int (u2 + u3), .int (u4), .int (u5)]) g := rfl
  have e23 : (mOp addD (mOp addD (mSl (mVar 20) oNone (oSome (mVar 21))) (mTup (mCons (mOp addD (mOp ixD (mVar 20) (mVar 21)) (mOp ixD (mVar 20) (mOp addD (mVar 21) (mC (.int 1))))) mNil))) (mSl (mVar 20) (oSome (mOp addD (mVar 21) (mC (.int 2)))) oNone)) [x0, x1, x2, x3, x4, x5, x6, x7, x8, x9, x10, x11, x12, x13, x14, x15, x16, some (.int sold), some sh, some (.tup [.int (u0), .int (u1), .int (u2), .int (u3), .int (u4), .int (u5)]), some (.tup [.int (E (0 + u0) - E 0), .int (E ((0 + u0) + u1) - E (0 + u0)), .int (E (((0 + u0) + u1) + u2) - E ((0 + u0) + u1)), .int (E ((((0 + u0) + u1) + u2) + u3) - E (((0 + u0) + u1) + u2)), .int (E (((((0 + u0) + u1) + u2) + u3) + u4) - E ((((0 + u0) + u1) + u2) + u3)), .int (E ((((((0 + u0) + u1) + u2) + u3) + u4) + u5) - E (((((0 + u0) + u1) + u2) + u3) + u4))]), some (.int 2), some (.tup [.int (u0), .int (u1), .int (u2 + u3), .int (u4), .int (u5)]), some (.tup [.int (E (0 + u0) - E 0), .int (E ((0 + u0) + u1) - E (0 + u0)), .int (E (((0 + u0) + u1) + (u2 + u3)) - E ((0 + u0) + u1)), .int (E ((((0 + u0) + u1) + (u2 + u3)) + u4) - E (((0 + u0) + u1) + (u2 + u3))), .int (E (((((0 + u0) + u1) + (u2 + u3)) + u4) + u5) - E ((((0 + u0) + u1) + (u2 + u3)) + u4))]), x24, x25] g = .ok (.tup [.int (E (0 + u0) - E 0), .int (E ((0 + u0) + u1) - E (0 + u0)), .int (E (((0 + u0) + u1) + u2) - E ((0 + u0) + u1) + (E ((((0 + u0) + u1) + u2) + u3) - E (((0 + u0) + u1) + u2))), .int (E (((((0 + u0) + u1) + u2) + u3) + u4) - E ((((0 + u0) + u1) + u2) + u3)), .int (E ((((((0 + u0) + u1) + u2) + u3) + u4) + u5) - E (((((0 + u0) + u1) + u2) + u3) + u4))]) g := rfl
  have n23 : neD (.tup [.int (E (0 + u0) - E 0), .int (E ((0 + u0) + u1) - E (0 + u0)), .int (E (((0 + u0) + u1) + (u2 + u3)) - E ((0 + u0) + u1)), .int (E ((((0 + u0) + u1) + (u2 + u3)) + u4) - E (((0 + u0) + u1) + (u2 + u3))), .int (E (((((0 + u0) + u1) + (u2 + u3)) + u4) + u5) - E ((((0 + u0) + u1) + (u2 + u3)) + u4))]) (.tup [.int (E (0 + u0) - E 0), .int (E ((0 + u0) + u1) - E (0 + u0)), .int (E (((0 + u0) + u1) + u2) - E ((0 + u0) + u1) + (E ((((0 + u0) + u1) + u2) + u3) - E (((0 + u0) + u1) + u2))), .int (E (((((0 + u0) + u1) + u2) + u3) + u4) - E ((((0 + u0) + u1) + u2) + u3)), .int (E ((((((0 + u0) + u1) + u2) + u3) + u4) + u5) - E (((((0 + u0) + u1) + u2) + u3) + u4))]) g = .ok (.bl false) g := by
    have := vd_neT [E (0 + u0) - E 0, E ((0 + u0) + u1) - E (0 + u0), E (((0 + u0) + u1) + (u2 + u3)) - E ((0 + u0) + u1), E ((((0 + u0) + u1) + (u2 + u3)) + u4) - E (((0 + u0) + u1) + (u2 + u3)), E (((((0 + u0) + u1) + (u2 + u3)) + u4) + u5) - E ((((0 + u0) + u1) + (u2 + u3)) + u4)] g
    rw [show (neD (.tup [.int (E (0 + u0) - E 0), .int (E ((0 + u0) + u1) - E (0 + u0)), .int (E (((0 + u0) + u1) + (u2 + u3)) - E ((0 + u0) + u1)), .int (E ((((0 + u0) + u1) + (u2 + u3)) + u4) - E (((0 + u0) + u1) + (u2 + u3))), .int (E (((((0 + u0) + u1) + (u2 + u3)) + u4) + u5) - E ((((0 + u0) + u1) + (u2 + u3)) + u4))]) (.tup [.int (E (0 + u0) - E 0), .int (E ((0 + u0) + u1) - E (0 + u0)), .int (E (((0 + u0) + u1) + u2) - E ((0 + u0) + u1) + (E ((((0 + u0) + u1) + u2) + u3) - E (((0 + u0) + u1) + u2))), .int (E (((((0 + u0) + u1) + u2) + u3) + u4) - E ((((0 + u0) + u1) + u2) + u3)), .int (E ((((((0 + u0) + u1) + u2) + u3) + u4) + u5) - E (((((0 + u0) + u1) + u2) + u3) + u4))]) g) = neD (.tup (([E (0 + u0) - E 0, E ((0 + u0) + u1) - E (0 + u0), E (((0 + u0) + u1) + (u2 + u3)) - E ((0 + u0) + u1), E ((((0 + u0) + u1) + (u2 + u3)) + u4) - E (((0 + u0) + u1) + (u2 + u3)), E (((((0 + u0) + u1) + (u2 + u3)) + u4) + u5) - E ((((0 + u0) + u1) + (u2 + u3)) + u4)] : List Int).map D.int)) (.tup (([E (0 + u0) - E 0, E ((0 + u0) + u1) - E (0 + u0), E (((0 + u0) + u1) + u2) - E ((0 + u0) + u1) + (E ((((0 + u0) + u1) + u2) + u3) - E (((0 + u0) + u1) + u2)), E (((((0 + u0) + u1) + u2) + u3) + u4) - E ((((0 + u0) + u1) + u2) + u3), E ((((((0 + u0) + u1) + u2) + u3) + u4) + u5) - E (((((0 + u0) + u1) + u2) + u3) + u4)] : List Int).map D.int)) g from rfl, ← eJ]; exact this
  have e25 : (mOp addD (mOp addD (mSl (mVar 19) oNone (oSome (mVar 21))) (mTup (mCons (mVar 24) (mCons (mOp subD (mOp ixD (mVar 19) (mVar 21)) (mVar 24)) mNil)))) (mSl (mVar 19) (oSome (mOp addD (mVar 21) (mC (.int 1)))) oNone)) [x0, x1, x2, x3, x4, x5, x6, x7, x8, x9, x10, x11, x12, x13, x14, x15, x16, some (.int sold), some sh, some (.tup [.int (u0), .int (u1), .int (u2), .int (u3), .int (u4), .int (u5)]), some (.tup [.int (E (0 + u0) - E 0), .int (E ((0 + u0) + u1) - E (0 + u0)), .int (E (((0 + u0) + u1) + u2) - E ((0 + u0) + u1)), .int (E ((((0 + u0) + u1) + u2) + u3) - E (((0 + u0) + u1) + u2)), .int (E (((((0 + u0) + u1) + u2) + u3) + u4) - E ((((0 + u0) + u1) + u2) + u3)), .int (E ((((((0 + u0) + u1) + u2) + u3) + u4) + u5) - E (((((0 + u0) + u1) + u2) + u3) + u4))]), some (.int 2), some (.tup [.int (u0), .int (u1), .int (u2 + u3), .int (u4), .int (u5)]), some (.tup [.int (E (0 + u0) - E 0), .int (E ((0 + u0) + u1) - E (0 + u0)), .int (E (((0 + u0) + u1) + (u2 + u3)) - E ((0 + u0) + u1)), .int (E ((((0 + u0) + u1) + (u2 + u3)) + u4) - E (((0 + u0) + u1) + (u2 + u3))), .int (E (((((0 + u0) + u1) + (u2 + u3)) + u4) + u5) - E ((((0 + u0) + u1) + (u2 + u3)) + u4))]), some (.int (u2 / 2)), x25] g = .ok (.tup [.int (u0), .int (u1), .int (u2 / 2), .int (u2 - u2 / 2), .int (u3), .int (u4), .int (u5)]) g := rfl
  refine ⟨some (.tup [.int (u0), .int (u1), .int (u2 + u3), .int (u4), .int (u5)]), some (.tup [.int (E (0 + u0) - E 0), .int (E ((0 + u0) + u1) - E (0 + u0)), .int (E (((0 + u0) + u1) + (u2 + u3)) - E ((0 + u0) + u1)), .int (E ((((0 + u0) + u1) + (u2 + u3)) + u4) - E (((0 + u0) + u1) + (u2 + u3))), .int (E (((((0 + u0) + u1) + (u2 + u3)) + u4) + u5) - E ((((0 + u0) + u1) + (u2 + u3)) + u4))]), some (.int (u2 / 2)), some (.tup [.int (E (0 + u0) - E 0), .int (E ((0 + u0) + u1) - E (0 + u0)), .int (E (((0 + u0) + u1) + (u2 / 2)) - E ((0 + u0) + u1)), .int (E ((((0 + u0) + u1) + (u2 / 2)) + (u2 - u2 / 2)) - E (((0 + u0) + u1) + (u2 / 2))), .int (E (((((0 + u0) + u1) + (u2 / 2)) + (u2 - u2 / 2)) + u3) - E ((((0 + u0) + u1) + (u2 / 2)) + (u2 - u2 / 2))), .int (E ((((((0 + u0) + u1) + (u2 / 2)) + (u2 - u2 / 2)) + u3) + u4) - E (((((0 + u0) + u1) + (u2 / 2)) + (u2 - u2 / 2)) + u3)), .int (E (((((((0 + u0) + u1) + (u2 / 2)) + (u2 - u2 / 2)) + u3) + u4) + u5) - E ((((((0 + u0) + u1) + (u2 / 2)) + (u2 - u2 / 2)) + u3) + u4))]), ?_⟩
  have s22 : l_law_6 [x0, x1, x2, x3, x4, x5, x6, x7, x8, x9, x10, x11, x12, x13, x14, x15, x16, some (.int sold), some sh, some (.tup [.int (u0), .int (u1), .int (u2), .int (u3), .int (u4), .int (u5)]), some (.tup [.int (E (0 + u0) - E 0), .int (E ((0 + u0) + u1) - E (0 + u0)), .int (E (((0 + u0) + u1) + u2) - E ((0 + u0) + u1)), .int (E ((((0 + u0) + u1) + u2) + u3) - E (((0 + u0) + u1) + u2)), .int (E (((((0 + u0) + u1) + u2) + u3) + u4) - E ((((0 + u0) + u1) + u2) + u3)), .int (E ((((((0 + u0) + u1) + u2) + u3) + u4) + u5) - E (((((0 + u0) + u1) + u2) + u3) + u4))]), some (.int 2), x22, x23, x24, x25] g = t_law_24 [x0, x1, x2, x3, x4, x5, x6, x7, x8, x9, x10, x11, x12, x13, x14, x15, x16, some (.int sold), some sh, some (.tup [.int (u0), .int (u1), .int (u2), .int (u3), .int (u4), .int (u5)]), some (.tup [.int (E (0 + u0) - E 0), .int (E ((0 + u0) + u1) - E (0 + u0)), .int (E (((0 + u0) + u1) + u2) - E ((0 + u0) + u1)), .int (E ((((0 + u0) + u1) + u2) + u3) - E (((0 + u0) + u1) + u2)), .int (E (((((0 + u0) + u1) + u2) + u3) + u4) - E ((((0 + u0) + u1) + u2) + u3)), .int (E ((((((0 + u0) + u1) + u2) + u3) + u4) + u5) - E (((((0 + u0) + u1) + u2) + u3) + u4))]), some (.int 2), some (.tup [.int (u0), .int (u1), .int (u2 + u3), .int (u4), .int (u5)]), x23, x24, x25] g := by
    unfold l_law_6
    rw [ev_seq, ev_set, e22]; rfl
  have s23 : t_law_24 [x0, x1, x2, x3, x4, x5, x6, x7, x8, x9, x10, x11, x12, x13, x14, x15, x16, some (.int sold), some sh, some (.tup [.int (u0), .int (u1), .int (u2), .int (u3), .int (u4), .int (u5)]), some (.tup [.int (E (0 + u0) - E 0), .int (E ((0 + u0) + u1) - E (0 + u0)), .int (E (((0 + u0) + u1) + u2) - E ((0 + u0) + u1)), .int (E ((((0 + u0) + u1) + u2) + u3) - E (((0 + u0) + u1) + u2)), .int (E (((((0 + u0) + u1) + u2) + u3) + u4) - E ((((0 + u0) + u1) + u2) + u3)), .int (E ((((((0 + u0) + u1) + u2) + u3) + u4) + u5) - E (((((0 + u0) + u1) + u2) + u3) + u4))]), some (.int 2), some (.tup [.int (u0), .int (u1), .int (u2 + u3), .int (u4), .int (u5)]), x23, x24, x25] g = t_law_25 [x0, x1, x2, x3, x4, x5, x6, x7, x8, x9, x10, x11, x12, x13, x14, x15, x16, some (.int sold), some sh, some (.tup [.int (u0), .int (u1), .int (u2), .int (u3), .int (u4), .int (u5)]), some (.tup [.int (E (0 + u0) - E 0), .int (E ((0 + u0) + u1) - E (0 + u0)), .int (E (((0 + u0) + u1) + u2) - E ((0 + u0) + u1)), .int (E ((((0 + u0) + u1) + u2) + u3) - E (((0 + u0) + u1) + u2)), .int (E (((((0 + u0) + u1) + u2) + u3) + u4) - E ((((0 + u0) + u1) + u2) + u3)), .int (E ((((((0 + u0) + u1) + u2) + u3) + u4) + u5) - E (((((0 + u0) + u1) + u2) + u3) + u4))]), some (.int 2), some (.tup [.int (u0), .int (u1), .int (u2 + u3), .int (u4), .int (u5)]), some (.tup [.int (E (0 + u0) - E 0), .int (E ((0 + u0) + u1) - E (0 + u0)), .int (E (((0 + u0) + u1) + (u2 + u3)) - E ((0 + u0) + u1)), .int (E ((((0 + u0) + u1) + (u2 + u3)) + u4) - E (((0 + u0) + u1) + (u2 + u3))), .int (E (((((0 + u0) + u1) + (u2 + u3)) + u4) + u5) - E ((((0 + u0) + u1) + (u2 + u3)) + u4))]), x24, x25] g := by
    unfold t_law_24
    rw [ev_seq, ev_set, ev_call]
    show ((m_recognised [.int sold, sh, .tup [.int (u0), .int (u1), .int (u2 + u3), .int (u4), .int (u5)]] g).go _).then _ = _
    rw [rJ]; rfl
  have s24 : t_law_25 [x0, x1, x2, x3, x4, x5, x6, x7, x8, x9, x10, x11, x12, x13, x14, x15, x16, some (.int sold), some sh, some (.tup [.int (u0), .int (u1), .int (u2), .int (u3), .int (u4), .int (u5)]), some (.tup [.int (E (0 + u0) - E 0), .int (E ((0 + u0) + u1) - E (0 + u0)), .int (E (((0 + u0) + u1) + u2) - E ((0 + u0) + u1)), .int (E ((((0 + u0) + u1) + u2) + u3) - E (((0 + u0) + u1) + u2)), .int (E (((((0 + u0) + u1) + u2) + u3) + u4) - E ((((0 + u0) + u1) + u2) + u3)), .int (E ((((((0 + u0) + u1) + u2) + u3) + u4) + u5) - E (((((0 + u0) + u1) + u2) + u3) + u4))]), some (.int 2), some (.tup [.int (u0), .int (u1), .int (u2 + u3), .int (u4), .int (u5)]), some (.tup [.int (E (0 + u0) - E 0), .int (E ((0 + u0) + u1) - E (0 + u0)), .int (E (((0 + u0) + u1) + (u2 + u3)) - E ((0 + u0) + u1)), .int (E ((((0 + u0) + u1) + (u2 + u3)) + u4) - E (((0 + u0) + u1) + (u2 + u3))), .int (E (((((0 + u0) + u1) + (u2 + u3)) + u4) + u5) - E ((((0 + u0) + u1) + (u2 + u3)) + u4))]), x24, x25] g = t_law_27 [x0, x1, x2, x3, x4, x5, x6, x7, x8, x9, x10, x11, x12, x13, x14, x15, x16, some (.int sold), some sh, some (.tup [.int (u0), .int (u1), .int (u2), .int (u3), .int (u4), .int (u5)]), some (.tup [.int (E (0 + u0) - E 0), .int (E ((0 + u0) + u1) - E (0 + u0)), .int (E (((0 + u0) + u1) + u2) - E ((0 + u0) + u1)), .int (E ((((0 + u0) + u1) + u2) + u3) - E (((0 + u0) + u1) + u2)), .int (E (((((0 + u0) + u1) + u2) + u3) + u4) - E ((((0 + u0) + u1) + u2) + u3)), .int (E ((((((0 + u0) + u1) + u2) + u3) + u4) + u5) - E (((((0 + u0) + u1) + u2) + u3) + u4))]), some (.int 2), some (.tup [.int (u0), .int (u1), .int (u2 + u3), .int (u4), .int (u5)]), some (.tup [.int (E (0 + u0) - E 0), .int (E ((0 + u0) + u1) - E (0 + u0)), .int (E (((0 + u0) + u1) + (u2 + u3)) - E ((0 + u0) + u1)), .int (E ((((0 + u0) + u1) + (u2 + u3)) + u4) - E (((0 + u0) + u1) + (u2 + u3))), .int (E (((((0 + u0) + u1) + (u2 + u3)) + u4) + u5) - E ((((0 + u0) + u1) + (u2 + u3)) + u4))]), some (.int (u2 / 2)), x25] g := by
    unfold t_law_25
    rw [ev_seq, ev_if, ev_tor]
    have c1 : isB (mOp neD (mVar 23) (mOp addD (mOp addD (mSl (mVar 20) oNone (oSome (mVar 21))) (mTup (mCons (mOp addD (mOp ixD (mVar 20) (mVar 21)) (mOp ixD (mVar 20) (mOp addD (mVar 21) (mC (.int 1))))) mNil))) (mSl (mVar 20) (oSome (mOp addD (mVar 21) (mC (.int 2)))) oNone))) [x0, x1, x2, x3, x4, x5, x6, x7, x8, x9, x10, x11, x12, x13, x14, x15, x16, some (.int sold), some sh, some (.tup [.int (u0), .int (u1), .int (u2), .int (u3), .int (u4), .int (u5)]), some (.tup [.int (E (0 + u0) - E 0), .int (E ((0 + u0) + u1) - E (0 + u0)), .int (E (((0 + u0) + u1) + u2) - E ((0 + u0) + u1)), .int (E ((((0 + u0) + u1) + u2) + u3) - E (((0 + u0) + u1) + u2)), .int (E (((((0 + u0) + u1) + u2) + u3) + u4) - E ((((0 + u0) + u1) + u2) + u3)), .int (E ((((((0 + u0) + u1) + u2) + u3) + u4) + u5) - E (((((0 + u0) + u1) + u2) + u3) + u4))]), some (.int 2), some (.tup [.int (u0), .int (u1), .int (u2 + u3), .int (u4), .int (u5)]), some (.tup [.int (E (0 + u0) - E 0), .int (E ((0 + u0) + u1) - E (0 + u0)), .int (E (((0 + u0) + u1) + (u2 + u3)) - E ((0 + u0) + u1)), .int (E ((((0 + u0) + u1) + (u2 + u3)) + u4) - E (((0 + u0) + u1) + (u2 + u3))), .int (E (((((0 + u0) + u1) + (u2 + u3)) + u4) + u5) - E ((((0 + u0) + u1) + (u2 + u3)) + u4))]), x24, x25] g = .ok false g := by
      unfold isB
      have v23 : mVar 23 [x0, x1, x2, x3, x4, x5, x6, x7, x8, x9, x10, x11, x12, x13, x14, x15, x16, some (.int sold), some sh, some (.tup [.int (u0), .int (u1), .int (u2), .int (u3), .int (u4), .int (u5)]), some (.tup [.int (E (0 + u0) - E 0), .int (E ((0 + u0) + u1) - E (0 + u0)), .int (E (((0 + u0) + u1) + u2) - E ((0 + u0) + u1)), .int (E ((((0 + u0) + u1) + u2) + u3) - E (((0 + u0) + u1) + u2)), .int (E (((((0 + u0) + u1) + u2) + u3) + u4) - E ((((0 + u0) + u1) + u2) + u3)), .int (E ((((((0 + u0) + u1) + u2) + u3) + u4) + u5) - E (((((0 + u0) + u1) + u2) + u3) + u4))]), some (.int 2), some (.tup [.int (u0), .int (u1), .int (u2 + u3), .int (u4), .int (u5)]), some (.tup [.int (E (0 + u0) - E 0), .int (E ((0 + u0) + u1) - E (0 + u0)), .int (E (((0 + u0) + u1) + (u2 + u3)) - E ((0 + u0) + u1)), .int (E ((((0 + u0) + u1) + (u2 + u3)) + u4) - E (((0 + u0) + u1) + (u2 + u3))), .int (E (((((0 + u0) + u1) + (u2 + u3)) + u4) + u5) - E ((((0 + u0) + u1) + (u2 + u3)) + u4))]), x24, x25] g = .ok (.tup [.int (E (0 + u0) - E 0), .int (E ((0 + u0) + u1) - E (0 + u0)), .int (E (((0 + u0) + u1) + (u2 + u3)) - E ((0 + u0) + u1)), .int (E ((((0 + u0) + u1) + (u2 + u3)) + u4) - E (((0 + u0) + u1) + (u2 + u3))), .int (E (((((0 + u0) + u1) + (u2 + u3)) + u4) + u5) - E ((((0 + u0) + u1) + (u2 + u3)) + u4))]) g := rfl
      rw [ev_op, v23, R.bind_ok, e23, R.bind_ok, n23]; rfl
    rw [c1, R.bind_ok]
    have c2 : isB (mOp neD (mCall m_still_owed (mCons (mVar 17) (mCons (mVar 18) (mCons (mVar 22) mNil)))) (mCall m_still_owed (mCons (mVar 17) (mCons (mVar 18) (mCons (mVar 19) mNil))))) [x0, x1, x2, x3, x4, x5, x6, x7, x8, x9, x10, x11, x12, x13, x14, x15, x16, some (.int sold), some sh, some (.tup [.int (u0), .int (u1), .int (u2), .int (u3), .int (u4), .int (u5)]), some (.tup [.int (E (0 + u0) - E 0), .int (E ((0 + u0) + u1) - E (0 + u0)), .int (E (((0 + u0) + u1) + u2) - E ((0 + u0) + u1)), .int (E ((((0 + u0) + u1) + u2) + u3) - E (((0 + u0) + u1) + u2)), .int (E (((((0 + u0) + u1) + u2) + u3) + u4) - E ((((0 + u0) + u1) + u2) + u3)), .int (E ((((((0 + u0) + u1) + u2) + u3) + u4) + u5) - E (((((0 + u0) + u1) + u2) + u3) + u4))]), some (.int 2), some (.tup [.int (u0), .int (u1), .int (u2 + u3), .int (u4), .int (u5)]), some (.tup [.int (E (0 + u0) - E 0), .int (E ((0 + u0) + u1) - E (0 + u0)), .int (E (((0 + u0) + u1) + (u2 + u3)) - E ((0 + u0) + u1)), .int (E ((((0 + u0) + u1) + (u2 + u3)) + u4) - E (((0 + u0) + u1) + (u2 + u3))), .int (E (((((0 + u0) + u1) + (u2 + u3)) + u4) + u5) - E ((((0 + u0) + u1) + (u2 + u3)) + u4))]), x24, x25] g = .ok false g := by
      unfold isB
      rw [ev_op, ev_call]
      show (((m_still_owed [.int sold, sh, .tup [.int (u0), .int (u1), .int (u2 + u3), .int (u4), .int (u5)]] g).bind fun x g1 => (m_still_owed [.int sold, sh, .tup [.int (u0), .int (u1), .int (u2), .int (u3), .int (u4), .int (u5)]] g1).bind fun y g2 => neD x y g2).bind _) = _
      rw [oJ, R.bind_ok, oU, R.bind_ok, vd_ne]
      simp only [decide_true, Bool.not_true]; rfl
    rw [if_neg Bool.false_ne_true, c2]
    rfl
  have s25 : t_law_27 [x0, x1, x2, x3, x4, x5, x6, x7, x8, x9, x10, x11, x12, x13, x14, x15, x16, some (.int sold), some sh, some (.tup [.int (u0), .int (u1), .int (u2), .int (u3), .int (u4), .int (u5)]), some (.tup [.int (E (0 + u0) - E 0), .int (E ((0 + u0) + u1) - E (0 + u0)), .int (E (((0 + u0) + u1) + u2) - E ((0 + u0) + u1)), .int (E ((((0 + u0) + u1) + u2) + u3) - E (((0 + u0) + u1) + u2)), .int (E (((((0 + u0) + u1) + u2) + u3) + u4) - E ((((0 + u0) + u1) + u2) + u3)), .int (E ((((((0 + u0) + u1) + u2) + u3) + u4) + u5) - E (((((0 + u0) + u1) + u2) + u3) + u4))]), some (.int 2), some (.tup [.int (u0), .int (u1), .int (u2 + u3), .int (u4), .int (u5)]), some (.tup [.int (E (0 + u0) - E 0), .int (E ((0 + u0) + u1) - E (0 + u0)), .int (E (((0 + u0) + u1) + (u2 + u3)) - E ((0 + u0) + u1)), .int (E ((((0 + u0) + u1) + (u2 + u3)) + u4) - E (((0 + u0) + u1) + (u2 + u3))), .int (E (((((0 + u0) + u1) + (u2 + u3)) + u4) + u5) - E ((((0 + u0) + u1) + (u2 + u3)) + u4))]), some (.int (u2 / 2)), x25] g = t_law_28 [x0, x1, x2, x3, x4, x5, x6, x7, x8, x9, x10, x11, x12, x13, x14, x15, x16, some (.int sold), some sh, some (.tup [.int (u0), .int (u1), .int (u2), .int (u3), .int (u4), .int (u5)]), some (.tup [.int (E (0 + u0) - E 0), .int (E ((0 + u0) + u1) - E (0 + u0)), .int (E (((0 + u0) + u1) + u2) - E ((0 + u0) + u1)), .int (E ((((0 + u0) + u1) + u2) + u3) - E (((0 + u0) + u1) + u2)), .int (E (((((0 + u0) + u1) + u2) + u3) + u4) - E ((((0 + u0) + u1) + u2) + u3)), .int (E ((((((0 + u0) + u1) + u2) + u3) + u4) + u5) - E (((((0 + u0) + u1) + u2) + u3) + u4))]), some (.int 2), some (.tup [.int (u0), .int (u1), .int (u2 + u3), .int (u4), .int (u5)]), some (.tup [.int (E (0 + u0) - E 0), .int (E ((0 + u0) + u1) - E (0 + u0)), .int (E (((0 + u0) + u1) + (u2 + u3)) - E ((0 + u0) + u1)), .int (E ((((0 + u0) + u1) + (u2 + u3)) + u4) - E (((0 + u0) + u1) + (u2 + u3))), .int (E (((((0 + u0) + u1) + (u2 + u3)) + u4) + u5) - E ((((0 + u0) + u1) + (u2 + u3)) + u4))]), some (.int (u2 / 2)), some (.tup [.int (E (0 + u0) - E 0), .int (E ((0 + u0) + u1) - E (0 + u0)), .int (E (((0 + u0) + u1) + (u2 / 2)) - E ((0 + u0) + u1)), .int (E ((((0 + u0) + u1) + (u2 / 2)) + (u2 - u2 / 2)) - E (((0 + u0) + u1) + (u2 / 2))), .int (E (((((0 + u0) + u1) + (u2 / 2)) + (u2 - u2 / 2)) + u3) - E ((((0 + u0) + u1) + (u2 / 2)) + (u2 - u2 / 2))), .int (E ((((((0 + u0) + u1) + (u2 / 2)) + (u2 - u2 / 2)) + u3) + u4) - E (((((0 + u0) + u1) + (u2 / 2)) + (u2 - u2 / 2)) + u3)), .int (E (((((((0 + u0) + u1) + (u2 / 2)) + (u2 - u2 / 2)) + u3) + u4) + u5) - E ((((((0 + u0) + u1) + (u2 / 2)) + (u2 - u2 / 2)) + u3) + u4))])] g := by
    unfold t_law_27
    rw [ev_seq, ev_set, ev_call]
    have a1 : (mCons (mVar 17) (mCons (mVar 18) (mCons (mOp addD (mOp addD (mSl (mVar 19) oNone (oSome (mVar 21))) (mTup (mCons (mVar 24) (mCons (mOp subD (mOp ixD (mVar 19) (mVar 21)) (mVar 24)) mNil)))) (mSl (mVar 19) (oSome (mOp addD (mVar 21) (mC (.int 1)))) oNone)) mNil))) [x0, x1, x2, x3, x4, x5, x6, x7, x8, x9, x10, x11, x12, x13, x14, x15, x16, some (.int sold), some sh, some (.tup [.int (u0), .int (u1), .int (u2), .int (u3), .int (u4), .int (u5)]), some (.tup [.int (E (0 + u0) - E 0), .int (E ((0 + u0) + u1) - E (0 + u0)), .int (E (((0 + u0) + u1) + u2) - E ((0 + u0) + u1)), .int (E ((((0 + u0) + u1) + u2) + u3) - E (((0 + u0) + u1) + u2)), .int (E (((((0 + u0) + u1) + u2) + u3) + u4) - E ((((0 + u0) + u1) + u2) + u3)), .int (E ((((((0 + u0) + u1) + u2) + u3) + u4) + u5) - E (((((0 + u0) + u1) + u2) + u3) + u4))]), some (.int 2), some (.tup [.int (u0), .int (u1), .int (u2 + u3), .int (u4), .int (u5)]), some (.tup [.int (E (0 + u0) - E 0), .int (E ((0 + u0) + u1) - E (0 + u0)), .int (E (((0 + u0) + u1) + (u2 + u3)) - E ((0 + u0) + u1)), .int (E ((((0 + u0) + u1) + (u2 + u3)) + u4) - E (((0 + u0) + u1) + (u2 + u3))), .int (E (((((0 + u0) + u1) + (u2 + u3)) + u4) + u5) - E ((((0 + u0) + u1) + (u2 + u3)) + u4))]), some (.int (u2 / 2)), x25] g = .ok [.int sold, sh, .tup [.int (u0), .int (u1), .int (u2 / 2), .int (u2 - u2 / 2), .int (u3), .int (u4), .int (u5)]] g := by
      have v17 : mVar 17 [x0, x1, x2, x3, x4, x5, x6, x7, x8, x9, x10, x11, x12, x13, x14, x15, x16, some (.int sold), some sh, some (.tup [.int (u0), .int (u1), .int (u2), .int (u3), .int (u4), .int (u5)]), some (.tup [.int (E (0 + u0) - E 0), .int (E ((0 + u0) + u1) - E (0 + u0)), .int (E (((0 + u0) + u1) + u2) - E ((0 + u0) + u1)), .int (E ((((0 + u0) + u1) + u2) + u3) - E (((0 + u0) + u1) + u2)), .int (E (((((0 + u0) + u1) + u2) + u3) + u4) - E ((((0 + u0) + u1) + u2) + u3)), .int (E ((((((0 + u0) + u1) + u2) + u3) + u4) + u5) - E (((((0 + u0) + u1) + u2) + u3) + u4))]), some (.int 2), some (.tup [.int (u0), .int (u1), .int (u2 + u3), .int (u4), .int (u5)]), some (.tup [.int (E (0 + u0) - E 0), .int (E ((0 + u0) + u1) - E (0 + u0)), .int (E (((0 + u0) + u1) + (u2 + u3)) - E ((0 + u0) + u1)), .int (E ((((0 + u0) + u1) + (u2 + u3)) + u4) - E (((0 + u0) + u1) + (u2 + u3))), .int (E (((((0 + u0) + u1) + (u2 + u3)) + u4) + u5) - E ((((0 + u0) + u1) + (u2 + u3)) + u4))]), some (.int (u2 / 2)), x25] g = .ok (.int sold) g := rfl
      have v18 : mVar 18 [x0, x1, x2, x3, x4, x5, x6, x7, x8, x9, x10, x11, x12, x13, x14, x15, x16, some (.int sold), some sh, some (.tup [.int (u0), .int (u1), .int (u2), .int (u3), .int (u4), .int (u5)]), some (.tup [.int (E (0 + u0) - E 0), .int (E ((0 + u0) + u1) - E (0 + u0)), .int (E (((0 + u0) + u1) + u2) - E ((0 + u0) + u1)), .int (E ((((0 + u0) + u1) + u2) + u3) - E (((0 + u0) + u1) + u2)), .int (E (((((0 + u0) + u1) + u2) + u3) + u4) - E ((((0 + u0) + u1) + u2) + u3)), .int (E ((((((0 + u0) + u1) + u2) + u3) + u4) + u5) - E (((((0 + u0) + u1) + u2) + u3) + u4))]), some (.int 2), some (.tup [.int (u0), .int (u1), .int (u2 + u3), .int (u4), .int (u5)]), some (.tup [.int (E (0 + u0) - E 0), .int (E ((0 + u0) + u1) - E (0 + u0)), .int (E (((0 + u0) + u1) + (u2 + u3)) - E ((0 + u0) + u1)), .int (E ((((0 + u0) + u1) + (u2 + u3)) + u4) - E (((0 + u0) + u1) + (u2 + u3))), .int (E (((((0 + u0) + u1) + (u2 + u3)) + u4) + u5) - E ((((0 + u0) + u1) + (u2 + u3)) + u4))]), some (.int (u2 / 2)), x25] g = .ok sh g := rfl
      rw [ev_cons, v17, R.bind_ok, ev_cons, v18, R.bind_ok, ev_cons, e25, R.bind_ok, ev_nil]; rfl
    rw [a1, R.bind_ok, rC]; rfl
  rw [s22, s23, s24, s25]
  have hh : ((((0 + u0) + u1) + (u2 / 2)) + (u2 - u2 / 2)) = (((0 + u0) + u1) + u2) := by omega
  have dA : isB (mOp neD (mSl (mVar 25) oNone (oSome (mVar 21))) (mSl (mVar 20) oNone (oSome (mVar 21)))) [x0, x1, x2, x3, x4, x5, x6, x7, x8, x9, x10, x11, x12, x13, x14, x15, x16, some (.int sold), some sh, some (.tup [.int (u0), .int (u1), .int (u2), .int (u3), .int (u4), .int (u5)]), some (.tup [.int (E (0 + u0) - E 0), .int (E ((0 + u0) + u1) - E (0 + u0)), .int (E (((0 + u0) + u1) + u2) - E ((0 + u0) + u1)), .int (E ((((0 + u0) + u1) + u2) + u3) - E (((0 + u0) + u1) + u2)), .int (E (((((0 + u0) + u1) + u2) + u3) + u4) - E ((((0 + u0) + u1) + u2) + u3)), .int (E ((((((0 + u0) + u1) + u2) + u3) + u4) + u5) - E (((((0 + u0) + u1) + u2) + u3) + u4))]), some (.int 2), some (.tup [.int (u0), .int (u1), .int (u2 + u3), .int (u4), .int (u5)]), some (.tup [.int (E (0 + u0) - E 0), .int (E ((0 + u0) + u1) - E (0 + u0)), .int (E (((0 + u0) + u1) + (u2 + u3)) - E ((0 + u0) + u1)), .int (E ((((0 + u0) + u1) + (u2 + u3)) + u4) - E (((0 + u0) + u1) + (u2 + u3))), .int (E (((((0 + u0) + u1) + (u2 + u3)) + u4) + u5) - E ((((0 + u0) + u1) + (u2 + u3)) + u4))]), some (.int (u2 / 2)), some (.tup [.int (E (0 + u0) - E 0), .int (E ((0 + u0) + u1) - E (0 + u0)), .int (E (((0 + u0) + u1) + (u2 / 2)) - E ((0 + u0) + u1)), .int (E ((((0 + u0) + u1) + (u2 / 2)) + (u2 - u2 / 2)) - E (((0 + u0) + u1) + (u2 / 2))), .int (E (((((0 + u0) + u1) + (u2 / 2)) + (u2 - u2 / 2)) + u3) - E ((((0 + u0) + u1) + (u2 / 2)) + (u2 - u2 / 2))), .int (E ((((((0 + u0) + u1) + (u2 / 2)) + (u2 - u2 / 2)) + u3) + u4) - E (((((0 + u0) + u1) + (u2 / 2)) + (u2 - u2 / 2)) + u3)), .int (E (((((((0 + u0) + u1) + (u2 / 2)) + (u2 - u2 / 2)) + u3) + u4) + u5) - E ((((((0 + u0) + u1) + (u2 / 2)) + (u2 - u2 / 2)) + u3) + u4))])] g = .ok false g := by
    unfold isB
    have w1 : mSl (mVar 25) oNone (oSome (mVar 21)) [x0, x1, x2, x3, x4, x5, x6, x7, x8, x9, x10, x11, x12, x13, x14, x15, x16, some (.int sold), some sh, some (.tup [.int (u0), .int (u1), .int (u2), .int (u3), .int (u4), .int (u5)]), some (.tup [.int (E (0 + u0) - E 0), .int (E ((0 + u0) + u1) - E (0 + u0)), .int (E (((0 + u0) + u1) + u2) - E ((0 + u0) + u1)), .int (E ((((0 + u0) + u1) + u2) + u3) - E (((0 + u0) + u1) + u2)), .int (E (((((0 + u0) + u1) + u2) + u3) + u4) - E ((((0 + u0) + u1) + u2) + u3)), .int (E ((((((0 + u0) + u1) + u2) + u3) + u4) + u5) - E (((((0 + u0) + u1) + u2) + u3) + u4))]), some (.int 2), some (.tup [.int (u0), .int (u1), .int (u2 + u3), .int (u4), .int (u5)]), some (.tup [.int (E (0 + u0) - E 0), .int (E ((0 + u0) + u1) - E (0 + u0)), .int (E (((0 + u0) + u1) + (u2 + u3)) - E ((0 + u0) + u1)), .int (E ((((0 + u0) + u1) + (u2 + u3)) + u4) - E (((0 + u0) + u1) + (u2 + u3))), .int (E (((((0 + u0) + u1) + (u2 + u3)) + u4) + u5) - E ((((0 + u0) + u1) + (u2 + u3)) + u4))]), some (.int (u2 / 2)), some (.tup [.int (E (0 + u0) - E 0), .int (E ((0 + u0) + u1) - E (0 + u0)), .int (E (((0 + u0) + u1) + (u2 / 2)) - E ((0 + u0) + u1)), .int (E ((((0 + u0) + u1) + (u2 / 2)) + (u2 - u2 / 2)) - E (((0 + u0) + u1) + (u2 / 2))), .int (E (((((0 + u0) + u1) + (u2 / 2)) + (u2 - u2 / 2)) + u3) - E ((((0 + u0) + u1) + (u2 / 2)) + (u2 - u2 / 2))), .int (E ((((((0 + u0) + u1) + (u2 / 2)) + (u2 - u2 / 2)) + u3) + u4) - E (((((0 + u0) + u1) + (u2 / 2)) + (u2 - u2 / 2)) + u3)), .int (E (((((((0 + u0) + u1) + (u2 / 2)) + (u2 - u2 / 2)) + u3) + u4) + u5) - E ((((((0 + u0) + u1) + (u2 / 2)) + (u2 - u2 / 2)) + u3) + u4))])] g = .ok (.tup [.int (E (0 + u0) - E 0), .int (E ((0 + u0) + u1) - E (0 + u0))]) g := rfl
    have w2 : mSl (mVar 20) oNone (oSome (mVar 21)) [x0, x1, x2, x3, x4, x5, x6, x7, x8, x9, x10, x11, x12, x13, x14, x15, x16, some (.int sold), some sh, some (.tup [.int (u0), .int (u1), .int (u2), .int (u3), .int (u4), .int (u5)]), some (.tup [.int (E (0 + u0) - E 0), .int (E ((0 + u0) + u1) - E (0 + u0)), .int (E (((0 + u0) + u1) + u2) - E ((0 + u0) + u1)), .int (E ((((0 + u0) + u1) + u2) + u3) - E (((0 + u0) + u1) + u2)), .int (E (((((0 + u0) + u1) + u2) + u3) + u4) - E ((((0 + u0) + u1) + u2) + u3)), .int (E ((((((0 + u0) + u1) + u2) + u3) + u4) + u5) - E (((((0 + u0) + u1) + u2) + u3) + u4))]), some (.int 2), some (.tup [.int (u0), .int (u1), .int (u2 + u3), .int (u4), .int (u5)]), some (.tup [.int (E (0 + u0) - E 0), .int (E ((0 + u0) + u1) - E (0 + u0)), .int (E (((0 + u0) + u1) + (u2 + u3)) - E ((0 + u0) + u1)), .int (E ((((0 + u0) + u1) + (u2 + u3)) + u4) - E (((0 + u0) + u1) + (u2 + u3))), .int (E (((((0 + u0) + u1) + (u2 + u3)) + u4) + u5) - E ((((0 + u0) + u1) + (u2 + u3)) + u4))]), some (.int (u2 / 2)), some (.tup [.int (E (0 + u0) - E 0), .int (E ((0 + u0) + u1) - E (0 + u0)), .int (E (((0 + u0) + u1) + (u2 / 2)) - E ((0 + u0) + u1)), .int (E ((((0 + u0) + u1) + (u2 / 2)) + (u2 - u2 / 2)) - E (((0 + u0) + u1) + (u2 / 2))), .int (E (((((0 + u0) + u1) + (u2 / 2)) + (u2 - u2 / 2)) + u3) - E ((((0 + u0) + u1) + (u2 / 2)) + (u2 - u2 / 2))), .int (E ((((((0 + u0) + u1) + (u2 / 2)) + (u2 - u2 / 2)) + u3) + u4) - E (((((0 + u0) + u1) + (u2 / 2)) + (u2 - u2 / 2)) + u3)), .int (E (((((((0 + u0) + u1) + (u2 / 2)) + (u2 - u2 / 2)) + u3) + u4) + u5) - E ((((((0 + u0) + u1) + (u2 / 2)) + (u2 - u2 / 2)) + u3) + u4))])] g = .ok (.tup [.int (E (0 + u0) - E 0), .int (E ((0 + u0) + u1) - E (0 + u0))]) g := rfl
    rw [ev_op, w1, R.bind_ok, w2, R.bind_ok, show neD (.tup [.int (E (0 + u0) - E 0), .int (E ((0 + u0) + u1) - E (0 + u0))]) (.tup [.int (E (0 + u0) - E 0), .int (E ((0 + u0) + u1) - E (0 + u0))]) g = .ok (.bl false) g from vd_neT [E (0 + u0) - E 0, E ((0 + u0) + u1) - E (0 + u0)] g]; rfl
  have dB : isB (mOp neD (mOp addD (mOp ixD (mVar 25) (mVar 21)) (mOp ixD (mVar 25) (mOp addD (mVar 21) (mC (.int 1))))) (mOp ixD (mVar 20) (mVar 21))) [x0, x1, x2, x3, x4, x5, x6, x7, x8, x9, x10, x11, x12, x13, x14, x15, x16, some (.int sold), some sh, some (.tup [.int (u0), .int (u1), .int (u2), .int (u3), .int (u4), .int (u5)]), some (.tup [.int (E (0 + u0) - E 0), .int (E ((0 + u0) + u1) - E (0 + u0)), .int (E (((0 + u0) + u1) + u2) - E ((0 + u0) + u1)), .int (E ((((0 + u0) + u1) + u2) + u3) - E (((0 + u0) + u1) + u2)), .int (E (((((0 + u0) + u1) + u2) + u3) + u4) - E ((((0 + u0) + u1) + u2) + u3)), .int (E ((((((0 + u0) + u1) + u2) + u3) + u4) + u5) - E (((((0 + u0) + u1) + u2) + u3) + u4))]), some (.int 2), some (.tup [.int (u0), .int (u1), .int (u2 + u3), .int (u4), .int (u5)]), some (.tup [.int (E (0 + u0) - E 0), .int (E ((0 + u0) + u1) - E (0 + u0)), .int (E (((0 + u0) + u1) + (u2 + u3)) - E ((0 + u0) + u1)), .int (E ((((0 + u0) + u1) + (u2 + u3)) + u4) - E (((0 + u0) + u1) + (u2 + u3))), .int (E (((((0 + u0) + u1) + (u2 + u3)) + u4) + u5) - E ((((0 + u0) + u1) + (u2 + u3)) + u4))]), some (.int (u2 / 2)), some (.tup [.int (E (0 + u0) - E 0), .int (E ((0 + u0) + u1) - E (0 + u0)), .int (E (((0 + u0) + u1) + (u2 / 2)) - E ((0 + u0) + u1)), .int (E ((((0 + u0) + u1) + (u2 / 2)) + (u2 - u2 / 2)) - E (((0 + u0) + u1) + (u2 / 2))), .int (E (((((0 + u0) + u1) + (u2 / 2)) + (u2 - u2 / 2)) + u3) - E ((((0 + u0) + u1) + (u2 / 2)) + (u2 - u2 / 2))), .int (E ((((((0 + u0) + u1) + (u2 / 2)) + (u2 - u2 / 2)) + u3) + u4) - E (((((0 + u0) + u1) + (u2 / 2)) + (u2 - u2 / 2)) + u3)), .int (E (((((((0 + u0) + u1) + (u2 / 2)) + (u2 - u2 / 2)) + u3) + u4) + u5) - E ((((((0 + u0) + u1) + (u2 / 2)) + (u2 - u2 / 2)) + u3) + u4))])] g = .ok false g := by
    unfold isB
    have w1 : mOp addD (mOp ixD (mVar 25) (mVar 21)) (mOp ixD (mVar 25) (mOp addD (mVar 21) (mC (.int 1)))) [x0, x1, x2, x3, x4, x5, x6, x7, x8, x9, x10, x11, x12, x13, x14, x15, x16, some (.int sold), some sh, some (.tup [.int (u0), .int (u1), .int (u2), .int (u3), .int (u4), .int (u5)]), some (.tup [.int (E (0 + u0) - E 0), .int (E ((0 + u0) + u1) - E (0 + u0)), .int (E (((0 + u0) + u1) + u2) - E ((0 + u0) + u1)), .int (E ((((0 + u0) + u1) + u2) + u3) - E (((0 + u0) + u1) + u2)), .int (E (((((0 + u0) + u1) + u2) + u3) + u4) - E ((((0 + u0) + u1) + u2) + u3)), .int (E ((((((0 + u0) + u1) + u2) + u3) + u4) + u5) - E (((((0 + u0) + u1) + u2) + u3) + u4))]), some (.int 2), some (.tup [.int (u0), .int (u1), .int (u2 + u3), .int (u4), .int (u5)]), some (.tup [.int (E (0 + u0) - E 0), .int (E ((0 + u0) + u1) - E (0 + u0)), .int (E (((0 + u0) + u1) + (u2 + u3)) - E ((0 + u0) + u1)), .int (E ((((0 + u0) + u1) + (u2 + u3)) + u4) - E (((0 + u0) + u1) + (u2 + u3))), .int (E (((((0 + u0) + u1) + (u2 + u3)) + u4) + u5) - E ((((0 + u0) + u1) + (u2 + u3)) + u4))]), some (.int (u2 / 2)), some (.tup [.int (E (0 + u0) - E 0), .int (E ((0 + u0) + u1) - E (0 + u0)), .int (E (((0 + u0) + u1) + (u2 / 2)) - E ((0 + u0) + u1)), .int (E ((((0 + u0) + u1) + (u2 / 2)) + (u2 - u2 / 2)) - E (((0 + u0) + u1) + (u2 / 2))), .int (E (((((0 + u0) + u1) + (u2 / 2)) + (u2 - u2 / 2)) + u3) - E ((((0 + u0) + u1) + (u2 / 2)) + (u2 - u2 / 2))), .int (E ((((((0 + u0) + u1) + (u2 / 2)) + (u2 - u2 / 2)) + u3) + u4) - E (((((0 + u0) + u1) + (u2 / 2)) + (u2 - u2 / 2)) + u3)), .int (E (((((((0 + u0) + u1) + (u2 / 2)) + (u2 - u2 / 2)) + u3) + u4) + u5) - E ((((((0 + u0) + u1) + (u2 / 2)) + (u2 - u2 / 2)) + u3) + u4))])] g = .ok (.int (E (((0 + u0) + u1) + (u2 / 2)) - E ((0 + u0) + u1) + (E ((((0 + u0) + u1) + (u2 / 2)) + (u2 - u2 / 2)) - E (((0 + u0) + u1) + (u2 / 2))))) g := rfl
    have w2 : mOp ixD (mVar 20) (mVar 21) [x0, x1, x2, x3, x4, x5, x6, x7, x8, x9, x10, x11, x12, x13, x14, x15, x16, some (.int sold), some sh, some (.tup [.int (u0), .int (u1), .int (u2), .int (u3), .int (u4), .int (u5)]), some (.tup [.int (E (0 + u0) - E 0), .int (E ((0 + u0) + u1) - E (0 + u0)), .int (E (((0 + u0) + u1) + u2) - E ((0 + u0) + u1)), .int (E ((((0 + u0) + u1) + u2) + u3) - E (((0 + u0) + u1) + u2)), .int (E (((((0 + u0) + u1) + u2) + u3) + u4) - E ((((0 + u0) + u1) + u2) + u3)), .int (E ((((((0 + u0) + u1) + u2) + u3) + u4) + u5) - E (((((0 + u0) + u1) + u2) + u3) + u4))]), some (.int 2), some (.tup [.int (u0), .int (u1), .int (u2 + u3), .int (u4), .int (u5)]), some (.tup [.int (E (0 + u0) - E 0), .int (E ((0 + u0) + u1) - E (0 + u0)), .int (E (((0 + u0) + u1) + (u2 + u3)) - E ((0 + u0) + u1)), .int (E ((((0 + u0) + u1) + (u2 + u3)) + u4) - E (((0 + u0) + u1) + (u2 + u3))), .int (E (((((0 + u0) + u1) + (u2 + u3)) + u4) + u5) - E ((((0 + u0) + u1) + (u2 + u3)) + u4))]), some (.int (u2 / 2)), some (.tup [.int (E (0 + u0) - E 0), .int (E ((0 + u0) + u1) - E (0 + u0)), .int (E (((0 + u0) + u1) + (u2 / 2)) - E ((0 + u0) + u1)), .int (E ((((0 + u0) + u1) + (u2 / 2)) + (u2 - u2 / 2)) - E (((0 + u0) + u1) + (u2 / 2))), .int (E (((((0 + u0) + u1) + (u2 / 2)) + (u2 - u2 / 2)) + u3) - E ((((0 + u0) + u1) + (u2 / 2)) + (u2 - u2 / 2))), .int (E ((((((0 + u0) + u1) + (u2 / 2)) + (u2 - u2 / 2)) + u3) + u4) - E (((((0 + u0) + u1) + (u2 / 2)) + (u2 - u2 / 2)) + u3)), .int (E (((((((0 + u0) + u1) + (u2 / 2)) + (u2 - u2 / 2)) + u3) + u4) + u5) - E ((((((0 + u0) + u1) + (u2 / 2)) + (u2 - u2 / 2)) + u3) + u4))])] g = .ok (.int (E (((0 + u0) + u1) + u2) - E ((0 + u0) + u1))) g := rfl
    rw [ev_op, w1, R.bind_ok, w2, R.bind_ok, vd_ne, hh]
    have : E (((0 + u0) + u1) + (u2 / 2)) - E ((0 + u0) + u1) + (E (((0 + u0) + u1) + u2) - E (((0 + u0) + u1) + (u2 / 2))) = E (((0 + u0) + u1) + u2) - E ((0 + u0) + u1) := by omega
    rw [decide_eq_true this]; rfl
  have dC : isB (mOp neD (mSl (mVar 25) (oSome (mOp addD (mVar 21) (mC (.int 2)))) oNone) (mSl (mVar 20) (oSome (mOp addD (mVar 21) (mC (.int 1)))) oNone)) [x0, x1, x2, x3, x4, x5, x6, x7, x8, x9, x10, x11, x12, x13, x14, x15, x16, some (.int sold), some sh, some (.tup [.int (u0), .int (u1), .int (u2), .int (u3), .int (u4), .int (u5)]), some (.tup [.int (E (0 + u0) - E 0), .int (E ((0 + u0) + u1) - E (0 + u0)), .int (E (((0 + u0) + u1) + u2) - E ((0 + u0) + u1)), .int (E ((((0 + u0) + u1) + u2) + u3) - E (((0 + u0) + u1) + u2)), .int (E (((((0 + u0) + u1) + u2) + u3) + u4) - E ((((0 + u0) + u1) + u2) + u3)), .int (E ((((((0 + u0) + u1) + u2) + u3) + u4) + u5) - E (((((0 + u0) + u1) + u2) + u3) + u4))]), some (.int 2), some (.tup [.int (u0), .int (u1), .int (u2 + u3), .int (u4), .int (u5)]), some (.tup [.int (E (0 + u0) - E 0), .int (E ((0 + u0) + u1) - E (0 + u0)), .int (E (((0 + u0) + u1) + (u2 + u3)) - E ((0 + u0) + u1)), .int (E ((((0 + u0) + u1) + (u2 + u3)) + u4) - E (((0 + u0) + u1) + (u2 + u3))), .int (E (((((0 + u0) + u1) + (u2 + u3)) + u4) + u5) - E ((((0 + u0) + u1) + (u2 + u3)) + u4))]), some (.int (u2 / 2)), some (.tup [.int (E (0 + u0) - E 0), .int (E ((0 + u0) + u1) - E (0 + u0)), .int (E (((0 + u0) + u1) + (u2 / 2)) - E ((0 + u0) + u1)), .int (E ((((0 + u0) + u1) + (u2 / 2)) + (u2 - u2 / 2)) - E (((0 + u0) + u1) + (u2 / 2))), .int (E (((((0 + u0) + u1) + (u2 / 2)) + (u2 - u2 / 2)) + u3) - E ((((0 + u0) + u1) + (u2 / 2)) + (u2 - u2 / 2))), .int (E ((((((0 + u0) + u1) + (u2 / 2)) + (u2 - u2 / 2)) + u3) + u4) - E (((((0 + u0) + u1) + (u2 / 2)) + (u2 - u2 / 2)) + u3)), .int (E (((((((0 + u0) + u1) + (u2 / 2)) + (u2 - u2 / 2)) + u3) + u4) + u5) - E ((((((0 + u0) + u1) + (u2 / 2)) + (u2 - u2 / 2)) + u3) + u4))])] g = .ok false g := by
    unfold isB
    have w1 : mSl (mVar 25) (oSome (mOp addD (mVar 21) (mC (.int 2)))) oNone [x0, x1, x2, x3, x4, x5, x6, x7, x8, x9, x10, x11, x12, x13, x14, x15, x16, some (.int sold), some sh, some (.tup [.int (u0), .int (u1), .int (u2), .int (u3), .int (u4), .int (u5)]), some (.tup [.int (E (0 + u0) - E 0), .int (E ((0 + u0) + u1) - E (0 + u0)), .int (E (((0 + u0) + u1) + u2) - E ((0 + u0) + u1)), .int (E ((((0 + u0) + u1) + u2) + u3) - E (((0 + u0) + u1) + u2)), .int (E (((((0 + u0) + u1) + u2) + u3) + u4) - E ((((0 + u0) + u1) + u2) + u3)), .int (E ((((((0 + u0) + u1) + u2) + u3) + u4) + u5) - E (((((0 + u0) + u1) + u2) + u3) + u4))]), some (.int 2), some (.tup [.int (u0), .int (u1), .int (u2 + u3), .int (u4), .int (u5)]), some (.tup [.int (E (0 + u0) - E 0), .int (E ((0 + u0) + u1) - E (0 + u0)), .int (E (((0 + u0) + u1) + (u2 + u3)) - E ((0 + u0) + u1)), .int (E ((((0 + u0) + u1) + (u2 + u3)) + u4) - E (((0 + u0) + u1) + (u2 + u3))), .int (E (((((0 + u0) + u1) + (u2 + u3)) + u4) + u5) - E ((((0 + u0) + u1) + (u2 + u3)) + u4))]), some (.int (u2 / 2)), some (.tup [.int (E (0 + u0) - E 0), .int (E ((0 + u0) + u1) - E (0 + u0)), .int (E (((0 + u0) + u1) + (u2 / 2)) - E ((0 + u0) + u1)), .int (E ((((0 + u0) + u1) + (u2 / 2)) + (u2 - u2 / 2)) - E (((0 + u0) + u1) + (u2 / 2))), .int (E (((((0 + u0) + u1) + (u2 / 2)) + (u2 - u2 / 2)) + u3) - E ((((0 + u0) + u1) + (u2 / 2)) + (u2 - u2 / 2))), .int (E ((((((0 + u0) + u1) + (u2 / 2)) + (u2 - u2 / 2)) + u3) + u4) - E (((((0 + u0) + u1) + (u2 / 2)) + (u2 - u2 / 2)) + u3)), .int (E (((((((0 + u0) + u1) + (u2 / 2)) + (u2 - u2 / 2)) + u3) + u4) + u5) - E ((((((0 + u0) + u1) + (u2 / 2)) + (u2 - u2 / 2)) + u3) + u4))])] g = .ok (.tup [.int (E (((((0 + u0) + u1) + (u2 / 2)) + (u2 - u2 / 2)) + u3) - E ((((0 + u0) + u1) + (u2 / 2)) + (u2 - u2 / 2))), .int (E ((((((0 + u0) + u1) + (u2 / 2)) + (u2 - u2 / 2)) + u3) + u4) - E (((((0 + u0) + u1) + (u2 / 2)) + (u2 - u2 / 2)) + u3)), .int (E (((((((0 + u0) + u1) + (u2 / 2)) + (u2 - u2 / 2)) + u3) + u4) + u5) - E ((((((0 + u0) + u1) + (u2 / 2)) + (u2 - u2 / 2)) + u3) + u4))]) g := rfl
    have w2 : mSl (mVar 20) (oSome (mOp addD (mVar 21) (mC (.int 1)))) oNone [x0, x1, x2, x3, x4, x5, x6, x7, x8, x9, x10, x11, x12, x13, x14, x15, x16, some (.int sold), some sh, some (.tup [.int (u0), .int (u1), .int (u2), .int (u3), .int (u4), .int (u5)]), some (.tup [.int (E (0 + u0) - E 0), .int (E ((0 + u0) + u1) - E (0 + u0)), .int (E (((0 + u0) + u1) + u2) - E ((0 + u0) + u1)), .int (E ((((0 + u0) + u1) + u2) + u3) - E (((0 + u0) + u1) + u2)), .int (E (((((0 + u0) + u1) + u2) + u3) + u4) - E ((((0 + u0) + u1) + u2) + u3)), .int (E ((((((0 + u0) + u1) + u2) + u3) + u4) + u5) - E (((((0 + u0) + u1) + u2) + u3) + u4))]), some (.int 2), some (.tup [.int (u0), .int (u1), .int (u2 + u3), .int (u4), .int (u5)]), some (.tup [.int (E (0 + u0) - E 0), .int (E ((0 + u0) + u1) - E (0 + u0)), .int (E (((0 + u0) + u1) + (u2 + u3)) - E ((0 + u0) + u1)), .int (E ((((0 + u0) + u1) + (u2 + u3)) + u4) - E (((0 + u0) + u1) + (u2 + u3))), .int (E (((((0 + u0) + u1) + (u2 + u3)) + u4) + u5) - E ((((0 + u0) + u1) + (u2 + u3)) + u4))]), some (.int (u2 / 2)), some (.tup [.int (E (0 + u0) - E 0), .int (E ((0 + u0) + u1) - E (0 + u0)), .int (E (((0 + u0) + u1) + (u2 / 2)) - E ((0 + u0) + u1)), .int (E ((((0 + u0) + u1) + (u2 / 2)) + (u2 - u2 / 2)) - E (((0 + u0) + u1) + (u2 / 2))), .int (E (((((0 + u0) + u1) + (u2 / 2)) + (u2 - u2 / 2)) + u3) - E ((((0 + u0) + u1) + (u2 / 2)) + (u2 - u2 / 2))), .int (E ((((((0 + u0) + u1) + (u2 / 2)) + (u2 - u2 / 2)) + u3) + u4) - E (((((0 + u0) + u1) + (u2 / 2)) + (u2 - u2 / 2)) + u3)), .int (E (((((((0 + u0) + u1) + (u2 / 2)) + (u2 - u2 / 2)) + u3) + u4) + u5) - E ((((((0 + u0) + u1) + (u2 / 2)) + (u2 - u2 / 2)) + u3) + u4))])] g = .ok (.tup [.int (E ((((0 + u0) + u1) + u2) + u3) - E (((0 + u0) + u1) + u2)), .int (E (((((0 + u0) + u1) + u2) + u3) + u4) - E ((((0 + u0) + u1) + u2) + u3)), .int (E ((((((0 + u0) + u1) + u2) + u3) + u4) + u5) - E (((((0 + u0) + u1) + u2) + u3) + u4))]) g := rfl
    rw [ev_op, w1, R.bind_ok, w2, R.bind_ok, hh, show neD (.tup [.int (E ((((0 + u0) + u1) + u2) + u3) - E (((0 + u0) + u1) + u2)), .int (E (((((0 + u0) + u1) + u2) + u3) + u4) - E ((((0 + u0) + u1) + u2) + u3)), .int (E ((((((0 + u0) + u1) + u2) + u3) + u4) + u5) - E (((((0 + u0) + u1) + u2) + u3) + u4))]) (.tup [.int (E ((((0 + u0) + u1) + u2) + u3) - E (((0 + u0) + u1) + u2)), .int (E (((((0 + u0) + u1) + u2) + u3) + u4) - E ((((0 + u0) + u1) + u2) + u3)), .int (E ((((((0 + u0) + u1) + u2) + u3) + u4) + u5) - E (((((0 + u0) + u1) + u2) + u3) + u4))]) g = .ok (.bl false) g from vd_neT [E ((((0 + u0) + u1) + u2) + u3) - E (((0 + u0) + u1) + u2), E (((((0 + u0) + u1) + u2) + u3) + u4) - E ((((0 + u0) + u1) + u2) + u3), E ((((((0 + u0) + u1) + u2) + u3) + u4) + u5) - E (((((0 + u0) + u1) + u2) + u3) + u4)] g]; rfl
  unfold t_law_28
  rw [ev_if, ev_tor, dA, R.bind_ok, if_neg Bool.false_ne_true, ev_tor, dB, R.bind_ok, if_neg Bool.false_ne_true, dC, R.go_ok, if_neg Bool.false_ne_true]
  rfl

theorem l6_3 {sold : Int} {sh : D} {E W : Int → Int} (hR : ∀ us : List Int, 1 ≤ us.length ∧ us.length ≤ 12 → (∀ u ∈ us, 0 ≤ u ∧ u ≤ 1000000) → ∀ g, m_recognised [.int sold, sh, .tup (us.map D.int)] g = .ok (.tup ((goE E 0 us).map D.int)) g)
    (hO : ∀ us : List Int, 1 ≤ us.length ∧ us.length ≤ 12 → (∀ u ∈ us, 0 ≤ u ∧ u ≤ 1000000) → ∀ g, m_still_owed [.int sold, sh, .tup (us.map D.int)] g = .ok (.int (W us.sum)) g)
    (u0 u1 u2 u3 u4 u5 : Int) (h0 : 0 ≤ u0 ∧ u0 ≤ 1000) (h1 : 0 ≤ u1 ∧ u1 ≤ 1000) (h2 : 0 ≤ u2 ∧ u2 ≤ 1000) (h3 : 0 ≤ u3 ∧ u3 ≤ 1000) (h4 : 0 ≤ u4 ∧ u4 ≤ 1000) (h5 : 0 ≤ u5 ∧ u5 ≤ 1000) (g : Gp) (x0 x1 x2 x3 x4 x5 x6 x7 x8 x9 x10 x11 x12 x13 x14 x15 x16 x22 x23 x24 x25 : Option D) :
    ∃ y22 y23 y24 y25 : Option D, l_law_6 [x0, x1, x2, x3, x4, x5, x6, x7, x8, x9, x10, x11, x12, x13, x14, x15, x16, some (.int sold), some sh, some (.tup [.int (u0), .int (u1), .int (u2), .int (u3), .int (u4), .int (u5)]), some (.tup [.int (E (0 + u0) - E 0), .int (E ((0 + u0) + u1) - E (0 + u0)), .int (E (((0 + u0) + u1) + u2) - E ((0 + u0) + u1)), .int (E ((((0 + u0) + u1) + u2) + u3) - E (((0 + u0) + u1) + u2)), .int (E (((((0 + u0) + u1) + u2) + u3) + u4) - E ((((0 + u0) + u1) + u2) + u3)), .int (E ((((((0 + u0) + u1) + u2) + u3) + u4) + u5) - E (((((0 + u0) + u1) + u2) + u3) + u4))]), some (.int 3), x22, x23, x24, x25] g = .nx [x0, x1, x2, x3, x4, x5, x6, x7, x8, x9, x10, x11, x12, x13, x14, x15, x16, some (.int sold), some sh, some (.tup [.int (u0), .int (u1), .int (u2), .int (u3), .int (u4), .int (u5)]), some (.tup [.int (E (0 + u0) - E 0), .int (E ((0 + u0) + u1) - E (0 + u0)), .int (E (((0 + u0) + u1) + u2) - E ((0 + u0) + u1)), .int (E ((((0 + u0) + u1) + u2) + u3) - E (((0 + u0) + u1) + u2)), .int (E (((((0 + u0) + u1) + u2) + u3) + u4) - E ((((0 + u0) + u1) + u2) + u3)), .int (E ((((((0 + u0) + u1) + u2) + u3) + u4) + u5) - E (((((0 + u0) + u1) + u2) + u3) + u4))]), some (.int 3), y22, y23, y24, y25] g := by
  have bJ : ∀ u ∈ ([u0, u1, u2, u3 + u4, u5] : List Int), 0 ≤ u ∧ u ≤ 1000000 := by
    simp only [List.forall_mem_cons, List.not_mem_nil, false_implies, implies_true, and_true]; omega
  have bC : ∀ u ∈ ([u0, u1, u2, u3 / 2, u3 - u3 / 2, u4, u5] : List Int), 0 ≤ u ∧ u ≤ 1000000 := by
    simp only [List.forall_mem_cons, List.not_mem_nil, false_implies, implies_true, and_true]; omega
  have bU : ∀ u ∈ ([u0, u1, u2, u3, u4, u5] : List Int), 0 ≤ u ∧ u ≤ 1000000 := by
    simp only [List.forall_mem_cons, List.not_mem_nil, false_implies, implies_true, and_true]; omega
  have rJ : m_recognised [.int sold, sh, .tup [.int (u0), .int (u1), .int (u2), .int (u3 + u4), .int (u5)]] g = .ok (.tup [.int (E (0 + u0) - E 0), .int (E ((0 + u0) + u1) - E (0 + u0)), .int (E (((0 + u0) + u1) + u2) - E ((0 + u0) + u1)), .int (E ((((0 + u0) + u1) + u2) + (u3 + u4)) - E (((0 + u0) + u1) + u2)), .int (E (((((0 + u0) + u1) + u2) + (u3 + u4)) + u5) - E ((((0 + u0) + u1) + u2) + (u3 + u4)))]) g := hR [u0, u1, u2, u3 + u4, u5] ⟨by simp, by simp⟩ bJ g
  have rC : m_recognised [.int sold, sh, .tup [.int (u0), .int (u1), .int (u2), .int (u3 / 2), .int (u3 - u3 / 2), .int (u4), .int (u5)]] g = .ok (.tup [.int (E (0 + u0) - E 0), .int (E ((0 + u0) + u1) - E (0 + u0)), .int (E (((0 + u0) + u1) + u2) - E ((0 + u0) + u1)), .int (E ((((0 + u0) + u1) + u2) + (u3 / 2)) - E (((0 + u0) + u1) + u2)), .int (E (((((0 + u0) + u1) + u2) + (u3 / 2)) + (u3 - u3 / 2)) - E ((((0 + u0) + u1) + u2) + (u3 / 2))), .int (E ((((((0 + u0) + u1) + u2) + (u3 / 2)) + (u3 - u3 / 2)) + u4) - E (((((0 + u0) + u1) + u2) + (u3 / 2)) + (u3 - u3 / 2))), .int (E (((((((0 + u0) + u1) + u2) + (u3 / 2)) + (u3 - u3 / 2)) + u4) + u5) - E ((((((0 + u0) + u1) + u2) + (u3 / 2)) + (u3 - u3 / 2)) + u4))]) g := hR [u0, u1, u2, u3 / 2, u3 - u3 / 2, u4, u5] ⟨by simp, by simp⟩ bC g
  have oJ : m_still_owed [.int sold, sh, .tup [.int (u0), .int (u1), .int (u2), .int (u3 + u4), .int (u5)]] g = .ok (.int (W ([u0, u1, u2, u3, u4, u5] : List Int).sum)) g := by
    have : ([u0, u1, u2, u3 + u4, u5] : List Int).sum = ([u0, u1, u2, u3, u4, u5] : List Int).sum := by simp only [List.sum_cons, List.sum_nil]; omega
    rw [← this]; exact hO [u0, u1, u2, u3 + u4, u5] ⟨by simp, by simp⟩ bJ g
  have oU : m_still_owed [.int sold, sh, .tup [.int (u0), .int (u1), .int (u2), .int (u3), .int (u4), .int (u5)]] g = .ok (.int (W ([u0, u1, u2, u3, u4, u5] : List Int).sum)) g := hO [u0, u1, u2, u3, u4, u5] ⟨by simp, by simp⟩ bU g
  have eJ : ([E (0 + u0) - E 0, E ((0 + u0) + u1) - E (0 + u0), E (((0 + u0) + u1) + u2) - E ((0 + u0) + u1), E ((((0 + u0) + u1) + u2) + (u3 + u4)) - E (((0 + u0) + u1) + u2), E (((((0 + u0) + u1) + u2) + (u3 + u4)) + u5) - E ((((0 + u0) + u1) + u2) + (u3 + u4))] : List Int) = [E (0 + u0) - E 0, E ((0 + u0) + u1) - E (0 + u0), E (((0 + u0) + u1) + u2) - E ((0 + u0) + u1), E ((((0 + u0) + u1) + u2) + u3) - E (((0 + u0) + u1) + u2) + (E (((((0 + u0) + u1) + u2) + u3) + u4) - E ((((0 + u0) + u1) + u2) + u3)), E ((((((0 + u0) + u1) + u2) + u3) + u4) + u5) - E (((((0 + u0) + u1) + u2) + u3) + u4)] := by
    simp only [Int.add_assoc, List.cons.injEq, and_true, true_and]; omega
  have e22 : (mOp addD (mOp addD (mSl (mVar 19) oNone (oSome (mVar 21))) (mTup (mCons (mOp addD (mOp ixD (mVar 19) (mVar 21)) (mOp ixD (mVar 19) (mOp addD (mVar 21) (mC (.int 1))))) mNil))) (mSl (mVar 19) (oSome (mOp addD (mVar 21) (mC (.int 2)))) oNone)) [x0, x1, x2, x3, x4, x5, x6, x7, x8, x9, x10, x11, x12, x13, x14, x15, x16, some (.int sold), some sh, some (.tup [.int (u0), .int (u1), .int (u2), .int (u3), .int (u4), .int (u5)]), some (.tup [.int (E (0 + u0) - E 0), .int (E ((0 + u0) + u1) - E (0 + u0)), .int (E (((0 + u0) + u1) + u2) - E ((0 + u0) + u1)), .int (E ((((0 + u0) + u1) + u2) + u3) - E (((0 + u0) + u1) + u2)), .int (E (((((0 + u0) + u1) + u2) + u3) + u4) - E ((((0 + u0) + u1) + u2) + u3)), .int (E ((((((0 + u0) + u1) + u2) + u3) + u4) + u5) - E (((((0 + u0) + u1) + u2) + u3) + u4))]), some (.int 3), x22, x23, x24, x25] g = .ok (.tup [.int (u0), .int (u1), .int (u2), .int (u3 + u4), .int (u5)]) g := rfl
  have e23 : (mOp addD (mOp addD (mSl (mVar 20) oNone (oSome (mVar 21))) (mTup (mCons (mOp addD (mOp ixD (mVar 20) (mVar 21)) (mOp ixD (mVar 20) (mOp addD (mVar 21) (mC (.int 1))))) mNil))) (mSl (mVar 20) (oSome (mOp addD (mVar 21) (mC (.int 2)))) oNone)) [x0, x1, x2, x3, x4, x5, x6, x7, x8, x9, x10, x11, x12, x13, x14, x15, x16, some (.int sold), some sh, some (.tup [.int (u0), .int (u1), .int (u2), .int (u3), .int (u4), .int (u5)]), some (.tup [.int (E (0 + u0) - E 0), .int (E ((0 + u0) + u1) - E (0 + u0)), .int (E (((0 + u0) + u1) + u2) - E ((0 + u0) + u1)), .int (E ((((0 + u0) + u1) + u2) + u3) - E (((0 + u0) + u1) + u2)), .int (E (((((0 + u0) + u1) + u2) + u3) + u4) - E ((((0 + u0) + u1) + u2) + u3)), .int (E ((((((0 + u0) + u1) + u2) + u3) + u4) + u5) - E (((((0 + u0) + u1) + u2) + u3) + u4))]), some (.int 3), some (.tup [.int (u0), .int (u1), .int (u2), .int (u3 + u4), .int (u5)]), some (.tup [.int (E (0 + u0) - E 0), .int (E ((0 + u0) + u1) - E (0 + u0)), .int (E (((0 + u0) + u1) + u2) - E ((0 + u0) + u1)), .int (E ((((0 + u0) + u1) + u2) + (u3 + u4)) - E (((0 + u0) + u1) + u2)), .int (E (((((0 + u0) + u1) + u2) + (u3 + u4)) + u5) - E ((((0 + u0) + u1) + u2) + (u3 + u4)))]), x24, x25] g = .ok (.tup [.int (E (0 + u0) - E 0), .int (E ((0 + u0) + u1) - E (0 + u0)), .int (E (((0 + u0) + u1) + u2) - E ((0 + u0) + u1)), .int (E ((((0 + u0) + u1) + u2) + u3) - E (((0 + u0) + u1) + u2) + (E (((((0 + u0) + u1) + u2) + u3) + u4) - E ((((0 + u0) + u1) + u2) + u3))), .int (E ((((((0 + u0) + u1) + u2) + u3) + u4) + u5) - E (((((0 + u0) + u1) + u2) + u3) + u4))]) g := rfl
  have n23 : neD (.tup [.int (E (0 + u0) - E 0), .int (E ((0 + u0) + u1) - E (0 + u0)), .int (E (((0 + u0) + u1) + u2) - E ((0 + u0) + u1)), .int (E ((((0 + u0) + u1) + u2) + (u3 + u4)) - E (((0 + u0) + u1) + u2)), .int (E (((((0 + u0) + u1) + u2) + (u3 + u4)) + u5) - E ((((0 + u0) + u1) + u2) + (u3 + u4)))]) (.tup [.int (E (0 + u0) - E 0), .int (E ((0 + u0) + u1) - E (0 + u0)), .int (E (((0 + u0) + u1) + u2) - E ((0 + u0) + u1)), .int (E ((((0 + u0) + u1) + u2) + u3) - E (((0 + u0) + u1) + u2) + (E (((((0 + u0) + u1) + u2) + u3) + u4) - E ((((0 + u0) + u1) + u2) + u3))), .int (E ((((((0 + u0) + u1) + u2) + u3) + u4) + u5) - E (((((0 + u0) + u1) + u2) + u3) + u4))]) g = .ok (.bl false) g := by
    have := vd_neT [E (0 + u0) - E 0, E ((0 + u0) + u1) - E (0 + u0), E (((0 + u0) + u1) + u2) - E ((0 + u0) + u1), E ((((0 + u0) + u1) + u2) + (u3 + u4)) - E (((0 + u0) + u1) + u2), E (((((0 + u0) + u1) + u2) + (u3 + u4)) + u5) - E ((((0 + u0) + u1) + u2) + (u3 + u4))] g
    rw [show (neD (.tup [.int (E (0 + u0) - E 0), .int (E ((0 + u0) + u1) - E (0 + u0)), .int (E (((0 + u0) + u1) + u2) - E ((0 + u0) + u1)), .int (E ((((0 + u0) + u1) + u2) + (u3 + u4)) - E (((0 + u0) + u1) + u2)), .int (E (((((0 + u0) + u1) + u2) + (u3 + u4)) + u5) - E ((((0 + u0) + u1) + u2) + (u3 + u4)))]) (.tup [.int (E (0 + u0) - E 0), .int (E ((0 + u0) + u1) - E (0 + u0)), .int (E (((0 + u0) + u1) + u2) - E ((0 + u0) + u1)), .int (E ((((0 + u0) + u1) + u2) + u3) - E (((0 + u0) + u1) + u2) + (E (((((0 + u0) + u1) + u2) + u3) + u4) - E ((((0 + u0) + u1) + u2) + u3))), .int (E ((((((0 + u0) + u1) + u2) + u3) + u4) + u5) - E (((((0 + u0) + u1) + u2) + u3) + u4))]) g) = neD (.tup (([E (0 + u0) - E 0, E ((0 + u0) + u1) - E (0 + u0), E (((0 + u0) + u1) + u2) - E ((0 + u0) + u1), E ((((0 + u0) + u1) + u2) + (u3 + u4)) - E (((0 + u0) + u1) + u2), E (((((0 + u0) + u1) + u2) + (u3 + u4)) + u5) - E ((((0 + u0) + u1) + u2) + (u3 + u4))] : List Int).map D.int)) (.tup (([E (0 + u0) - E 0, E ((0 + u0) + u1) - E (0 + u0), E (((0 + u0) + u1) + u2) - E ((0 + u0) + u1), E ((((0 + u0) + u1) + u2) + u3) - E (((0 + u0) + u1) + u2) + (E (((((0 + u0) + u1) + u2) + u3) + u4) - E ((((0 + u0) + u1) + u2) + u3)), E ((((((0 + u0) + u1) + u2) + u3) + u4) + u5) - E (((((0 + u0) + u1) + u2) + u3) + u4)] : List Int).map D.int)) g from rfl, ← eJ]; exact this
  have e25 : (mOp addD (mOp addD (mSl (mVar 19) oNone (oSome (mVar 21))) (mTup (mCons (mVar 24) (mCons (mOp subD (mOp ixD (mVar 19) (mVar 21)) (mVar 24)) mNil)))) (mSl (mVar 19) (oSome (mOp addD (mVar 21) (mC (.int 1)))) oNone)) [x0, x1, x2, x3, x4, x5, x6, x7, x8, x9, x10, x11, x12, x13, x14, x15, x16, some (.int sold), some sh, some (.tup [.int (u0), .int (u1), .int (u2), .int (u3), .int (u4), .int (u5)]), some (.tup [.int (E (0 + u0) - E 0), .int (E ((0 + u0) + u1) - E (0 + u0)), .int (E (((0 + u0) + u1) + u2) - E ((0 + u0) + u1)), .int (E ((((0 + u0) + u1) + u2) + u3) - E (((0 + u0) + u1) + u2)), .int (E (((((0 + u0) + u1) + u2) + u3) + u4) - E ((((0 + u0) + u1) + u2) + u3)), .int (E ((((((0 + u0) + u1) + u2) + u3) + u4) + u5) - E (((((0 + u0) + u1) + u2) + u3) + u4))]), some (.int 3), some (.tup [.int (u0), .int (u1), .int (u2), .int (u3 + u4), .int (u5)]), some (.tup [.int (E (0 + u0) - E 0), .int (E ((0 + u0) + u1) - E (0 + u0)), .int (E (((0 + u0) + u1) + u2) - E ((0 + u0) + u1)), .int (E ((((0 + u0) + u1) + u2) + (u3 + u4)) - E (((0 + u0) + u1) + u2)), .int (E (((((0 + u0) + u1) + u2) + (u3 + u4)) + u5) - E ((((0 + u0) + u1) + u2) + (u3 + u4)))]), some (.int (u3 / 2)), x25] g = .ok (.tup [.int (u0), .int (u1), .int (u2), .int (u3 / 2), .int (u3 - u3 / 2), .int (u4), .int (u5)]) g := rfl
  refine ⟨some (.tup [.int (u0), .int (u1), .int (u2), .int (u3 + u4), .int (u5)]), some (.tup [.int (E (0 + u0) - E 0), .int (E ((0 + u0) + u1) - E (0 + u0)), .int (E (((0 + u0) + u1) + u2) - E ((0 + u0) + u1)), .int (E ((((0 + u0) + u1) + u2) + (u3 + u4)) - E (((0 + u0) + u1) + u2)), .int (E (((((0 + u0) + u1) + u2) + (u3 + u4)) + u5) - E ((((0 + u0) + u1) + u2) + (u3 + u4)))]), some (.int (u3 / 2)), some (.tup [.int (E (0 + u0) - E 0), .int (E ((0 + u0) + u1) - E (0 + u0)), .int (E (((0 + u0) + u1) + u2) - E ((0 + u0) + u1)), .int (E ((((0 + u0) + u1) + u2) + (u3 / 2)) - E (((0 + u0) + u1) + u2)), .int (E (((((0 + u0) + u1) + u2) + (u3 / 2)) + (u3 - u3 / 2)) - E ((((0 + u0) + u1) + u2) + (u3 / 2))), .int (E ((((((0 + u0) + u1) + u2) + (u3 / 2)) + (u3 - u3 / 2)) + u4) - E (((((0 + u0) + u1) + u2) + (u3 / 2)) + (u3 - u3 / 2))), .int (E (((((((0 + u0) + u1) + u2) + (u3 / 2)) + (u3 - u3 / 2)) + u4) + u5) - E ((((((0 + u0) + u1) + u2) + (u3 / 2)) + (u3 - u3 / 2)) + u4))]), ?_⟩
  have s22 : l_law_6 [x0, x1, x2, x3, x4, x5, x6, x7, x8, x9, x10, x11, x12, x13, x14, x15, x16, some (.int sold), some sh, some (.tup [.int (u0), .int (u1), .int (u2), .int (u3), .int (u4), .int (u5)]), some (.tup [.int (E (0 + u0) - E 0), .int (E ((0 + u0) + u1) - E (0 + u0)), .int (E (((0 + u0) + u1) + u2) - E ((0 + u0) + u1)), .int (E ((((0 + u0) + u1) + u2) + u3) - E (((0 + u0) + u1) + u2)), .int (E (((((0 + u0) + u1) + u2) + u3) + u4) - E ((((0 + u0) + u1) + u2) + u3)), .int (E ((((((0 + u0) + u1) + u2) + u3) + u4) + u5) - E (((((0 + u0) + u1) + u2) + u3) + u4))]), some (.int 3), x22, x23, x24, x25] g = t_law_24 [x0, x1, x2, x3, x4, x5, x6, x7, x8, x9, x10, x11, x12, x13, x14, x15, x16, some (.int sold), some sh, some (.tup [.int (u0), .int (u1), .int (u2), .int (u3), .int (u4), .int (u5)]), some (.tup [.int (E (0 + u0) - E 0), .int (E ((0 + u0) + u1) - E (0 + u0)), .int (E (((0 + u0) + u1) + u2) - E ((0 + u0) + u1)), .int (E ((((0 + u0) + u1) + u2) + u3) - E (((0 + u0) + u1) + u2)), .int (E (((((0 + u0) + u1) + u2) + u3) + u4) - E ((((0 + u0) + u1) + u2) + u3)), .int (E ((((((0 + u0) + u1) + u2) + u3) + u4) + u5) - E (((((0 + u0) + u1) + u2) + u3) + u4))]), some (.int 3), some (.tup [.int (u0), .int (u1), .int (u2), .int (u3 + u4), .int (u5)]), x23, x24, x25] g := by
    unfold l_law_6
    rw [ev_seq, ev_set, e22]; rfl
  have s23 : t_law_24 [x0, x1, x2, x3, x4, x5, x6, x7, x8, x9, x10, x11, x12, x13, x14, x15, x16, some (.int sold), some sh, some (.tup [.int (u0), .int (u1), .int (u2), .int (u3), .int (u4), .int (u5)]), some (.tup [.int (E (0 + u0) - E 0), .int (E ((0 + u0) + u1) - E (0 + u0)), .int (E (((0 + u0) + u1) + u2) - E ((0 + u0) + u1)), .int (E ((((0 + u0) + u1) + u2) + u3) - E (((0 + u0) + u1) + u2)), .int (E (((((0 + u0) + u1) + u2) + u3) + u4) - E ((((0 + u0) + u1) + u2) + u3)), .int (E ((((((0 + u0) + u1) + u2) + u3) + u4) + u5) - E (((((0 + u0) + u1) + u2) + u3) + u4))]), some (.int 3), some (.tup [.int (u0), .int (u1), .int (u2), .int (u3 + u4), .int (u5)]), x23, x24, x25] g = t_law_25 [x0, x1, x2, x3, x4, x5, x6, x7, x8, x9, x10, x11, x12, x13, x14, x15, x16, some (.int sold), some sh, some (.tup [.int (u0), .int (u1), .int (u2), .int (u3), .int (u4), .int (u5)]), some (.tup [.int (E (0 + u0) - E 0), .int (E ((0 + u0) + u1) - E (0 + u0)), .int (E (((0 + u0) + u1) + u2) - E ((0 + u0) + u1)), .int (E ((((0 + u0) + u1) + u2) + u3) - E (((0 + u0) + u1) + u2)), .int (E (((((0 + u0) + u1) + u2) + u3) + u4) - E ((((0 + u0) + u1) + u2) + u3)), .int (E ((((((0 + u0) + u1) + u2) + u3) + u4) + u5) - E (((((0 + u0) + u1) + u2) + u3) + u4))]), some (.int 3), some (.tup [.int (u0), .int (u1), .int (u2), .int (u3 + u4), .int (u5)]), some (.tup [.int (E (0 + u0) - E 0), .int (E ((0 + u0) + u1) - E (0 + u0)), .int (E (((0 + u0) + u1) + u2) - E ((0 + u0) + u1)), .int (E ((((0 + u0) + u1) + u2) + (u3 + u4)) - E (((0 + u0) + u1) + u2)), .int (E (((((0 + u0) + u1) + u2) + (u3 + u4)) + u5) - E ((((0 + u0) + u1) + u2) + (u3 + u4)))]), x24, x25] g := by
    unfold t_law_24
    rw [ev_seq, ev_set, ev_call]
    show ((m_recognised [.int sold, sh, .tup [.int (u0), .int (u1), .int (u2), .int (u3 + u4), .int (u5)]] g).go _).then _ = _
    rw [rJ]; rfl
  have s24 : t_law_25 [x0, x1, x2, x3, x4, x5, x6, x7, x8, x9, x10, x11, x12, x13, x14, x15, x16, some (.int sold), some sh, some (.tup [.int (u0), .int (u1), .int (u2), .int (u3), .int (u4), .int (u5)]), some (.tup [.int (E (0 + u0) - E 0), .int (E ((0 + u0) + u1) - E (0 + u0)), .int (E (((0 + u0) + u1) + u2) - E ((0 + u0) + u1)), .int (E ((((0 + u0) + u1) + u2) + u3) - E (((0 + u0) + u1) + u2)), .int (E (((((0 + u0) + u1) + u2) + u3) + u4) - E ((((0 + u0) + u1) + u2) + u3)), .int (E ((((((0 + u0) + u1) + u2) + u3) + u4) + u5) - E (((((0 + u0) + u1) + u2) + u3) + u4))]), some (.int 3), some (.tup [.int (u0), .int (u1), .int (u2), .int (u3 + u4), .int (u5)]), some (.tup [.int (E (0 + u0) - E 0), .int (E ((0 + u0) + u1) - E (0 + u0)), .int (E (((0 + u0) + u1) + u2) - E ((0 + u0) + u1)), .int (E ((((0 + u0) + u1) + u2) + (u3 + u4)) - E (((0 + u0) + u1) + u2)), .int (E (((((0 + u0) + u1) + u2) + (u3 + u4)) + u5) - E ((((0 + u0) + u1) + u2) + (u3 + u4)))]), x24, x25] g = t_law_27 [x0, x1, x2, x3, x4, x5, x6, x7, x8, x9, x10, x11, x12, x13, x14, x15, x16, some (.int sold), some sh, some (.tup [.int (u0), .int (u1), .int (u2), .int (u3), .int (u4), .int (u5)]), some (.tup [.int (E (0 + u0) - E 0), .int (E ((0 + u0) + u1) - E (0 + u0)), .int (E (((0 + u0) + u1) + u2) - E ((0 + u0) + u1)), .int (E ((((0 + u0) + u1) + u2) + u3) - E (((0 + u0) + u1) + u2)), .int (E (((((0 + u0) + u1) + u2) + u3) + u4) - E ((((0 + u0) + u1) + u2) + u3)), .int (E ((((((0 + u0) + u1) + u2) + u3) + u4) + u5) - E (((((0 + u0) + u1) + u2) + u3) + u4))]), some (.int 3), some (.tup [.int (u0), .int (u1), .int (u2), .int (u3 + u4), .int (u5)]), some (.tup [.int (E (0 + u0) - E 0), .int (E ((0 + u0) + u1) - E (0 + u0)), .int (E (((0 + u0) + u1) + u2) - E ((0 + u0) + u1)), .int (E ((((0 + u0) + u1) + u2) + (u3 + u4)) - E (((0 + u0) + u1) + u2)), .int (E (((((0 + u0) + u1) + u2) + (u3 + u4)) + u5) - E ((((0 + u0) + u1) + u2) + (u3 + u4)))]), some (.int (u3 / 2)), x25] g := by
    unfold t_law_25
    rw [ev_seq, ev_if, ev_tor]
    have c1 : isB (mOp neD (mVar 23) (mOp addD (mOp addD (mSl (mVar 20) oNone (oSome (mVar 21))) (mTup (mCons (mOp addD (mOp ixD (mVar 20) (mVar 21)) (mOp ixD (mVar 20) (mOp addD (mVar 21) (mC (.int 1))))) mNil))) (mSl (mVar 20) (oSome (mOp addD (mVar 21) (mC (.int 2)))) oNone))) [x0, x1, x2, x3, x4, x5, x6, x7, x8, x9, x10, x11, x12, x13, x14, x15, x16, some (.int sold), some sh, some (.tup [.int (u0), .int (u1), .int (u2), .int (u3), .int (u4), .int (u5)]), some (.tup [.int (E (0 + u0) - E 0), .int (E ((0 + u0) + u1) - E (0 + u0)), .int (E (((0 + u0) + u1) + u2) - E ((0 + u0) + u1)), .int (E ((((0 + u0) + u1) + u2) + u3) - E (((0 + u0) + u1) + u2)), .int (E (((((0 + u0) + u1) + u2) + u3) + u4) - E ((((0 + u0) + u1) + u2) + u3)), .int (E ((((((0 + u0) + u1) + u2) + u3) + u4) + u5) - E (((((0 + u0) + u1) + u2) + u3) + u4))]), some (.int 3), some (.tup [.int (u0), .int (u1), .int (u2), .int (u3 + u4), .int (u5)]), some (.tup [.int (E (0 + u0) - E 0), .int (E ((0 + u0) + u1) - E (0 + u0)), .int (E (((0 + u0) + u1) + u2) - E ((0 + u0) + u1)), .int (E ((((0 + u0) + u1) + u2) + (u3 + u4)) - E (((0 + u0) + u1) + u2)), .int (E (((((0 + u0) + u1) + u2) + (u3 + u4)) + u5) - E ((((0 + u0) + u1) + u2) + (u3 + u4)))]), x24, x25] g = .ok false g := by
      unfold isB
      have v23 : mVar 23 [x0, x1, x2, x3, x4, x5, x6, x7, x8, x9, x10, x11, x12, x13, x14, x15, x16, some (.int sold), some sh, some (.tup [.int (u0), .int (u1), .int (u2), .int (u3), .int (u4), .int (u5)]), some (.tup [.int (E (0 + u0) - E 0), .int (E ((0 + u0) + u1) - E (0 + u0)), .int (E (((0 + u0) + u1) + u2) - E ((0 + u0) + u1)), .int (E ((((0 + u0) + u1) + u2) + u3) - E (((0 + u0) + u1) + u2)), .int (E (((((0 + u0) + u1) + u2) + u3) + u4) - E ((((0 + u0) + u1) + u2) + u3)), .int (E ((((((0 + u0) + u1) + u2) + u3) + u4) + u5) - E (((((0 + u0) + u1) + u2) + u3) + u4))]), some (.int 3), some (.tup [.int (u0), .int (u1), .int (u2), .int (u3 + u4), .int (u5)]), some (.tup [.int (E (0 + u0) - E 0), .int (E ((0 + u0) + u1) - E (0 + u0)), .int (E (((0 + u0) + u1) + u2) - E ((0 + u0) + u1)), .int (E ((((0 + u0) + u1) + u2) + (u3 + u4)) - E (((0 + u0) + u1) + u2)), .int (E (((((0 + u0) + u1) + u2) + (u3 + u4)) + u5) - E ((((0 + u0) + u1) + u2) + (u3 + u4)))]), x24, x25] g = .ok (.tup [.int (E (0 + u0) - E 0), .int (E ((0 + u0) + u1) - E (0 + u0)), .int (E (((0 + u0) + u1) + u2) - E ((0 + u0) + u1)), .int (E ((((0 + u0) + u1) + u2) + (u3 + u4)) - E (((0 + u0) + u1) + u2)), .int (E (((((0 + u0) + u1) + u2) + (u3 + u4)) + u5) - E ((((0 + u0) + u1) + u2) + (u3 + u4)))]) g := rfl
      rw [ev_op, v23, R.bind_ok, e23, R.bind_ok, n23]; rfl
    rw [c1, R.bind_ok]
    have c2 : isB (mOp neD (mCall m_still_owed (mCons (mVar 17) (mCons (mVar 18) (mCons (mVar 22) mNil)))) (mCall m_still_owed (mCons (mVar 17) (mCons (mVar 18) (mCons (mVar 19) mNil))))) [x0, x1, x2, x3, x4, x5, x6, x7, x8, x9, x10, x11, x12, x13, x14, x15, x16, some (.int sold), some sh, some (.tup [.int (u0), .int (u1), .int (u2), .int (u3), .int (u4), .int (u5)]), some (.tup [.int (E (0 + u0) - E 0), .int (E ((0 + u0) + u1) - E (0 + u0)), .int (E (((0 + u0) + u1) + u2) - E ((0 + u0) + u1)), .int (E ((((0 + u0) + u1) + u2) + u3) - E (((0 + u0) + u1) + u2)), .int (E (((((0 + u0) + u1) + u2) + u3) + u4) - E ((((0 + u0) + u1) + u2) + u3)), .int (E ((((((0 + u0) + u1) + u2) + u3) + u4) + u5) - E (((((0 + u0) + u1) + u2) + u3) + u4))]), some (.int 3), some (.tup [.int (u0), .int (u1), .int (u2), .int (u3 + u4), .int (u5)]), some (.tup [.int (E (0 + u0) - E 0), .int (E ((0 + u0) + u1) - E (0 + u0)), .int (E (((0 + u0) + u1) + u2) - E ((0 + u0) + u1)), .int (E ((((0 + u0) + u1) + u2) + (u3 + u4)) - E (((0 + u0) + u1) + u2)), .int (E (((((0 + u0) + u1) + u2) + (u3 + u4)) + u5) - E ((((0 + u0) + u1) + u2) + (u3 + u4)))]), x24, x25] g = .ok false g := by
      unfold isB
      rw [ev_op, ev_call]
      show (((m_still_owed [.int sold, sh, .tup [.int (u0), .int (u1), .int (u2), .int (u3 + u4), .int (u5)]] g).bind fun x g1 => (m_still_owed [.int sold, sh, .tup [.int (u0), .int (u1), .int (u2), .int (u3), .int (u4), .int (u5)]] g1).bind fun y g2 => neD x y g2).bind _) = _
      rw [oJ, R.bind_ok, oU, R.bind_ok, vd_ne]
      simp only [decide_true, Bool.not_true]; rfl
    rw [if_neg Bool.false_ne_true, c2]
    rfl
  have s25 : t_law_27 [x0, x1, x2, x3, x4, x5, x6, x7, x8, x9, x10, x11, x12, x13, x14, x15, x16, some (.int sold), some sh, some (.tup [.int (u0), .int (u1), .int (u2), .int (u3), .int (u4), .int (u5)]), some (.tup [.int (E (0 + u0) - E 0), .int (E ((0 + u0) + u1) - E (0 + u0)), .int (E (((0 + u0) + u1) + u2) - E ((0 + u0) + u1)), .int (E ((((0 + u0) + u1) + u2) + u3) - E (((0 + u0) + u1) + u2)), .int (E (((((0 + u0) + u1) + u2) + u3) + u4) - E ((((0 + u0) + u1) + u2) + u3)), .int (E ((((((0 + u0) + u1) + u2) + u3) + u4) + u5) - E (((((0 + u0) + u1) + u2) + u3) + u4))]), some (.int 3), some (.tup [.int (u0), .int (u1), .int (u2), .int (u3 + u4), .int (u5)]), some (.tup [.int (E (0 + u0) - E 0), .int (E ((0 + u0) + u1) - E (0 + u0)), .int (E (((0 + u0) + u1) + u2) - E ((0 + u0) + u1)), .int (E ((((0 + u0) + u1) + u2) + (u3 + u4)) - E (((0 + u0) + u1) + u2)), .int (E (((((0 + u0) + u1) + u2) + (u3 + u4)) + u5) - E ((((0 + u0) + u1) + u2) + (u3 + u4)))]), some (.int (u3 / 2)), x25] g = t_law_28 [x0, x1, x2, x3, x4, x5, x6, x7, x8, x9, x10, x11, x12, x13, x14, x15, x16, some (.int sold), some sh, some (.tup [.int (u0), .int (u1), .int (u2), .int (u3), .int (u4), .int (u5)]), some (.tup [.int (E (0 + u0) - E 0), .int (E ((0 + u0) + u1) - E (0 + u0)), .int (E (((0 + u0) + u1) + u2) - E ((0 + u0) + u1)), .int (E ((((0 + u0) + u1) + u2) + u3) - E (((0 + u0) + u1) + u2)), .int (E (((((0 + u0) + u1) + u2) + u3) + u4) - E ((((0 + u0) + u1) + u2) + u3)), .int (E ((((((0 + u0) + u1) + u2) + u3) + u4) + u5) - E (((((0 + u0) + u1) + u2) + u3) + u4))]), some (.int 3), some (.tup [.int (u0), .int (u1), .int (u2), .int (u3 + u4), .int (u5)]), some (.tup [.int (E (0 + u0) - E 0), .int (E ((0 + u0) + u1) - E (0 + u0)), .int (E (((0 + u0) + u1) + u2) - E ((0 + u0) + u1)), .int (E ((((0 + u0) + u1) + u2) + (u3 + u4)) - E (((0 + u0) + u1) + u2)), .int (E (((((0 + u0) + u1) + u2) + (u3 + u4)) + u5) - E ((((0 + u0) + u1) + u2) + (u3 + u4)))]), some (.int (u3 / 2)), some (.tup [.int (E (0 + u0) - E 0), .int (E ((0 + u0) + u1) - E (0 + u0)), .int (E (((0 + u0) + u1) + u2) - E ((0 + u0) + u1)), .int (E ((((0 + u0) + u1) + u2) + (u3 / 2)) - E (((0 + u0) + u1) + u2)), .int (E (((((0 + u0) + u1) + u2) + (u3 / 2)) + (u3 - u3 / 2)) - E ((((0 + u0) + u1) + u2) + (u3 / 2))), .int (E ((((((0 + u0) + u1) + u2) + (u3 / 2)) + (u3 - u3 / 2)) + u4) - E (((((0 + u0) + u1) + u2) + (u3 / 2)) + (u3 - u3 / 2))), .int (E (((((((0 + u0) + u1) + u2) + (u3 / 2)) + (u3 - u3 / 2)) + u4) + u5) - E ((((((0 + u0) + u1) + u2) + (u3 / 2)) + (u3 - u3 / 2)) + u4))])] g := by
    unfold t_law_27
    rw [ev_seq, ev_set, ev_call]
    have a1 : (mCons (mVar 17) (mCons (mVar 18) (mCons (mOp addD (mOp addD (mSl (mVar 19) oNone (oSome (mVar 21))) (mTup (mCons (mVar 24) (mCons (mOp subD (mOp ixD (mVar 19) (mVar 21)) (mVar 24)) mNil)))) (mSl (mVar 19) (oSome (mOp addD (mVar 21) (mC (.int 1)))) oNone)) mNil))) [x0, x1, x2, x3, x4, x5, x6, x7, x8, x9, x10, x11, x12, x13, x14, x15, x16, some (.int sold), some sh, some (.tup [.int (u0), .int (u1), .int (u2), .int (u3), .int (u4), .int (u5)]), some (.tup [.int (E (0 + u0) - E 0), .int (E ((0 + u0) + u1) - E (0 + u0)), .int (E (((0 + u0) + u1) + u2) - E ((0 + u0) + u1)), .int (E ((((0 + u0) + u1) + u2) + u3) - E (((0 + u0) + u1) + u2)), .int (E (((((0 + u0) + u1) + u2) + u3) + u4) - E ((((0 + u0) + u1) + u2) + u3)), .int (E ((((((0 + u0) + u1) + u2) + u3) + u4) + u5) - E (((((0 + u0) + u1) + u2) + u3) + u4))]), some (.int 3), some (.tup [.int (u0), .int (u1), .int (u2), .int (u3 + u4), .int (u5)]), some (.tup [.int (E (0 + u0) - E 0), .int (E ((0 + u0) + u1) - E (0 + u0)), .int (E (((0 + u0) + u1) + u2) - E ((0 + u0) + u1)), .int (E ((((0 + u0) + u1) + u2) + (u3 + u4)) - E (((0 + u0) + u1) + u2)), .int (E (((((0 + u0) + u1) + u2) + (u3 + u4)) + u5) - E ((((0 + u0) + u1) + u2) + (u3 + u4)))]), some (.int (u3 / 2)), x25] g = .ok [.int sold, sh, .tup [.int (u0), .int (u1), .int (u2), .int (u3 / 2), .int (u3 - u3 / 2), .int (u4), .int (u5)]] g := by
      have v17 : mVar 17 [x0, x1, x2, x3, x4, x5, x6, x7, x8, x9, x10, x11, x12, x13, x14, x15, x16, some (.int sold), some sh, some (.tup [.int (u0), .int (u1), .int (u2), .int (u3), .int (u4), .int (u5)]), some (.tup [.int (E (0 + u0) - E 0), .int (E ((0 + u0) + u1) - E (0 + u0)), .int (E (((0 + u0) + u1) + u2) - E ((0 + u0) + u1)), .int (E ((((0 + u0) + u1) + u2) + u3) - E (((0 + u0) + u1) + u2)), .int (E (((((0 + u0) + u1) + u2) + u3) + u4) - E ((((0 + u0) + u1) + u2) + u3)), .int (E ((((((0 + u0) + u1) + u2) + u3) + u4) + u5) - E (((((0 + u0) + u1) + u2) + u3) + u4))]), some (.int 3), some (.tup [.int (u0), .int (u1), .int (u2), .int (u3 + u4), .int (u5)]), some (.tup [.int (E (0 + u0) - E 0), .int (E ((0 + u0) + u1) - E (0 + u0)), .int (E (((0 + u0) + u1) + u2) - E ((0 + u0) + u1)), .int (E ((((0 + u0) + u1) + u2) + (u3 + u4)) - E (((0 + u0) + u1) + u2)), .int (E (((((0 + u0) + u1) + u2) + (u3 + u4)) + u5) - E ((((0 + u0) + u1) + u2) + (u3 + u4)))]), some (.int (u3 / 2)), x25] g = .ok (.int sold) g := rfl
      have v18 : mVar 18 [x0, x1, x2, x3, x4, x5, x6, x7, x8, x9, x10, x11, x12, x13, x14, x15, x16, some (.int sold), some sh, some (.tup [.int (u0), .int (u1), .int (u2), .int (u3), .int (u4), .int (u5)]), some (.tup [.int (E (0 + u0) - E 0), .int (E ((0 + u0) + u1) - E (0 + u0)), .int (E (((0 + u0) + u1) + u2) - E ((0 + u0) + u1)), .int (E ((((0 + u0) + u1) + u2) + u3) - E (((0 + u0) + u1) + u2)), .int (E (((((0 + u0) + u1) + u2) + u3) + u4) - E ((((0 + u0) + u1) + u2) + u3)), .int (E ((((((0 + u0) + u1) + u2) + u3) + u4) + u5) - E (((((0 + u0) + u1) + u2) + u3) + u4))]), some (.int 3), some (.tup [.int (u0), .int (u1), .int (u2), .int (u3 + u4), .int (u5)]), some (.tup [.int (E (0 + u0) - E 0), .int (E ((0 + u0) + u1) - E (0 + u0)), .int (E (((0 + u0) + u1) + u2) - E ((0 + u0) + u1)), .int (E ((((0 + u0) + u1) + u2) + (u3 + u4)) - E (((0 + u0) + u1) + u2)), .int (E (((((0 + u0) + u1) + u2) + (u3 + u4)) + u5) - E ((((0 + u0) + u1) + u2) + (u3 + u4)))]), some (.int (u3 / 2)), x25] g = .ok sh g := rfl
      rw [ev_cons, v17, R.bind_ok, ev_cons, v18, R.bind_ok, ev_cons, e25, R.bind_ok, ev_nil]; rfl
    rw [a1, R.bind_ok, rC]; rfl
  rw [s22, s23, s24, s25]
  have hh : (((((0 + u0) + u1) + u2) + (u3 / 2)) + (u3 - u3 / 2)) = ((((0 + u0) + u1) + u2) + u3) := by omega
  have dA : isB (mOp neD (mSl (mVar 25) oNone (oSome (mVar 21))) (mSl (mVar 20) oNone (oSome (mVar 21)))) [x0, x1, x2, x3, x4, x5, x6, x7, x8, x9, x10, x11, x12, x13, x14, x15, x16, some (.int sold), some sh, some (.tup [.int (u0), .int (u1), .int (u2), .int (u3), .int (u4), .int (u5)]), some (.tup [.int (E (0 + u0) - E 0), .int (E ((0 + u0) + u1) - E (0 + u0)), .int (E (((0 + u0) + u1) + u2) - E ((0 + u0) + u1)), .int (E ((((0 + u0) + u1) + u2) + u3) - E (((0 + u0) + u1) + u2)), .int (E (((((0 + u0) + u1) + u2) + u3) + u4) - E ((((0 + u0) + u1) + u2) + u3)), .int (E ((((((0 + u0) + u1) + u2) + u3) + u4) + u5) - E (((((0 + u0) + u1) + u2) + u3) + u4))]), some (.int 3), some (.tup [.int (u0), .int (u1), .int (u2), .int (u3 + u4), .int (u5)]), some (.tup [.int (E (0 + u0) - E 0), .int (E ((0 + u0) + u1) - E (0 + u0)), .int (E (((0 + u0) + u1) + u2) - E ((0 + u0) + u1)), .int (E ((((0 + u0) + u1) + u2) + (u3 + u4)) - E (((0 + u0) + u1) + u2)), .int (E (((((0 + u0) + u1) + u2) + (u3 + u4)) + u5) - E ((((0 + u0) + u1) + u2) + (u3 + u4)))]), some (.int (u3 / 2)), some (.tup [.int (E (0 + u0) - E 0), .int (E ((0 + u0) + u1) - E (0 + u0)), .int (E (((0 + u0) + u1) + u2) - E ((0 + u0) + u1)), .int (E ((((0 + u0) + u1) + u2) + (u3 / 2)) - E (((0 + u0) + u1) + u2)), .int (E (((((0 + u0) + u1) + u2) + (u3 / 2)) + (u3 - u3 / 2)) - E ((((0 + u0) + u1) + u2) + (u3 / 2))), .int (E ((((((0 + u0) + u1) + u2) + (u3 / 2)) + (u3 - u3 / 2)) + u4) - E (((((0 + u0) + u1) + u2) + (u3 / 2)) + (u3 - u3 / 2))), .int (E (((((((0 + u0) + u1) + u2) + (u3 / 2)) + (u3 - u3 / 2)) + u4) + u5) - E ((((((0 + u0) + u1) + u2) + (u3 / 2)) + (u3 - u3 / 2)) + u4))])] g = .ok false g := by
    unfold isB
    have w1 : mSl (mVar 25) oNone (oSome (mVar 21)) [x0, x1, x2, x3, x4, x5, x6, x7, x8, x9, x10, x11, x12, x13, x14, x15, x16, some (.int sold), some sh, some (.tup [.int (u0), .int (u1), .int (u2), .int (u3), .int (u4), .int (u5)]), some (.tup [.int (E (0 + u0) - E 0), .int (E ((0 + u0) + u1) - E (0 + u0)), .int (E (((0 + u0) + u1) + u2) - E ((0 + u0) + u1)), .int (E ((((0 + u0) + u1) + u2) + u3) - E (((0 + u0) + u1) + u2)), .int (E (((((0 + u0) + u1) + u2) + u3) + u4) - E ((((0 + u0) + u1) + u2) + u3)), .int (E ((((((0 + u0) + u1) + u2) + u3) + u4) + u5) - E (((((0 + u0) + u1) + u2) + u3) + u4))]), some (.int 3), some (.tup [.int (u0), .int (u1), .int (u2), .int (u3 + u4), .int (u5)]), some (.tup [.int (E (0 + u0) - E 0), .int (E ((0 + u0) + u1) - E (0 + u0)), .int (E (((0 + u0) + u1) + u2) - E ((0 + u0) + u1)), .int (E ((((0 + u0) + u1) + u2) + (u3 + u4)) - E (((0 + u0) + u1) + u2)), .int (E (((((0 + u0) + u1) + u2) + (u3 + u4)) + u5) - E ((((0 + u0) + u1) + u2) + (u3 + u4)))]), some (.int (u3 / 2)), some (.tup [.int (E (0 + u0) - E 0), .int (E ((0 + u0) + u1) - E (0 + u0)), .int (E (((0 + u0) + u1) + u2) - E ((0 + u0) + u1)), .int (E ((((0 + u0) + u1) + u2) + (u3 / 2)) - E (((0 + u0) + u1) + u2)), .int (E (((((0 + u0) + u1) + u2) + (u3 / 2)) + (u3 - u3 / 2)) - E ((((0 + u0) + u1) + u2) + (u3 / 2))), .int (E ((((((0 + u0) + u1) + u2) + (u3 / 2)) + (u3 - u3 / 2)) + u4) - E (((((0 + u0) + u1) + u2) + (u3 / 2)) + (u3 - u3 / 2))), .int (E (((((((0 + u0) + u1) + u2) + (u3 / 2)) + (u3 - u3 / 2)) + u4) + u5) - E ((((((0 + u0) + u1) + u2) + (u3 / 2)) + (u3 - u3 / 2)) + u4))])] g = .ok (.tup [.int (E (0 + u0) - E 0), .int (E ((0 + u0) + u1) - E (0 + u0)), .int (E (((0 + u0) + u1) + u2) - E ((0 + u0) + u1))]) g := rfl
    have w2 : mSl (mVar 20) oNone (oSome (mVar 21)) [x0, x1, x2, x3, x4, x5, x6, x7, x8, x9, x10, x11, x12, x13, x14, x15, x16, some (.int sold), some sh, some (.tup [.int (u0), .int (u1), .int (u2), .int (u3), .int (u4), .int (u5)]), some (.tup [.int (E (0 + u0) - E 0), .int (E ((0 + u0) + u1) - E (0 + u0)), .int (E (((0 + u0) + u1) + u2) - E ((0 + u0) + u1)), .int (E ((((0 + u0) + u1) + u2) + u3) - E (((0 + u0) + u1) + u2)), .int (E (((((0 + u0) + u1) + u2) + u3) + u4) - E ((((0 + u0) + u1) + u2) + u3)), .int (E ((((((0 + u0) + u1) + u2) + u3) + u4) + u5) - E (((((0 + u0) + u1) + u2) + u3) + u4))]), some (.int 3), some (.tup [.int (u0), .int (u1), .int (u2), .int (u3 + u4), .int (u5)]), some (.tup [.int (E (0 + u0) - E 0), .int (E ((0 + u0) + u1) - E (0 + u0)), .int (E (((0 + u0) + u1) + u2) - E ((0 + u0) + u1)), .int (E ((((0 + u0) + u1) + u2) + (u3 + u4)) - E (((0 + u0) + u1) + u2)), .int (E (((((0 + u0) + u1) + u2) + (u3 + u4)) + u5) - E ((((0 + u0) + u1) + u2) + (u3 + u4)))]), some (.int (u3 / 2)), some (.tup [.int (E (0 + u0) - E 0), .int (E ((0 + u0) + u1) - E (0 + u0)), .int (E (((0 + u0) + u1) + u2) - E ((0 + u0) + u1)), .int (E ((((0 + u0) + u1) + u2) + (u3 / 2)) - E (((0 + u0) + u1) + u2)), .int (E (((((0 + u0) + u1) + u2) + (u3 / 2)) + (u3 - u3 / 2)) - E ((((0 + u0) + u1) + u2) + (u3 / 2))), .int (E ((((((0 + u0) + u1) + u2) + (u3 / 2)) + (u3 - u3 / 2)) + u4) - E (((((0 + u0) + u1) + u2) + (u3 / 2)) + (u3 - u3 / 2))), .int (E (((((((0 + u0) + u1) + u2) + (u3 / 2)) + (u3 - u3 / 2)) + u4) + u5) - E ((((((0 + u0) + u1) + u2) + (u3 / 2)) + (u3 - u3 / 2)) + u4))])] g = .ok (.tup [.int (E (0 + u0) - E 0), .int (E ((0 + u0) + u1) - E (0 + u0)), .int (E (((0 + u0) + u1) + u2) - E ((0 + u0) + u1))]) g := rfl
    rw [ev_op, w1, R.bind_ok, w2, R.bind_ok, show neD (.tup [.int (E (0 + u0) - E 0), .int (E ((0 + u0) + u1) - E (0 + u0)), .int (E (((0 + u0) + u1) + u2) - E ((0 + u0) + u1))]) (.tup [.int (E (0 + u0) - E 0), .int (E ((0 + u0) + u1) - E (0 + u0)), .int (E (((0 + u0) + u1) + u2) - E ((0 + u0) + u1))]) g = .ok (.bl false) g from vd_neT [E (0 + u0) - E 0, E ((0 + u0) + u1) - E (0 + u0), E (((0 + u0) + u1) + u2) - E ((0 + u0) + u1)] g]; rfl
  have dB : isB (mOp neD (mOp addD (mOp ixD (mVar 25) (mVar 21)) (mOp ixD (mVar 25) (mOp addD (mVar 21) (mC (.int 1))))) (mOp ixD (mVar 20) (mVar 21))) [x0, x1, x2, x3, x4, x5, x6, x7, x8, x9, x10, x11, x12, x13, x14, x15, x16, some (.int sold), some sh, some (.tup [.int (u0), .int (u1), .int (u2), .int (u3), .int (u4), .int (u5)]), some (.tup [.int (E (0 + u0) - E 0), .int (E ((0 + u0) + u1) - E (0 + u0)), .int (E (((0 + u0) + u1) + u2) - E ((0 + u0) + u1)), .int (E ((((0 + u0) + u1) + u2) + u3) - E (((0 + u0) + u1) + u2)), .int (E (((((0 + u0) + u1) + u2) + u3) + u4) - E ((((0 + u0) + u1) + u2) + u3)), .int (E ((((((0 + u0) + u1) + u2) + u3) + u4) + u5) - E (((((0 + u0) + u1) + u2) + u3) + u4))]), some (.int 3), some (.tup [.int (u0), .int (u1), .int (u2), .int (u3 + u4), .int (u5)]), some (.tup [.int (E (0 + u0) - E 0), .int (E ((0 + u0) + u1) - E (0 + u0)), .int (E (((0 + u0) + u1) + u2) - E ((0 + u0) + u1)), .int (E ((((0 + u0) + u1) + u2) + (u3 + u4)) - E (((0 + u0) + u1) + u2)), .int (E (((((0 + u0) + u1) + u2) + (u3 + u4)) + u5) - E ((((0 + u0) + u1) + u2) + (u3 + u4)))]), some (.int (u3 / 2)), some (.tup [.int (E (0 + u0) - E 0), .int (E ((0 + u0) + u1) - E (0 + u0)), .int (E (((0 + u0) + u1) + u2) - E ((0 + u0) + u1)), .int (E ((((0 + u0) + u1) + u2) + (u3 / 2)) - E (((0 + u0) + u1) + u2)), .int (E (((((0 + u0) + u1) + u2) + (u3 / 2)) + (u3 - u3 / 2)) - E ((((0 + u0) + u1) + u2) + (u3 / 2))), .int (E ((((((0 + u0) + u1) + u2) + (u3 / 2)) + (u3 - u3 / 2)) + u4) - E (((((0 + u0) + u1) + u2) + (u3 / 2)) + (u3 - u3 / 2))), .int (E (((((((0 + u0) + u1) + u2) + (u3 / 2)) + (u3 - u3 / 2)) + u4) + u5) - E ((((((0 + u0) + u1) + u2) + (u3 / 2)) + (u3 - u3 / 2)) + u4))])] g = .ok false g := by
    unfold isB
    have w1 : mOp addD (mOp ixD (mVar 25) (mVar 21)) (mOp ixD (mVar 25) (mOp addD (mVar 21) (mC (.int 1)))) [x0, x1, x2, x3, x4, x5, x6, x7, x8, x9, x10, x11, x12, x13, x14, x15, x16, some (.int sold), some sh, some (.tup [.int (u0), .int (u1), .int (u2), .int (u3), .int (u4), .int (u5)]), some (.tup [.int (E (0 + u0) - E 0), .int (E ((0 + u0) + u1) - E (0 + u0)), .int (E (((0 + u0) + u1) + u2) - E ((0 + u0) + u1)), .int (E ((((0 + u0) + u1) + u2) + u3) - E (((0 + u0) + u1) + u2)), .int (E (((((0 + u0) + u1) + u2) + u3) + u4) - E ((((0 + u0) + u1) + u2) + u3)), .int (E ((((((0 + u0) + u1) + u2) + u3) + u4) + u5) - E (((((0 + u0) + u1) + u2) + u3) + u4))]), some (.int 3), some (.tup [.int (u0), .int (u1), .int (u2), .int (u3 + u4), .int (u5)]), some (.tup [.int (E (0 + u0) - E 0), .int (E ((0 + u0) + u1) - E (0 + u0)), .int (E (((0 + u0) + u1) + u2) - E ((0 + u0) + u1)), .int (E ((((0 + u0) + u1) + u2) + (u3 + u4)) - E (((0 + u0) + u1) + u2)), .int (E (((((0 + u0) + u1) + u2) + (u3 + u4)) + u5) - E ((((0 + u0) + u1) + u2) + (u3 + u4)))]), some (.int (u3 / 2)), some (.tup [.int (E (0 + u0) - E 0), .int (E ((0 + u0) + u1) - E (0 + u0)), .int (E (((0 + u0) + u1) + u2) - E ((0 + u0) + u1)), .int (E ((((0 + u0) + u1) + u2) + (u3 / 2)) - E (((0 + u0) + u1) + u2)), .int (E (((((0 + u0) + u1) + u2) + (u3 / 2)) + (u3 - u3 / 2)) - E ((((0 + u0) + u1) + u2) + (u3 / 2))), .int (E ((((((0 + u0) + u1) + u2) + (u3 / 2)) + (u3 - u3 / 2)) + u4) - E (((((0 + u0) + u1) + u2) + (u3 / 2)) + (u3 - u3 / 2))), .int (E (((((((0 + u0) + u1) + u2) + (u3 / 2)) + (u3 - u3 / 2)) + u4) + u5) - E ((((((0 + u0) + u1) + u2) + (u3 / 2)) + (u3 - u3 / 2)) + u4))])] g = .ok (.int (E ((((0 + u0) + u1) + u2) + (u3 / 2)) - E (((0 + u0) + u1) + u2) + (E (((((0 + u0) + u1) + u2) + (u3 / 2)) + (u3 - u3 / 2)) - E ((((0 + u0) + u1) + u2) + (u3 / 2))))) g := rfl
    have w2 : mOp ixD (mVar 20) (mVar 21) [x0, x1, x2, x3, x4, x5, x6, x7, x8, x9, x10, x11, x12, x13, x14, x15, x16, some (.int sold), some sh, some (.tup [.int (u0), .int (u1), .int (u2), .int (u3), .int (u4), .int (u5)]), some (.tup [.int (E (0 + u0) - E 0), .int (E ((0 + u0) + u1) - E (0 + u0)), .int (E (((0 + u0) + u1) + u2) - E ((0 + u0) + u1)), .int (E ((((0 + u0) + u1) + u2) + u3) - E (((0 + u0) + u1) + u2)), .int (E (((((0 + u0) + u1) + u2) + u3) + u4) - E ((((0 + u0) + u1) + u2) + u3)), .int (E ((((((0 + u0) + u1) + u2) + u3) + u4) + u5) - E (((((0 + u0) + u1) + u2) + u3) + u4))]), some (.int 3), some (.tup [.int (u0), .int (u1), .int (u2), .int (u3 + u4), .int (u5)]), some (.tup [.int (E (0 + u0) - E 0), .int (E ((0 + u0) + u1) - E (0 + u0)), .int (E (((0 + u0) + u1) + u2) - E ((0 + u0) + u1)), .int (E ((((0 + u0) + u1) + u2) + (u3 + u4)) - E (((0 + u0) + u1) + u2)), .int (E (((((0 + u0) + u1) + u2) + (u3 + u4)) + u5) - E ((((0 + u0) + u1) + u2) + (u3 + u4)))]), some (.int (u3 / 2)), some (.tup [.int (E (0 + u0) - E 0), .int (E ((0 + u0) + u1) - E (0 + u0)), .int (E (((0 + u0) + u1) + u2) - E ((0 + u0) + u1)), .int (E ((((0 + u0) + u1) + u2) + (u3 / 2)) - E (((0 + u0) + u1) + u2)), .int (E (((((0 + u0) + u1) + u2) + (u3 / 2)) + (u3 - u3 / 2)) - E ((((0 + u0) + u1) + u2) + (u3 / 2))), .int (E ((((((0 + u0) + u1) + u2) + (u3 / 2)) + (u3 - u3 / 2)) + u4) - E (((((0 + u0) + u1) + u2) + (u3 / 2)) + (u3 - u3 / 2))), .int (E (((((((0 + u0) + u1) + u2) + (u3 / 2)) + (u3 - u3 / 2)) + u4) + u5) - E ((((((0 + u0) + u1) + u2) + (u3 / 2)) + (u3 - u3 / 2)) + u4))])] g = .ok (.int (E ((((0 + u0) + u1) + u2) + u3) - E (((0 + u0) + u1) + u2))) g := rfl
    rw [ev_op, w1, R.bind_ok, w2, R.bind_ok, vd_ne, hh]
    have : E ((((0 + u0) + u1) + u2) + (u3 / 2)) - E (((0 + u0) + u1) + u2) + (E ((((0 + u0) + u1) + u2) + u3) - E ((((0 + u0) + u1) + u2) + (u3 / 2))) = E ((((0 + u0) + u1) + u2) + u3) - E (((0 + u0) + u1) + u2) := by omega
    rw [decide_eq_true this]; rfl
  have dC : isB (mOp neD (mSl (mVar 25) (oSome (mOp addD (mVar 21) (mC (.int 2)))) oNone) (mSl (mVar 20) (oSome (mOp addD (mVar 21) (mC (.int 1)))) oNone)) [x0, x1, x2, x3, x4, x5, x6, x7, x8, x9, x10, x11, x12, x13, x14, x15, x16, some (.int sold), some sh, some (.tup [.int (u0), .int (u1), .int (u2), .int (u3), .int (u4), .int (u5)]), some (.tup [.int (E (0 + u0) - E 0), .int (E ((0 + u0) + u1) - E (0 + u0)), .int (E (((0 + u0) + u1) + u2) - E ((0 + u0) + u1)), .int (E ((((0 + u0) + u1) + u2) + u3) - E (((0 + u0) + u1) + u2)), .int (E (((((0 + u0) + u1) + u2) + u3) + u4) - E ((((0 + u0) + u1) + u2) + u3)), .int (E ((((((0 + u0) + u1) + u2) + u3) + u4) + u5) - E (((((0 + u0) + u1) + u2) + u3) + u4))]), some (.int 3), some (.tup [.int (u0), .int (u1), .int (u2), .int (u3 + u4), .int (u5)]), some (.tup [.int (E (0 + u0) - E 0), .int (E ((0 + u0) + u1) - E (0 + u0)), .int (E (((0 + u0) + u1) + u2) - E ((0 + u0) + u1)), .int (E ((((0 + u0) + u1) + u2) + (u3 + u4)) - E (((0 + u0) + u1) + u2)), .int (E (((((0 + u0) + u1) + u2) + (u3 + u4)) + u5) - E ((((0 + u0) + u1) + u2) + (u3 + u4)))]), some (.int (u3 / 2)), some (.tup [.int (E (0 + u0) - E 0), .int (E ((0 + u0) + u1) - E (0 + u0)), .int (E (((0 + u0) + u1) + u2) - E ((0 + u0) + u1)), .int (E ((((0 + u0) + u1) + u2) + (u3 / 2)) - E (((0 + u0) + u1) + u2)), .int (E (((((0 + u0) + u1) + u2) + (u3 / 2)) + (u3 - u3 / 2)) - E ((((0 + u0) + u1) + u2) + (u3 / 2))), .int (E ((((((0 + u0) + u1) + u2) + (u3 / 2)) + (u3 - u3 / 2)) + u4) - E (((((0 + u0) + u1) + u2) + (u3 / 2)) + (u3 - u3 / 2))), .int (E (((((((0 + u0) + u1) + u2) + (u3 / 2)) + (u3 - u3 / 2)) + u4) + u5) - E ((((((0 + u0) + u1) + u2) + (u3 / 2)) + (u3 - u3 / 2)) + u4))])] g = .ok false g := by
    unfold isB
    have w1 : mSl (mVar 25) (oSome (mOp addD (mVar 21) (mC (.int 2)))) oNone [x0, x1, x2, x3, x4, x5, x6, x7, x8, x9, x10, x11, x12, x13, x14, x15, x16, some (.int sold), some sh, some (.tup [.int (u0), .int (u1), .int (u2), .int (u3), .int (u4), .int (u5)]), some (.tup [.int (E (0 + u0) - E 0), .int (E ((0 + u0) + u1) - E (0 + u0)), .int (E (((0 + u0) + u1) + u2) - E ((0 + u0) + u1)), .int (E ((((0 + u0) + u1) + u2) + u3) - E (((0 + u0) + u1) + u2)), .int (E (((((0 + u0) + u1) + u2) + u3) + u4) - E ((((0 + u0) + u1) + u2) + u3)), .int (E ((((((0 + u0) + u1) + u2) + u3) + u4) + u5) - E (((((0 + u0) + u1) + u2) + u3) + u4))]), some (.int 3), some (.tup [.int (u0), .int (u1), .int (u2), .int (u3 + u4), .int (u5)]), some (.tup [.int (E (0 + u0) - E 0), .int (E ((0 + u0) + u1) - E (0 + u0)), .int (E (((0 + u0) + u1) + u2) - E ((0 + u0) + u1)), .int (E ((((0 + u0) + u1) + u2) + (u3 + u4)) - E (((0 + u0) + u1) + u2)), .int (E (((((0 + u0) + u1) + u2) + (u3 + u4)) + u5) - E ((((0 + u0) + u1) + u2) + (u3 + u4)))]), some (.int (u3 / 2)), some (.tup [.int (E (0 + u0) - E 0), .int (E ((0 + u0) + u1) - E (0 + u0)), .int (E (((0 + u0) + u1) + u2) - E ((0 + u0) + u1)), .int (E ((((0 + u0) + u1) + u2) + (u3 / 2)) - E (((0 + u0) + u1) + u2)), .int (E (((((0 + u0) + u1) + u2) + (u3 / 2)) + (u3 - u3 / 2)) - E ((((0 + u0) + u1) + u2) + (u3 / 2))), .int (E ((((((0 + u0) + u1) + u2) + (u3 / 2)) + (u3 - u3 / 2)) + u4) - E (((((0 + u0) + u1) + u2) + (u3 / 2)) + (u3 - u3 / 2))), .int (E (((((((0 + u0) + u1) + u2) + (u3 / 2)) + (u3 - u3 / 2)) + u4) + u5) - E ((((((0 + u0) + u1) + u2) + (u3 / 2)) + (u3 - u3 / 2)) + u4))])] g = .ok (.tup [.int (E ((((((0 + u0) + u1) + u2) + (u3 / 2)) + (u3 - u3 / 2)) + u4) - E (((((0 + u0) + u1) + u2) + (u3 / 2)) + (u3 - u3 / 2))), .int (E (((((((0 + u0) + u1) + u2) + (u3 / 2)) + (u3 - u3 / 2)) + u4) + u5) - E ((((((0 + u0) + u1) + u2) + (u3 / 2)) + (u3 - u3 / 2)) + u4))]) g := rfl
    have w2 : mSl (mVar 20) (oSome (mOp addD (mVar 21) (mC (.int 1)))) oNone [x0, x1, x2, x3, x4, x5, x6, x7, x8, x9, x10, x11, x12, x13, x14, x15, x16, some (.int sold), some sh, some (.tup [.int (u0), .int (u1), .int (u2), .int (u3), .int (u4), .int (u5)]), some (.tup [.int (E (0 + u0) - E 0), .int (E ((0 + u0) + u1) - E (0 + u0)), .int (E (((0 + u0) + u1) + u2) - E ((0 + u0) + u1)), .int (E ((((0 + u0) + u1) + u2) + u3) - E (((0 + u0) + u1) + u2)), .int (E (((((0 + u0) + u1) + u2) + u3) + u4) - E ((((0 + u0) + u1) + u2) + u3)), .int (E ((((((0 + u0) + u1) + u2) + u3) + u4) + u5) - E (((((0 + u0) + u1) + u2) + u3) + u4))]), some (.int 3), some (.tup [.int (u0), .int (u1), .int (u2), .int (u3 + u4), .int (u5)]), some (.tup [.int (E (0 + u0) - E 0), .int (E ((0 + u0) + u1) - E (0 + u0)), .int (E (((0 + u0) + u1) + u2) - E ((0 + u0) + u1)), .int (E ((((0 + u0) + u1) + u2) + (u3 + u4)) - E (((0 + u0) + u1) + u2)), .int (E (((((0 + u0) + u1) + u2) + (u3 + u4)) + u5) - E ((((0 + u0) + u1) + u2) + (u3 + u4)))]), some (.int (u3 / 2)), some (.tup [.int (E (0 + u0) - E 0), .int (E ((0 + u0) + u1) - E (0 + u0)), .int (E (((0 + u0) + u1) + u2) - E ((0 + u0) + u1)), .int (E ((((0 + u0) + u1) + u2) + (u3 / 2)) - E (((0 + u0) + u1) + u2)), .int (E (((((0 + u0) + u1) + u2) + (u3 / 2)) + (u3 - u3 / 2)) - E ((((0 + u0) + u1) + u2) + (u3 / 2))), .int (E ((((((0 + u0) + u1) + u2) + (u3 / 2)) + (u3 - u3 / 2)) + u4) - E (((((0 + u0) + u1) + u2) + (u3 / 2)) + (u3 - u3 / 2))), .int (E (((((((0 + u0) + u1) + u2) + (u3 / 2)) + (u3 - u3 / 2)) + u4) + u5) - E ((((((0 + u0) + u1) + u2) + (u3 / 2)) + (u3 - u3 / 2)) + u4))])] g = .ok (.tup [.int (E (((((0 + u0) + u1) + u2) + u3) + u4) - E ((((0 + u0) + u1) + u2) + u3)), .int (E ((((((0 + u0) + u1) + u2) + u3) + u4) + u5) - E (((((0 + u0) + u1) + u2) + u3) + u4))]) g := rfl
    rw [ev_op, w1, R.bind_ok, w2, R.bind_ok, hh, show neD (.tup [.int (E (((((0 + u0) + u1) + u2) + u3) + u4) - E ((((0 + u0) + u1) + u2) + u3)), .int (E ((((((0 + u0) + u1) + u2) + u3) + u4) + u5) - E (((((0 + u0) + u1) + u2) + u3) + u4))]) (.tup [.int (E (((((0 + u0) + u1) + u2) + u3) + u4) - E ((((0 + u0) + u1) + u2) + u3)), .int (E ((((((0 + u0) + u1) + u2) + u3) + u4) + u5) - E (((((0 + u0) + u1) + u2) + u3) + u4))]) g = .ok (.bl false) g from vd_neT [E (((((0 + u0) + u1) + u2) + u3) + u4) - E ((((0 + u0) + u1) + u2) + u3), E ((((((0 + u0) + u1) + u2) + u3) + u4) + u5) - E (((((0 + u0) + u1) + u2) + u3) + u4)] g]; rfl
  unfold t_law_28
  rw [ev_if, ev_tor, dA, R.bind_ok, if_neg Bool.false_ne_true, ev_tor, dB, R.bind_ok, if_neg Bool.false_ne_true, dC, R.go_ok, if_neg Bool.false_ne_true]
  rfl

theorem l6_4 {sold : Int} {sh : D} {E W : Int → Int} (hR : ∀ us : List Int, 1 ≤ us.length ∧ us.length ≤ 12 → (∀ u ∈ us, 0 ≤ u ∧ u ≤ 1000000) → ∀ g, m_recognised [.int sold, sh, .tup (us.map D.int)] g = .ok (.tup ((goE E 0 us).map D.int)) g)
    (hO : ∀ us : List Int, 1 ≤ us.length ∧ us.length ≤ 12 → (∀ u ∈ us, 0 ≤ u ∧ u ≤ 1000000) → ∀ g, m_still_owed [.int sold, sh, .tup (us.map D.int)] g = .ok (.int (W us.sum)) g)
    (u0 u1 u2 u3 u4 u5 : Int) (h0 : 0 ≤ u0 ∧ u0 ≤ 1000) (h1 : 0 ≤ u1 ∧ u1 ≤ 1000) (h2 : 0 ≤ u2 ∧ u2 ≤ 1000) (h3 : 0 ≤ u3 ∧ u3 ≤ 1000) (h4 : 0 ≤ u4 ∧ u4 ≤ 1000) (h5 : 0 ≤ u5 ∧ u5 ≤ 1000) (g : Gp) (x0 x1 x2 x3 x4 x5 x6 x7 x8 x9 x10 x11 x12 x13 x14 x15 x16 x22 x23 x24 x25 : Option D) :
    ∃ y22 y23 y24 y25 : Option D, l_law_6 [x0, x1, x2, x3, x4, x5, x6, x7, x8, x9, x10, x11, x12, x13, x14, x15, x16, some (.int sold), some sh, some (.tup [.int (u0), .int (u1), .int (u2), .int (u3), .int (u4), .int (u5)]), some (.tup [.int (E (0 + u0) - E 0), .int (E ((0 + u0) + u1) - E (0 + u0)), .int (E (((0 + u0) + u1) + u2) - E ((0 + u0) + u1)), .int (E ((((0 + u0) + u1) + u2) + u3) - E (((0 + u0) + u1) + u2)), .int (E (((((0 + u0) + u1) + u2) + u3) + u4) - E ((((0 + u0) + u1) + u2) + u3)), .int (E ((((((0 + u0) + u1) + u2) + u3) + u4) + u5) - E (((((0 + u0) + u1) + u2) + u3) + u4))]), some (.int 4), x22, x23, x24, x25] g = .nx [x0, x1, x2, x3, x4, x5, x6, x7, x8, x9, x10, x11, x12, x13, x14, x15, x16, some (.int sold), some sh, some (.tup [.int (u0), .int (u1), .int (u2), .int (u3), .int (u4), .int (u5)]), some (.tup [.int (E (0 + u0) - E 0), .int (E ((0 + u0) + u1) - E (0 + u0)), .int (E (((0 + u0) + u1) + u2) - E ((0 + u0) + u1)), .int (E ((((0 + u0) + u1) + u2) + u3) - E (((0 + u0) + u1) + u2)), .int (E (((((0 + u0) + u1) + u2) + u3) + u4) - E ((((0 + u0) + u1) + u2) + u3)), .int (E ((((((0 + u0) + u1) + u2) + u3) + u4) + u5) - E (((((0 + u0) + u1) + u2) + u3) + u4))]), some (.int 4), y22, y23, y24, y25] g := by
  have bJ : ∀ u ∈ ([u0, u1, u2, u3, u4 + u5] : List Int), 0 ≤ u ∧ u ≤ 1000000 := by
    simp only [List.forall_mem_cons, List.not_mem_nil, false_implies, implies_true, and_true]; omega
  have bC : ∀ u ∈ ([u0, u1, u2, u3, u4 / 2, u4 - u4 / 2, u5] : List Int), 0 ≤ u ∧ u ≤ 1000000 := by
    simp only [List.forall_mem_cons, List.not_mem_nil, false_implies, implies_true, and_true]; omega
  have bU : ∀ u ∈ ([u0, u1, u2, u3, u4, u5] : List Int), 0 ≤ u ∧ u ≤ 1000000 := by
    simp only [List.forall_mem_cons, List.not_mem_nil, false_implies, implies_true, and_true]; omega
  have rJ : m_recognised [.int sold, sh, .tup [.int (u0), .int (u1), .int (u2), .int (u3), .int (u4 + u5)]] g = .ok (.tup [.int (E (0 + u0) - E 0), .int (E ((0 + u0) + u1) - E (0 + u0)), .int (E (((0 + u0) + u1) + u2) - E ((0 + u0) + u1)), .int (E ((((0 + u0) + u1) + u2) + u3) - E (((0 + u0) + u1) + u2)), .int (E (((((0 + u0) + u1) + u2) + u3) + (u4 + u5)) - E ((((0 + u0) + u1) + u2) + u3))]) g := hR [u0, u1, u2, u3, u4 + u5] ⟨by simp, by simp⟩ bJ g
  have rC : m_recognised [.int sold, sh, .tup [.int (u0), .int (u1), .int (u2), .int (u3), .int (u4 / 2), .int (u4 - u4 / 2), .int (u5)]] g = .ok (.tup [.int (E (0 + u0) - E 0), .int (E ((0 + u0) + u1) - E (0 + u0)), .int (E (((0 + u0) + u1) + u2) - E ((0 + u0) + u1)), .int (E ((((0 + u0) + u1) + u2) + u3) - E (((0 + u0) + u1) + u2)), .int (E (((((0 + u0) + u1) + u2) + u3) + (u4 / 2)) - E ((((0 + u0) + u1) + u2) + u3)), .int (E ((((((0 + u0) + u1) + u2) + u3) + (u4 / 2)) + (u4 - u4 / 2)) - E (((((0 + u0) + u1) + u2) + u3) + (u4 / 2))), .int (E (((((((0 + u0) + u1) + u2) + u3) + (u4 / 2)) + (u4 - u4 / 2)) + u5) - E ((((((0 + u0) + u1) + u2) + u3) + (u4 / 2)) + (u4 - u4 / 2)))]) g := hR [u0, u1, u2, u3, u4 / 2, u4 - u4 / 2, u5] ⟨by simp, by simp⟩ bC g
  have oJ : m_still_owed [.int sold, sh, .tup [.int (u0), .int (u1), .int (u2), .int (u3), .int (u4 + u5)]] g = .ok (.int (W ([u0, u1, u2, u3, u4, u5] : List Int).sum)) g := by
    have : ([u0, u1, u2, u3, u4 + u5] : List Int).sum = ([u0, u1, u2, u3, u4, u5] : List Int).sum := by simp only [List.sum_cons, List.sum_nil]; omega
    rw [← this]; exact hO [u0, u1, u2, u3, u4 + u5] ⟨by simp, by simp⟩ bJ g
  have oU : m_still_owed [.int sold, sh, .tup [.int (u0), .int (u1), .int (u2), .int (u3), .int (u4), .int (u5)]] g = .ok (.int (W ([u0, u1, u2, u3, u4, u5] : List Int).sum)) g := hO [u0, u1, u2, u3, u4, u5] ⟨by simp, by simp⟩ bU g
  have eJ : ([E (0 + u0) - E 0, E ((0 + u0) + u1) - E (0 + u0), E (((0 + u0) + u1) + u2) - E ((0 + u0) + u1), E ((((0 + u0) + u1) + u2) + u3) - E (((0 + u0) + u1) + u2), E (((((0 + u0) + u1) + u2) + u3) + (u4 + u5)) - E ((((0 + u0) + u1) + u2) + u3)] : List Int) = [E (0 + u0) - E 0, E ((0 + u0) + u1) - E (0 + u0), E (((0 + u0) + u1) + u2) - E ((0 + u0) + u1), E ((((0 + u0) + u1) + u2) + u3) - E (((0 + u0) + u1) + u2), E (((((0 + u0) + u1) + u2) + u3) + u4) - E ((((0 + u0) + u1) + u2) + u3) + (E ((((((0 + u0) + u1) + u2) + u3) + u4) + u5) - E (((((0 + u0) + u1) + u2) + u3) + u4))] := by
    simp only [Int.add_assoc, List.cons.injEq, and_true, true_and]; omega
  have e22 : (mOp addD (mOp addD (mSl (mVar 19) oNone (oSome (mVar 21))) (mTup (mCons (mOp addD (mOp ixD (mVar 19) (mVar 21)) (mOp ixD (mVar 19) (mOp addD (mVar 21) (mC (.int 1))))) mNil))) (mSl (mVar 19) (oSome (mOp addD (mVar 21) (mC (.int 2)))) oNone)) [x0, x1, x2, x3, x4, x5, x6, x7, x8, x9, x10, x11, x12, x13, x14, x15, x16, some (.int sold), some sh, some (.tup [.int (u0), .int (u1), .int (u2), .int (u3), .int (u4), .int (u5)]), some (.tup [.int (E (0 + u0) - E 0), .int (E ((0 + u0) + u1) - E (0 + u0)), .int (E (((0 + u0) + u1) + u2) - E ((0 + u0) + u1)), .int (E ((((0 + u0) + u1) + u2) + u3) - E (((0 + u0) + u1) + u2)), .int (E (((((0 + u0) + u1) + u2) + u3) + u4) - E ((((0 + u0) + u1) + u2) + u3)), .int (E ((((((0 + u0) + u1) + u2) + u3) + u4) + u5) - E (((((0 + u0) + u1) + u2) + u3) + u4))]), some (.int 4), x22, x23, x24, x25] g = .ok (.tup [.int (u0), .int (u1), .int (u2), .int (u3), .int (u4 + u5)]) g := rfl
  have e23 : (mOp addD (mOp addD (mSl (mVar 20) oNone (oSome (mVar 21))) (mTup (mCons (mOp addD (mOp ixD (mVar 20) (mVar 21)) (mOp ixD (mVar 20) (mOp addD (mVar 21) (mC (.int 1))))) mNil))) (mSl (mVar 20) (oSome (mOp addD (mVar 21) (mC (.int 2)))) oNone)) [x0, x1, x2, x3, x4, x5, x6, x7, x8, x9, x10, x11, x12, x13, x14, x15, x16, some (.int sold), some sh, some (.tup [.int (u0), .int (u1), .int (u2), .int (u3), .int (u4), .int (u5)]), some (.tup [.int (E (0 + u0) - E 0), .int (E ((0 + u0) + u1) - E (0 + u0)), .int (E (((0 + u0) + u1) + u2) - E ((0 + u0) + u1)), .int (E ((((0 + u0) + u1) + u2) + u3) - E (((0 + u0) + u1) + u2)), .int (E (((((0 + u0) + u1) + u2) + u3) + u4) - E ((((0 + u0) + u1) + u2) + u3)), .int (E ((((((0 + u0) + u1) + u2) + u3) + u4) + u5) - E (((((0 + u0) + u1) + u2) + u3) + u4))]), some (.int 4), some (.tup [.int (u0), .int (u1), .int (u2), .int (u3), .int (u4 + u5)]), some (.tup [.int (E (0 + u0) - E 0), .int (E ((0 + u0) + u1) - E (0 + u0)), .int (E (((0 + u0) + u1) + u2) - E ((0 + u0) + u1)), .int (E ((((0 + u0) + u1) + u2) + u3) - E (((0 + u0) + u1) + u2)), .int (E (((((0 + u0) + u1) + u2) + u3) + (u4 + u5)) - E ((((0 + u0) + u1) + u2) + u3))]), x24, x25] g = .ok (.tup [.int (E (0 + u0) - E 0), .int (E ((0 + u0) + u1) - E (0 + u0)), .int (E (((0 + u0) + u1) + u2) - E ((0 + u0) + u1)), .int (E ((((0 + u0) + u1) + u2) + u3) - E (((0 + u0) + u1) + u2)), .int (E (((((0 + u0) + u1) + u2) + u3) + u4) - E ((((0 + u0) + u1) + u2) + u3) + (E ((((((0 + u0) + u1) + u2) + u3) + u4) + u5) - E (((((0 + u0) + u1) + u2) + u3) + u4)))]) g := rfl
  have n23 : neD (.tup [.int (E (0 + u0) - E 0), .int (E ((0 + u0) + u1) - E (0 + u0)), .int (E (((0 + u0) + u1) + u2) - E ((0 + u0) + u1)), .int (E ((((0 + u0) + u1) + u2) + u3) - E (((0 + u0) + u1) + u2)), .int (E (((((0 + u0) + u1) + u2) + u3) + (u4 + u5)) - E ((((0 + u0) + u1) + u2) + u3))]) (.tup [.int (E (0 + u0) - E 0), .int (E ((0 + u0) + u1) - E (0 + u0)), .int (E (((0 + u0) + u1) + u2) - E ((0 + u0) + u1)), .int (E ((((0 + u0) + u1) + u2) + u3) - E (((0 + u0) + u1) + u2)), .int (E (((((0 + u0) + u1) + u2) + u3) + u4) - E ((((0 + u0) + u1) + u2) + u3) + (E ((((((0 + u0) + u1) + u2) + u3) + u4) + u5) - E (((((0 + u0) + u1) + u2) + u3) + u4)))]) g = .ok (.bl false) g := by
    have := vd_neT [E (0 + u0) - E 0, E ((0 + u0) + u1) - E (0 + u0), E (((0 + u0) + u1) + u2) - E ((0 + u0) + u1), E ((((0 + u0) + u1) + u2) + u3) - E (((0 + u0) + u1) + u2), E (((((0 + u0) + u1) + u2) + u3) + (u4 + u5)) - E ((((0 + u0) + u1) + u2) + u3)] g
    rw [show (neD (.tup [.int (E (0 + u0) - E 0), .int (E ((0 + u0) + u1) - E (0 + u0)), .int (E (((0 + u0) + u1) + u2) - E ((0 + u0) + u1)), .int (E ((((0 + u0) + u1) + u2) + u3) - E (((0 + u0) + u1) + u2)), .int (E (((((0 + u0) + u1) + u2) + u3) + (u4 + u5)) - E ((((0 + u0) + u1) + u2) + u3))]) (.tup [.int (E (0 + u0) - E 0), .int (E ((0 + u0) + u1) - E (0 + u0)), .int (E (((0 + u0) + u1) + u2) - E ((0 + u0) + u1)), .int (E ((((0 + u0) + u1) + u2) + u3) - E (((0 + u0) + u1) + u2)), .int (E (((((0 + u0) + u1) + u2) + u3) + u4) - E ((((0 + u0) + u1) + u2) + u3) + (E ((((((0 + u0) + u1) + u2) + u3) + u4) + u5) - E (((((0 + u0) + u1) + u2) + u3) + u4)))]) g) = neD (.tup (([E (0 + u0) - E 0, E ((0 + u0) + u1) - E (0 + u0), E (((0 + u0) + u1) + u2) - E ((0 + u0) + u1), E ((((0 + u0) + u1) + u2) + u3) - E (((0 + u0) + u1) + u2), E (((((0 + u0) + u1) + u2) + u3) + (u4 + u5)) - E ((((0 + u0) + u1) + u2) + u3)] : List Int).map D.int)) (.tup (([E (0 + u0) - E 0, E ((0 + u0) + u1) - E (0 + u0), E (((0 + u0) + u1) + u2) - E ((0 + u0) + u1), E ((((0 + u0) + u1) + u2) + u3) - E (((0 + u0) + u1) + u2), E (((((0 + u0) + u1) + u2) + u3) + u4) - E ((((0 + u0) + u1) + u2) + u3) + (E ((((((0 + u0) + u1) + u2) + u3) + u4) + u5) - E (((((0 + u0) + u1) + u2) + u3) + u4))] : List Int).map D.int)) g from rfl, ← eJ]; exact this
  have e25 : (mOp addD (mOp addD (mSl (mVar 19) oNone (oSome (mVar 21))) (mTup (mCons (mVar 24) (mCons (mOp subD (mOp ixD (mVar 19) (mVar 21)) (mVar 24)) mNil)))) (mSl (mVar 19) (oSome (mOp addD (mVar 21) (mC (.int 1)))) oNone)) [x0, x1, x2, x3, x4, x5, x6, x7, x8, x9, x10, x11, x12, x13, x14, x15, x16, some (.int sold), some sh, some (.tup [.int (u0), .int (u1), .int (u2), .int (u3), .int (u4), .int (u5)]), some (.tup [.int (E (0 + u0) - E 0), .int (E ((0 + u0) + u1) - E (0 + u0)), .int (E (((0 + u0) + u1) + u2) - E ((0 + u0) + u1)), .int (E ((((0 + u0) + u1) + u2) + u3) - E (((0 + u0) + u1) + u2)), .int (E (((((0 + u0) + u1) + u2) + u3) + u4) - E ((((0 + u0) + u1) + u2) + u3)), .int (E ((((((0 + u0) + u1) + u2) + u3) + u4) + u5) - E (((((0 + u0) + u1) + u2) + u3) + u4))]), some (.int 4), some (.tup [.int (u0), .int (u1), .int (u2), .int (u3), .int (u4 + u5)]), some (.tup [.int (E (0 + u0) - E 0), .int (E ((0 + u0) + u1) - E (0 + u0)), .int (E (((0 + u0) + u1) + u2) - E ((0 + u0) + u1)), .int (E ((((0 + u0) + u1) + u2) + u3) - E (((0 + u0) + u1) + u2)), .int (E (((((0 + u0) + u1) + u2) + u3) + (u4 + u5)) - E ((((0 + u0) + u1) + u2) + u3))]), some (.int (u4 / 2)), x25] g = .ok (.tup [.int (u0), .int (u1), .int (u2), .int (u3), .int (u4 / 2), .int (u4 - u4 / 2), .int (u5)]) g := rfl
  refine ⟨some (.tup [.int (u0), .int (u1), .int (u2), .int (u3), .int (u4 + u5)]), some (.tup [.int (E (0 + u0) - E 0), .int (E ((0 + u0) + u1) - E (0 + u0)), .int (E (((0 + u0) + u1) + u2) - E ((0 + u0) + u1)), .int (E ((((0 + u0) + u1) + u2) + u3) - E (((0 + u0) + u1) + u2)), .int (E (((((0 + u0) + u1) + u2) + u3) + (u4 + u5)) - E ((((0 + u0) + u1) + u2) + u3))]), some (.int (u4 / 2)), some (.tup [.int (E (0 + u0) - E 0), .int (E ((0 + u0) + u1) - E (0 + u0)), .int (E (((0 + u0) + u1) + u2) - E ((0 + u0) + u1)), .int (E ((((0 + u0) + u1) + u2) + u3) - E (((0 + u0) + u1) + u2)), .int (E (((((0 + u0) + u1) + u2) + u3) + (u4 / 2)) - E ((((0 + u0) + u1) + u2) + u3)), .int (E ((((((0 + u0) + u1) + u2) + u3) + (u4 / 2)) + (u4 - u4 / 2)) - E (((((0 + u0) + u1) + u2) + u3) + (u4 / 2))), .int (E (((((((0 + u0) + u1) + u2) + u3) + (u4 / 2)) + (u4 - u4 / 2)) + u5) - E ((((((0 + u0) + u1) + u2) + u3) + (u4 / 2)) + (u4 - u4 / 2)))]), ?_⟩
  have s22 : l_law_6 [x0, x1, x2, x3, x4, x5, x6, x7, x8, x9, x10, x11, x12, x13, x14, x15, x16, some (.int sold), some sh, some (.tup [.int (u0), .int (u1), .int (u2), .int (u3), .int (u4), .int (u5)]), some (.tup [.int (E (0 + u0) - E 0), .int (E ((0 + u0) + u1) - E (0 + u0)), .int (E (((0 + u0) + u1) + u2) - E ((0 + u0) + u1)), .int (E ((((0 + u0) + u1) + u2) + u3) - E (((0 + u0) + u1) + u2)), .int (E (((((0 + u0) + u1) + u2) + u3) + u4) - E ((((0 + u0) + u1) + u2) + u3)), .int (E ((((((0 + u0) + u1) + u2) + u3) + u4) + u5) - E (((((0 + u0) + u1) + u2) + u3) + u4))]), some (.int 4), x22, x23, x24, x25] g = t_law_24 [x0, x1, x2, x3, x4, x5, x6, x7, x8, x9, x10, x11, x12, x13, x14, x15, x16, some (.int sold), some sh, some (.tup [.int (u0), .int (u1), .int (u2), .int (u3), .int (u4), .int (u5)]), some (.tup [.int (E (0 + u0) - E 0), .int (E ((0 + u0) + u1) - E (0 + u0)), .int (E (((0 + u0) + u1) + u2) - E ((0 + u0) + u1)), .int (E ((((0 + u0) + u1) + u2) + u3) - E (((0 + u0) + u1) + u2)), .int (E (((((0 + u0) + u1) + u2) + u3) + u4) - E ((((0 + u0) + u1) + u2) + u3)), .int (E ((((((0 + u0) + u1) + u2) + u3) + u4) + u5) - E (((((0 + u0) + u1) + u2) + u3) + u4))]), some (.int 4), some (.tup [.int (u0), .int (u1), .int (u2), .int (u3), .int (u4 + u5)]), x23, x24, x25] g := by
    unfold l_law_6
    rw [ev_seq, ev_set, e22]; rfl
  have s23 : t_law_24 [x0, x1, x2, x3, x4, x5, x6, x7, x8, x9, x10, x11, x12, x13, x14, x15, x16, some (.int sold), some sh, some (.tup [.int (u0), .int (u1), .int (u2), .int (u3), .int (u4), .int (u5)]), some (.tup [.int (E (0 + u0) - E 0), .int (E ((0 + u0) + u1) - E (0 + u0)), .int (E (((0 + u0) + u1) + u2) - E ((0 + u0) + u1)), .int (E ((((0 + u0) + u1) + u2) + u3) - E (((0 + u0) + u1) + u2)), .int (E (((((0 + u0) + u1) + u2) + u3) + u4) - E ((((0 + u0) + u1) + u2) + u3)), .int (E ((((((0 + u0) + u1) + u2) + u3) + u4) + u5) - E (((((0 + u0) + u1) + u2) + u3) + u4))]), some (.int 4), some (.tup [.int (u0), .int (u1), .int (u2), .int (u3), .int (u4 + u5)]), x23, x24, x25] g = t_law_25 [x0, x1, x2, x3, x4, x5, x6, x7, x8, x9, x10, x11, x12, x13, x14, x15, x16, some (.int sold), some sh, some (.tup [.int (u0), .int (u1), .int (u2), .int (u3), .int (u4), .int (u5)]), some (.tup [.int (E (0 + u0) - E 0), .int (E ((0 + u0) + u1) - E (0 + u0)), .int (E (((0 + u0) + u1) + u2) - E ((0 + u0) + u1)), .int (E ((((0 + u0) + u1) + u2) + u3) - E (((0 + u0) + u1) + u2)), .int (E (((((0 + u0) + u1) + u2) + u3) + u4) - E ((((0 + u0) + u1) + u2) + u3)), .int (E ((((((0 + u0) + u1) + u2) + u3) + u4) + u5) - E (((((0 + u0) + u1) + u2) + u3) + u4))]), some (.int 4), some (.tup [.int (u0), .int (u1), .int (u2), .int (u3), .int (u4 + u5)]), some (.tup [.int (E (0 + u0) - E 0), .int (E ((0 + u0) + u1) - E (0 + u0)), .int (E (((0 + u0) + u1) + u2) - E ((0 + u0) + u1)), .int (E ((((0 + u0) + u1) + u2) + u3) - E (((0 + u0) + u1) + u2)), .int (E (((((0 + u0) + u1) + u2) + u3) + (u4 + u5)) - E ((((0 + u0) + u1) + u2) + u3))]), x24, x25] g := by
    unfold t_law_24
    rw [ev_seq, ev_set, ev_call]
    show ((m_recognised [.int sold, sh, .tup [.int (u0), .int (u1), .int (u2), .int (u3), .int (u4 + u5)]] g).go _).then _ = _
    rw [rJ]; rfl
  have s24 : t_law_25 [x0, x1, x2, x3, x4, x5, x6, x7, x8, x9, x10, x11, x12, x13, x14, x15, x16, some (.int sold), some sh, some (.tup [.int (u0), .int (u1), .int (u2), .int (u3), .int (u4), .int (u5)]), some (.tup [.int (E (0 + u0) - E 0), .int (E ((0 + u0) + u1) - E (0 + u0)), .int (E (((0 + u0) + u1) + u2) - E ((0 + u0) + u1)), .int (E ((((0 + u0) + u1) + u2) + u3) - E (((0 + u0) + u1) + u2)), .int (E (((((0 + u0) + u1) + u2) + u3) + u4) - E ((((0 + u0) + u1) + u2) + u3)), .int (E ((((((0 + u0) + u1) + u2) + u3) + u4) + u5) - E (((((0 + u0) + u1) + u2) + u3) + u4))]), some (.int 4), some (.tup [.int (u0), .int (u1), .int (u2), .int (u3), .int (u4 + u5)]), some (.tup [.int (E (0 + u0) - E 0), .int (E ((0 + u0) + u1) - E (0 + u0)), .int (E (((0 + u0) + u1) + u2) - E ((0 + u0) + u1)), .int (E ((((0 + u0) + u1) + u2) + u3) - E (((0 + u0) + u1) + u2)), .int (E (((((0 + u0) + u1) + u2) + u3) + (u4 + u5)) - E ((((0 + u0) + u1) + u2) + u3))]), x24, x25] g = t_law_27 [x0, x1, x2, x3, x4, x5, x6, x7, x8, x9, x10, x11, x12, x13, x14, x15, x16, some (.int sold), some sh, some (.tup [.int (u0), .int (u1), .int (u2), .int (u3), .int (u4), .int (u5)]), some (.tup [.int (E (0 + u0) - E 0), .int (E ((0 + u0) + u1) - E (0 + u0)), .int (E (((0 + u0) + u1) + u2) - E ((0 + u0) + u1)), .int (E ((((0 + u0) + u1) + u2) + u3) - E (((0 + u0) + u1) + u2)), .int (E (((((0 + u0) + u1) + u2) + u3) + u4) - E ((((0 + u0) + u1) + u2) + u3)), .int (E ((((((0 + u0) + u1) + u2) + u3) + u4) + u5) - E (((((0 + u0) + u1) + u2) + u3) + u4))]), some (.int 4), some (.tup [.int (u0), .int (u1), .int (u2), .int (u3), .int (u4 + u5)]), some (.tup [.int (E (0 + u0) - E 0), .int (E ((0 + u0) + u1) - E (0 + u0)), .int (E (((0 + u0) + u1) + u2) - E ((0 + u0) + u1)), .int (E ((((0 + u0) + u1) + u2) + u3) - E (((0 + u0) + u1) + u2)), .int (E (((((0 + u0) + u1) + u2) + u3) + (u4 + u5)) - E ((((0 + u0) + u1) + u2) + u3))]), some (.int (u4 / 2)), x25] g := by
    unfold t_law_25
    rw [ev_seq, ev_if, ev_tor]
    have c1 : isB (mOp neD (mVar 23) (mOp addD (mOp addD (mSl (mVar 20) oNone (oSome (mVar 21))) (mTup (mCons (mOp addD (mOp ixD (mVar 20) (mVar 21)) (mOp ixD (mVar 20) (mOp addD (mVar 21) (mC (.int 1))))) mNil))) (mSl (mVar 20) (oSome (mOp addD (mVar 21) (mC (.int 2)))) oNone))) [x0, x1, x2, x3, x4, x5, x6, x7, x8, x9, x10, x11, x12, x13, x14, x15, x16, some (.int sold), some sh, some (.tup [.int (u0), .int (u1), .int (u2), .int (u3), .int (u4), .int (u5)]), some (.tup [.int (E (0 + u0) - E 0), .int (E ((0 + u0) + u1) - E (0 + u0)), .int (E (((0 + u0) + u1) + u2) - E ((0 + u0) + u1)), .int (E ((((0 + u0) + u1) + u2) + u3) - E (((0 + u0) + u1) + u2)), .int (E (((((0 + u0) + u1) + u2) + u3) + u4) - E ((((0 + u0) + u1) + u2) + u3)), .int (E ((((((0 + u0) + u1) + u2) + u3) + u4) + u5) - E (((((0 + u0) + u1) + u2) + u3) + u4))]), some (.int 4), some (.tup [.int (u0), .int (u1), .int (u2), .int (u3), .int (u4 + u5)]), some (.tup [.int (E (0 + u0) - E 0), .int (E ((0 + u0) + u1) - E (0 + u0)), .int (E (((0 + u0) + u1) + u2) - E ((0 + u0) + u1)), .int (E ((((0 + u0) + u1) + u2) + u3) - E (((0 + u0) + u1) + u2)), .int (E (((((0 + u0) + u1) + u2) + u3) + (u4 + u5)) - E ((((0 + u0) + u1) + u2) + u3))]), x24, x25] g = .ok false g := by
      unfold isB
      have v23 : mVar 23 [x0, x1, x2, x3, x4, x5, x6, x7, x8, x9, x10, x11, x12, x13, x14, x15, x16, some (.int sold), some sh, some (.tup [.int (u0), .int (u1), .int (u2), .int (u3), .int (u4), .int (u5)]), some (.tup [.int (E (0 + u0) - E 0), .int (E ((0 + u0) + u1) - E (0 + u0)), .int (E (((0 + u0) + u1) + u2) - E ((0 + u0) + u1)), .int (E ((((0 + u0) + u1) + u2) + u3) - E (((0 + u0) + u1) + u2)), .int (E (((((0 + u0) + u1) + u2) + u3) + u4) - E ((((0 + u0) + u1) + u2) + u3)), .int (E ((((((0 + u0) + u1) + u2) + u3) + u4) + u5) - E (((((0 + u0) + u1) + u2) + u3) + u4))]), some (.int 4), some (.tup [.int (u0), .int (u1), .int (u2), .int (u3), .int (u4 + u5)]), some (.tup [.int (E (0 + u0) - E 0), .int (E ((0 + u0) + u1) - E (0 + u0)), .int (E (((0 + u0) + u1) + u2) - E ((0 + u0) + u1)), .int (E ((((0 + u0) + u1) + u2) + u3) - E (((0 + u0) + u1) + u2)), .int (E (((((0 + u0) + u1) + u2) + u3) + (u4 + u5)) - E ((((0 + u0) + u1) + u2) + u3))]), x24, x25] g = .ok (.tup [.int (E (0 + u0) - E 0), .int (E ((0 + u0) + u1) - E (0 + u0)), .int (E (((0 + u0) + u1) + u2) - E ((0 + u0) + u1)), .int (E ((((0 + u0) + u1) + u2) + u3) - E (((0 + u0) + u1) + u2)), .int (E (((((0 + u0) + u1) + u2) + u3) + (u4 + u5)) - E ((((0 + u0) + u1) + u2) + u3))]) g := rfl
      rw [ev_op, v23, R.bind_ok, e23, R.bind_ok, n23]; rfl
    rw [c1, R.bind_ok]
    have c2 : isB (mOp neD (mCall m_still_owed (mCons (mVar 17) (mCons (mVar 18) (mCons (mVar 22) mNil)))) (mCall m_still_owed (mCons (mVar 17) (mCons (mVar 18) (mCons (mVar 19) mNil))))) [x0, x1, x2, x3, x4, x5, x6, x7, x8, x9, x10, x11, x12, x13, x14, x15, x16, some (.int sold), some sh, some (.tup [.int (u0), .int (u1), .int (u2), .int (u3), .int (u4), .int (u5)]), some (.tup [.int (E (0 + u0) - E 0), .int (E ((0 + u0) + u1) - E (0 + u0)), .int (E (((0 + u0) + u1) + u2) - E ((0 + u0) + u1)), .int (E ((((0 + u0) + u1) + u2) + u3) - E (((0 + u0) + u1) + u2)), .int (E (((((0 + u0) + u1) + u2) + u3) + u4) - E ((((0 + u0) + u1) + u2) + u3)), .int (E ((((((0 + u0) + u1) + u2) + u3) + u4) + u5) - E (((((0 + u0) + u1) + u2) + u3) + u4))]), some (.int 4), some (.tup [.int (u0), .int (u1), .int (u2), .int (u3), .int (u4 + u5)]), some (.tup [.int (E (0 + u0) - E 0), .int (E ((0 + u0) + u1) - E (0 + u0)), .int (E (((0 + u0) + u1) + u2) - E ((0 + u0) + u1)), .int (E ((((0 + u0) + u1) + u2) + u3) - E (((0 + u0) + u1) + u2)), .int (E (((((0 + u0) + u1) + u2) + u3) + (u4 + u5)) - E ((((0 + u0) + u1) + u2) + u3))]), x24, x25] g = .ok false g := by
      unfold isB
      rw [ev_op, ev_call]
      show (((m_still_owed [.int sold, sh, .tup [.int (u0), .int (u1), .int (u2), .int (u3), .int (u4 + u5)]] g).bind fun x g1 => (m_still_owed [.int sold, sh, .tup [.int (u0), .int (u1), .int (u2), .int (u3), .int (u4), .int (u5)]] g1).bind fun y g2 => neD x y g2).bind _) = _
      rw [oJ, R.bind_ok, oU, R.bind_ok, vd_ne]
      simp only [decide_true, Bool.not_true]; rfl
    rw [if_neg Bool.false_ne_true, c2]
    rfl
  have s25 : t_law_27 [x0, x1, x2, x3, x4, x5, x6, x7, x8, x9, x10, x11, x12, x13, x14, x15, x16, some (.int sold), some sh, some (.tup [.int (u0), .int (u1), .int (u2), .int (u3), .int (u4), .int (u5)]), some (.tup [.int (E (0 + u0) - E 0), .int (E ((0 + u0) + u1) - E (0 + u0)), .int (E (((0 + u0) + u1) + u2) - E ((0 + u0) + u1)), .int (E ((((0 + u0) + u1) + u2) + u3) - E (((0 + u0) + u1) + u2)), .int (E (((((0 + u0) + u1) + u2) + u3) + u4) - E ((((0 + u0) + u1) + u2) + u3)), .int (E ((((((0 + u0) + u1) + u2) + u3) + u4) + u5) - E (((((0 + u0) + u1) + u2) + u3) + u4))]), some (.int 4), some (.tup [.int (u0), .int (u1), .int (u2), .int (u3), .int (u4 + u5)]), some (.tup [.int (E (0 + u0) - E 0), .int (E ((0 + u0) + u1) - E (0 + u0)), .int (E (((0 + u0) + u1) + u2) - E ((0 + u0) + u1)), .int (E ((((0 + u0) + u1) + u2) + u3) - E (((0 + u0) + u1) + u2)), .int (E (((((0 + u0) + u1) + u2) + u3) + (u4 + u5)) - E ((((0 + u0) + u1) + u2) + u3))]), some (.int (u4 / 2)), x25] g = t_law_28 [x0, x1, x2, x3, x4, x5, x6, x7, x8, x9, x10, x11, x12, x13, x14, x15, x16, some (.int sold), some sh, some (.tup [.int (u0), .int (u1), .int (u2), .int (u3), .int (u4), .int (u5)]), some (.tup [.int (E (0 + u0) - E 0), .int (E ((0 + u0) + u1) - E (0 + u0)), .int (E (((0 + u0) + u1) + u2) - E ((0 + u0) + u1)), .int (E ((((0 + u0) + u1) + u2) + u3) - E (((0 + u0) + u1) + u2)), .int (E (((((0 + u0) + u1) + u2) + u3) + u4) - E ((((0 + u0) + u1) + u2) + u3)), .int (E ((((((0 + u0) + u1) + u2) + u3) + u4) + u5) - E (((((0 + u0) + u1) + u2) + u3) + u4))]), some (.int 4), some (.tup [.int (u0), .int (u1), .int (u2), .int (u3), .int (u4 + u5)]), some (.tup [.int (E (0 + u0) - E 0), .int (E ((0 + u0) + u1) - E (0 + u0)), .int (E (((0 + u0) + u1) + u2) - E ((0 + u0) + u1)), .int (E ((((0 + u0) + u1) + u2) + u3) - E (((0 + u0) + u1) + u2)), .int (E (((((0 + u0) + u1) + u2) + u3) + (u4 + u5)) - E ((((0 + u0) + u1) + u2) + u3))]), some (.int (u4 / 2)), some (.tup [.int (E (0 + u0) - E 0), .int (E ((0 + u0) + u1) - E (0 + u0)), .int (E (((0 + u0) + u1) + u2) - E ((0 + u0) + u1)), .int (E ((((0 + u0) + u1) + u2) + u3) - E (((0 + u0) + u1) + u2)), .int (E (((((0 + u0) + u1) + u2) + u3) + (u4 / 2)) - E ((((0 + u0) + u1) + u2) + u3)), .int (E ((((((0 + u0) + u1) + u2) + u3) + (u4 / 2)) + (u4 - u4 / 2)) - E (((((0 + u0) + u1) + u2) + u3) + (u4 / 2))), .int (E (((((((0 + u0) + u1) + u2) + u3) + (u4 / 2)) + (u4 - u4 / 2)) + u5) - E ((((((0 + u0) + u1) + u2) + u3) + (u4 / 2)) + (u4 - u4 / 2)))])] g := by
    unfold t_law_27
    rw [ev_seq, ev_set, ev_call]
    have a1 : (mCons (mVar 17) (mCons (mVar 18) (mCons (mOp addD (mOp addD (mSl (mVar 19) oNone (oSome (mVar 21))) (mTup (mCons (mVar 24) (mCons (mOp subD (mOp ixD (mVar 19) (mVar 21)) (mVar 24)) mNil)))) (mSl (mVar 19) (oSome (mOp addD (mVar 21) (mC (.int 1)))) oNone)) mNil))) [x0, x1, x2, x3, x4, x5, x6, x7, x8, x9, x10, x11, x12, x13, x14, x15, x16, some (.int sold), some sh, some (.tup [.int (u0), .int (u1), .int (u2), .int (u3), .int (u4), .int (u5)]), some (.tup [.int (E (0 + u0) - E 0), .int (E ((0 + u0) + u1) - E (0 + u0)), .int (E (((0 + u0) + u1) + u2) - E ((0 + u0) + u1)), .int (E ((((0 + u0) + u1) + u2) + u3) - E (((0 + u0) + u1) + u2)), .int (E (((((0 + u0) + u1) + u2) + u3) + u4) - E ((((0 + u0) + u1) + u2) + u3)), .int (E ((((((0 + u0) + u1) + u2) + u3) + u4) + u5) - E (((((0 + u0) + u1) + u2) + u3) + u4))]), some (.int 4), some (.tup [.int (u0), .int (u1), .int (u2), .int (u3), .int (u4 + u5)]), some (.tup [.int (E (0 + u0) - E 0), .int (E ((0 + u0) + u1) - E (0 + u0)), .int (E (((0 + u0) + u1) + u2) - E ((0 + u0) + u1)), .int (E ((((0 + u0) + u1) + u2) + u3) - E (((0 + u0) + u1) + u2)), .int (E (((((0 + u0) + u1) + u2) + u3) + (u4 + u5)) - E ((((0 + u0) + u1) + u2) + u3))]), some (.int (u4 / 2)), x25] g = .ok [.int sold, sh, .tup [.int (u0), .int (u1), .int (u2), .int (u3), .int (u4 / 2), .int (u4 - u4 / 2), .int (u5)]] g := by
      have v17 : mVar 17 [x0, x1, x2, x3, x4, x5, x6, x7, x8, x9, x10, x11, x12, x13, x14, x15, x16, some (.int sold), some sh, some (.tup [.int (u0), .int (u1), .int (u2), .int (u3), .int (u4), .int (u5)]), some (.tup [.int (E (0 + u0) - E 0), .int (E ((0 + u0) + u1) - E (0 + u0)), .int (E (((0 + u0) + u1) + u2) - E ((0 + u0) + u1)), .int (E ((((0 + u0) + u1) + u2) + u3) - E (((0 + u0) + u1) + u2)), .int (E (((((0 + u0) + u1) + u2) + u3) + u4) - E ((((0 + u0) + u1) + u2) + u3)), .int (E ((((((0 + u0) + u1) + u2) + u3) + u4) + u5) - E (((((0 + u0) + u1) + u2) + u3) + u4))]), some (.int 4), some (.tup [.int (u0), .int (u1), .int (u2), .int (u3), .int (u4 + u5)]), some (.tup [.int (E (0 + u0) - E 0), .int (E ((0 + u0) + u1) - E (0 + u0)), .int (E (((0 + u0) + u1) + u2) - E ((0 + u0) + u1)), .int (E ((((0 + u0) + u1) + u2) + u3) - E (((0 + u0) + u1) + u2)), .int (E (((((0 + u0) + u1) + u2) + u3) + (u4 + u5)) - E ((((0 + u0) + u1) + u2) + u3))]), some (.int (u4 / 2)), x25] g = .ok (.int sold) g := rfl
      have v18 : mVar 18 [x0, x1, x2, x3, x4, x5, x6, x7, x8, x9, x10, x11, x12, x13, x14, x15, x16, some (.int sold), some sh, some (.tup [.int (u0), .int (u1), .int (u2), .int (u3), .int (u4), .int (u5)]), some (.tup [.int (E (0 + u0) - E 0), .int (E ((0 + u0) + u1) - E (0 + u0)), .int (E (((0 + u0) + u1) + u2) - E ((0 + u0) + u1)), .int (E ((((0 + u0) + u1) + u2) + u3) - E (((0 + u0) + u1) + u2)), .int (E (((((0 + u0) + u1) + u2) + u3) + u4) - E ((((0 + u0) + u1) + u2) + u3)), .int (E ((((((0 + u0) + u1) + u2) + u3) + u4) + u5) - E (((((0 + u0) + u1) + u2) + u3) + u4))]), some (.int 4), some (.tup [.int (u0), .int (u1), .int (u2), .int (u3), .int (u4 + u5)]), some (.tup [.int (E (0 + u0) - E 0), .int (E ((0 + u0) + u1) - E (0 + u0)), .int (E (((0 + u0) + u1) + u2) - E ((0 + u0) + u1)), .int (E ((((0 + u0) + u1) + u2) + u3) - E (((0 + u0) + u1) + u2)), .int (E (((((0 + u0) + u1) + u2) + u3) + (u4 + u5)) - E ((((0 + u0) + u1) + u2) + u3))]), some (.int (u4 / 2)), x25] g = .ok sh g := rfl
      rw [ev_cons, v17, R.bind_ok, ev_cons, v18, R.bind_ok, ev_cons, e25, R.bind_ok, ev_nil]; rfl
    rw [a1, R.bind_ok, rC]; rfl
  rw [s22, s23, s24, s25]
  have hh : ((((((0 + u0) + u1) + u2) + u3) + (u4 / 2)) + (u4 - u4 / 2)) = (((((0 + u0) + u1) + u2) + u3) + u4) := by omega
  have dA : isB (mOp neD (mSl (mVar 25) oNone (oSome (mVar 21))) (mSl (mVar 20) oNone (oSome (mVar 21)))) [x0, x1, x2, x3, x4, x5, x6, x7, x8, x9, x10, x11, x12, x13, x14, x15, x16, some (.int sold), some sh, some (.tup [.int (u0), .int (u1), .int (u2), .int (u3), .int (u4), .int (u5)]), some (.tup [.int (E (0 + u0) - E 0), .int (E ((0 + u0) + u1) - E (0 + u0)), .int (E (((0 + u0) + u1) + u2) - E ((0 + u0) + u1)), .int (E ((((0 + u0) + u1) + u2) + u3) - E (((0 + u0) + u1) + u2)), .int (E (((((0 + u0) + u1) + u2) + u3) + u4) - E ((((0 + u0) + u1) + u2) + u3)), .int (E ((((((0 + u0) + u1) + u2) + u3) + u4) + u5) - E (((((0 + u0) + u1) + u2) + u3) + u4))]), some (.int 4), some (.tup [.int (u0), .int (u1), .int (u2), .int (u3), .int (u4 + u5)]), some (.tup [.int (E (0 + u0) - E 0), .int (E ((0 + u0) + u1) - E (0 + u0)), .int (E (((0 + u0) + u1) + u2) - E ((0 + u0) + u1)), .int (E ((((0 + u0) + u1) + u2) + u3) - E (((0 + u0) + u1) + u2)), .int (E (((((0 + u0) + u1) + u2) + u3) + (u4 + u5)) - E ((((0 + u0) + u1) + u2) + u3))]), some (.int (u4 / 2)), some (.tup [.int (E (0 + u0) - E 0), .int (E ((0 + u0) + u1) - E (0 + u0)), .int (E (((0 + u0) + u1) + u2) - E ((0 + u0) + u1)), .int (E ((((0 + u0) + u1) + u2) + u3) - E (((0 + u0) + u1) + u2)), .int (E (((((0 + u0) + u1) + u2) + u3) + (u4 / 2)) - E ((((0 + u0) + u1) + u2) + u3)), .int (E ((((((0 + u0) + u1) + u2) + u3) + (u4 / 2)) + (u4 - u4 / 2)) - E (((((0 + u0) + u1) + u2) + u3) + (u4 / 2))), .int (E (((((((0 + u0) + u1) + u2) + u3) + (u4 / 2)) + (u4 - u4 / 2)) + u5) - E ((((((0 + u0) + u1) + u2) + u3) + (u4 / 2)) + (u4 - u4 / 2)))])] g = .ok false g := by
    unfold isB
    have w1 : mSl (mVar 25) oNone (oSome (mVar 21)) [x0, x1, x2, x3, x4, x5, x6, x7, x8, x9, x10, x11, x12, x13, x14, x15, x16, some (.int sold), some sh, some (.tup [.int (u0), .int (u1), .int (u2), .int (u3), .int (u4), .int (u5)]), some (.tup [.int (E (0 + u0) - E 0), .int (E ((0 + u0) + u1) - E (0 + u0)), .int (E (((0 + u0) + u1) + u2) - E ((0 + u0) + u1)), .int (E ((((0 + u0) + u1) + u2) + u3) - E (((0 + u0) + u1) + u2)), .int (E (((((0 + u0) + u1) + u2) + u3) + u4) - E ((((0 + u0) + u1) + u2) + u3)), .int (E ((((((0 + u0) + u1) + u2) + u3) + u4) + u5) - E (((((0 + u0) + u1) + u2) + u3) + u4))]), some (.int 4), some (.tup [.int (u0), .int (u1), .int (u2), .int (u3), .int (u4 + u5)]), some (.tup [.int (E (0 + u0) - E 0), .int (E ((0 + u0) + u1) - E (0 + u0)), .int (E (((0 + u0) + u1) + u2) - E ((0 + u0) + u1)), .int (E ((((0 + u0) + u1) + u2) + u3) - E (((0 + u0) + u1) + u2)), .int (E (((((0 + u0) + u1) + u2) + u3) + (u4 + u5)) - E ((((0 + u0) + u1) + u2) + u3))]), some (.int (u4 / 2)), some (.tup [.int (E (0 + u0) - E 0), .int (E ((0 + u0) + u1) - E (0 + u0)), .int (E (((0 + u0) + u1) + u2) - E ((0 + u0) + u1)), .int (E ((((0 + u0) + u1) + u2) + u3) - E (((0 + u0) + u1) + u2)), .int (E (((((0 + u0) + u1) + u2) + u3) + (u4 / 2)) - E ((((0 + u0) + u1) + u2) + u3)), .int (E ((((((0 + u0) + u1) + u2) + u3) + (u4 / 2)) + (u4 - u4 / 2)) - E (((((0 + u0) + u1) + u2) + u3) + (u4 / 2))), .int (E (((((((0 + u0) + u1) + u2) + u3) + (u4 / 2)) + (u4 - u4 / 2)) + u5) - E ((((((0 + u0) + u1) + u2) + u3) + (u4 / 2)) + (u4 - u4 / 2)))])] g = .ok (.tup [.int (E (0 + u0) - E 0), .int (E ((0 + u0) + u1) - E (0 + u0)), .int (E (((0 + u0) + u1) + u2) - E ((0 + u0) + u1)), .int (E ((((0 + u0) + u1) + u2) + u3) - E (((0 + u0) + u1) + u2))]) g := rfl
    have w2 : mSl (mVar 20) oNone (oSome (mVar 21)) [x0, x1, x2, x3, x4, x5, x6, x7, x8, x9, x10, x11, x12, x13, x14, x15, x16, some (.int sold), some sh, some (.tup [.int (u0), .int (u1), .int (u2), .int (u3), .int (u4), .int (u5)]), some (.tup [.int (E (0 + u0) - E 0), .int (E ((0 + u0) + u1) - E (0 + u0)), .int (E (((0 + u0) + u1) + u2) - E ((0 + u0) + u1)), .int (E ((((0 + u0) + u1) + u2) + u3) - E (((0 + u0) + u1) + u2)), .int (E (((((0 + u0) + u1) + u2) + u3) + u4) - E ((((0 + u0) + u1) + u2) + u3)), .int (E ((((((0 + u0) + u1) + u2) + u3) + u4) + u5) - E (((((0 + u0) + u1) + u2) + u3) + u4))]), some (.int 4), some (.tup [.int (u0), .int (u1), .int (u2), .int (u3), .int (u4 + u5)]), some (.tup [.int (E (0 + u0) - E 0), .int (E ((0 + u0) + u1) - E (0 + u0)), .int (E (((0 + u0) + u1) + u2) - E ((0 + u0) + u1)), .int (E ((((0 + u0) + u1) + u2) + u3) - E (((0 + u0) + u1) + u2)), .int (E (((((0 + u0) + u1) + u2) + u3) + (u4 + u5)) - E ((((0 + u0) + u1) + u2) + u3))]), some (.int (u4 / 2)), some (.tup [.int (E (0 + u0) - E 0), .int (E ((0 + u0) + u1) - E (0 + u0)), .int (E (((0 + u0) + u1) + u2) - E ((0 + u0) + u1)), .int (E ((((0 + u0) + u1) + u2) + u3) - E (((0 + u0) + u1) + u2)), .int (E (((((0 + u0) + u1) + u2) + u3) + (u4 / 2)) - E ((((0 + u0) + u1) + u2) + u3)), .int (E ((((((0 + u0) + u1) + u2) + u3) + (u4 / 2)) + (u4 - u4 / 2)) - E (((((0 + u0) + u1) + u2) + u3) + (u4 / 2))), .int (E (((((((0 + u0) + u1) + u2) + u3) + (u4 / 2)) + (u4 - u4 / 2)) + u5) - E ((((((0 + u0) + u1) + u2) + u3) + (u4 / 2)) + (u4 - u4 / 2)))])] g = .ok (.tup [.int (E (0 + u0) - E 0), .int (E ((0 + u0) + u1) - E (0 + u0)), .int (E (((0 + u0) + u1) + u2) - E ((0 + u0) + u1)), .int (E ((((0 + u0) + u1) + u2) + u3) - E (((0 + u0) + u1) + u2))]) g := rfl
    rw [ev_op, w1, R.bind_ok, w2, R.bind_ok, show neD (.tup [.int (E (0 + u0) - E 0), .int (E ((0 + u0) + u1) - E (0 + u0)), .int (E (((0 + u0) + u1) + u2) - E ((0 + u0) + u1)), .int (E ((((0 + u0) + u1) + u2) + u3) - E (((0 + u0) + u1) + u2))]) (.tup [.int (E (0 + u0) - E 0), .int (E ((0 + u0) + u1) - E (0 + u0)), .int (E (((0 + u0) + u1) + u2) - E ((0 + u0) + u1)), .int (E ((((0 + u0) + u1) + u2) + u3) - E (((0 + u0) + u1) + u2))]) g = .ok (.bl false) g from vd_neT [E (0 + u0) - E 0, E ((0 + u0) + u1) - E (0 + u0), E (((0 + u0) + u1) + u2) - E ((0 + u0) + u1), E ((((0 + u0) + u1) + u2) + u3) - E (((0 + u0) + u1) + u2)] g]; rfl
  have dB : isB (mOp neD (mOp addD (mOp ixD (mVar 25) (mVar 21)) (mOp ixD (mVar 25) (mOp addD (mVar 21) (mC (.int 1))))) (mOp ixD (mVar 20) (mVar 21))) [x0, x1, x2, x3, x4, x5, x6, x7, x8, x9, x10, x11, x12, x13, x14, x15, x16, some (.int sold), some sh, some (.tup [.int (u0), .int (u1), .int (u2), .int (u3), .int (u4), .int (u5)]), some (.tup [.int (E (0 + u0) - E 0), .int (E ((0 + u0) + u1) - E (0 + u0)), .int (E (((0 + u0) + u1) + u2) - E ((0 + u0) + u1)), .int (E ((((0 + u0) + u1) + u2) + u3) - E (((0 + u0) + u1) + u2)), .int (E (((((0 + u0) + u1) + u2) + u3) + u4) - E ((((0 + u0) + u1) + u2) + u3)), .int (E ((((((0 + u0) + u1) + u2) + u3) + u4) + u5) - E (((((0 + u0) + u1) + u2) + u3) + u4))]), some (.int 4), some (.tup [.int (u0), .int (u1), .int (u2), .int (u3), .int (u4 + u5)]), some (.tup [.int (E (0 + u0) - E 0), .int (E ((0 + u0) + u1) - E (0 + u0)), .int (E (((0 + u0) + u1) + u2) - E ((0 + u0) + u1)), .int (E ((((0 + u0) + u1) + u2) + u3) - E (((0 + u0) + u1) + u2)), .int (E (((((0 + u0) + u1) + u2) + u3) + (u4 + u5)) - E ((((0 + u0) + u1) + u2) + u3))]), some (.int (u4 / 2)), some (.tup [.int (E (0 + u0) - E 0), .int (E ((0 + u0) + u1) - E (0 + u0)), .int (E (((0 + u0) + u1) + u2) - E ((0 + u0) + u1)), .int (E ((((0 + u0) + u1) + u2) + u3) - E (((0 + u0) + u1) + u2)), .int (E (((((0 + u0) + u1) + u2) + u3) + (u4 / 2)) - E ((((0 + u0) + u1) + u2) + u3)), .int (E ((((((0 + u0) + u1) + u2) + u3) + (u4 / 2)) + (u4 - u4 / 2)) - E (((((0 + u0) + u1) + u2) + u3) + (u4 / 2))), .int (E (((((((0 + u0) + u1) + u2) + u3) + (u4 / 2)) + (u4 - u4 / 2)) + u5) - E ((((((0 + u0) + u1) + u2) + u3) + (u4 / 2)) + (u4 - u4 / 2)))])] g = .ok false g := by
    unfold isB
    have w1 : mOp addD (mOp ixD (mVar 25) (mVar 21)) (mOp ixD (mVar 25) (mOp addD (mVar 21) (mC (.int 1)))) [x0, x1, x2, x3, x4, x5, x6, x7, x8, x9, x10, x11, x12, x13, x14, x15, x16, some (.int sold), some sh, some (.tup [.int (u0), .int (u1), .int (u2), .int (u3), .int (u4), .int (u5)]), some (.tup [.int (E (0 + u0) - E 0), .int (E ((0 + u0) + u1) - E (0 + u0)), .int (E (((0 + u0) + u1) + u2) - E ((0 + u0) + u1)), .int (E ((((0 + u0) + u1) + u2) + u3) - E (((0 + u0) + u1) + u2)), .int (E (((((0 + u0) + u1) + u2) + u3) + u4) - E ((((0 + u0) + u1) + u2) + u3)), .int (E ((((((0 + u0) + u1) + u2) + u3) + u4) + u5) - E (((((0 + u0) + u1) + u2) + u3) + u4))]), some (.int 4), some (.tup [.int (u0), .int (u1), .int (u2), .int (u3), .int (u4 + u5)]), some (.tup [.int (E (0 + u0) - E 0), .int (E ((0 + u0) + u1) - E (0 + u0)), .int (E (((0 + u0) + u1) + u2) - E ((0 + u0) + u1)), .int (E ((((0 + u0) + u1) + u2) + u3) - E (((0 + u0) + u1) + u2)), .int (E (((((0 + u0) + u1) + u2) + u3) + (u4 + u5)) - E ((((0 + u0) + u1) + u2) + u3))]), some (.int (u4 / 2)), some (.tup [.int (E (0 + u0) - E 0), .int (E ((0 + u0) + u1) - E (0 + u0)), .int (E (((0 + u0) + u1) + u2) - E ((0 + u0) + u1)), .int (E ((((0 + u0) + u1) + u2) + u3) - E (((0 + u0) + u1) + u2)), .int (E (((((0 + u0) + u1) + u2) + u3) + (u4 / 2)) - E ((((0 + u0) + u1) + u2) + u3)), .int (E ((((((0 + u0) + u1) + u2) + u3) + (u4 / 2)) + (u4 - u4 / 2)) - E (((((0 + u0) + u1) + u2) + u3) + (u4 / 2))), .int (E (((((((0 + u0) + u1) + u2) + u3) + (u4 / 2)) + (u4 - u4 / 2)) + u5) - E ((((((0 + u0) + u1) + u2) + u3) + (u4 / 2)) + (u4 - u4 / 2)))])] g = .ok (.int (E (((((0 + u0) + u1) + u2) + u3) + (u4 / 2)) - E ((((0 + u0) + u1) + u2) + u3) + (E ((((((0 + u0) + u1) + u2) + u3) + (u4 / 2)) + (u4 - u4 / 2)) - E (((((0 + u0) + u1) + u2) + u3) + (u4 / 2))))) g := rfl
    have w2 : mOp ixD (mVar 20) (mVar 21) [x0, x1, x2, x3, x4, x5, x6, x7, x8, x9, x10, x11, x12, x13, x14, x15, x16, some (.int sold), some sh, some (.tup [.int (u0), .int (u1), .int (u2), .int (u3), .int (u4), .int (u5)]), some (.tup [.int (E (0 + u0) - E 0), .int (E ((0 + u0) + u1) - E (0 + u0)), .int (E (((0 + u0) + u1) + u2) - E ((0 + u0) + u1)), .int (E ((((0 + u0) + u1) + u2) + u3) - E (((0 + u0) + u1) + u2)), .int (E (((((0 + u0) + u1) + u2) + u3) + u4) - E ((((0 + u0) + u1) + u2) + u3)), .int (E ((((((0 + u0) + u1) + u2) + u3) + u4) + u5) - E (((((0 + u0) + u1) + u2) + u3) + u4))]), some (.int 4), some (.tup [.int (u0), .int (u1), .int (u2), .int (u3), .int (u4 + u5)]), some (.tup [.int (E (0 + u0) - E 0), .int (E ((0 + u0) + u1) - E (0 + u0)), .int (E (((0 + u0) + u1) + u2) - E ((0 + u0) + u1)), .int (E ((((0 + u0) + u1) + u2) + u3) - E (((0 + u0) + u1) + u2)), .int (E (((((0 + u0) + u1) + u2) + u3) + (u4 + u5)) - E ((((0 + u0) + u1) + u2) + u3))]), some (.int (u4 / 2)), some (.tup [.int (E (0 + u0) - E 0), .int (E ((0 + u0) + u1) - E (0 + u0)), .int (E (((0 + u0) + u1) + u2) - E ((0 + u0) + u1)), .int (E ((((0 + u0) + u1) + u2) + u3) - E (((0 + u0) + u1) + u2)), .int (E (((((0 + u0) + u1) + u2) + u3) + (u4 / 2)) - E ((((0 + u0) + u1) + u2) + u3)), .int (E ((((((0 + u0) + u1) + u2) + u3) + (u4 / 2)) + (u4 - u4 / 2)) - E (((((0 + u0) + u1) + u2) + u3) + (u4 / 2))), .int (E (((((((0 + u0) + u1) + u2) + u3) + (u4 / 2)) + (u4 - u4 / 2)) + u5) - E ((((((0 + u0) + u1) + u2) + u3) + (u4 / 2)) + (u4 - u4 / 2)))])] g = .ok (.int (E (((((0 + u0) + u1) + u2) + u3) + u4) - E ((((0 + u0) + u1) + u2) + u3))) g := rfl
    rw [ev_op, w1, R.bind_ok, w2, R.bind_ok, vd_ne, hh]
    have : E (((((0 + u0) + u1) + u2) + u3) + (u4 / 2)) - E ((((0 + u0) + u1) + u2) + u3) + (E (((((0 + u0) + u1) + u2) + u3) + u4) - E (((((0 + u0) + u1) + u2) + u3) + (u4 / 2))) = E (((((0 + u0) + u1) + u2) + u3) + u4) - E ((((0 + u0) + u1) + u2) + u3) := by omega
    rw [decide_eq_true this]; rfl
  have dC : isB (mOp neD (mSl (mVar 25) (oSome (mOp addD (mVar 21) (mC (.int 2)))) oNone) (mSl (mVar 20) (oSome (mOp addD (mVar 21) (mC (.int 1)))) oNone)) [x0, x1, x2, x3, x4, x5, x6, x7, x8, x9, x10, x11, x12, x13, x14, x15, x16, some (.int sold), some sh, some (.tup [.int (u0), .int (u1), .int (u2), .int (u3), .int (u4), .int (u5)]), some (.tup [.int (E (0 + u0) - E 0), .int (E ((0 + u0) + u1) - E (0 + u0)), .int (E (((0 + u0) + u1) + u2) - E ((0 + u0) + u1)), .int (E ((((0 + u0) + u1) + u2) + u3) - E (((0 + u0) + u1) + u2)), .int (E (((((0 + u0) + u1) + u2) + u3) + u4) - E ((((0 + u0) + u1) + u2) + u3)), .int (E ((((((0 + u0) + u1) + u2) + u3) + u4) + u5) - E (((((0 + u0) + u1) + u2) + u3) + u4))]), some (.int 4), some (.tup [.int (u0), .int (u1), .int (u2), .int (u3), .int (u4 + u5)]), some (.tup [.int (E (0 + u0) - E 0), .int (E ((0 + u0) + u1) - E (0 + u0)), .int (E (((0 + u0) + u1) + u2) - E ((0 + u0) + u1)), .int (E ((((0 + u0) + u1) + u2) + u3) - E (((0 + u0) + u1) + u2)), .int (E (((((0 + u0) + u1) + u2) + u3) + (u4 + u5)) - E ((((0 + u0) + u1) + u2) + u3))]), some (.int (u4 / 2)), some (.tup [.int (E (0 + u0) - E 0), .int (E ((0 + u0) + u1) - E (0 + u0)), .int (E (((0 + u0) + u1) + u2) - E ((0 + u0) + u1)), .int (E ((((0 + u0) + u1) + u2) + u3) - E (((0 + u0) + u1) + u2)), .int (E (((((0 + u0) + u1) + u2) + u3) + (u4 / 2)) - E ((((0 + u0) + u1) + u2) + u3)), .int (E ((((((0 + u0) + u1) + u2) + u3) + (u4 / 2)) + (u4 - u4 / 2)) - E (((((0 + u0) + u1) + u2) + u3) + (u4 / 2))), .int (E (((((((0 + u0) + u1) + u2) + u3) + (u4 / 2)) + (u4 - u4 / 2)) + u5) - E ((((((0 + u0) + u1) + u2) + u3) + (u4 / 2)) + (u4 - u4 / 2)))])] g = .ok false g := by
    unfold isB
    have w1 : mSl (mVar 25) (oSome (mOp addD (mVar 21) (mC (.int 2)))) oNone [x0, x1, x2, x3, x4, x5, x6, x7, x8, x9, x10, x11, x12, x13, x14, x15, x16, some (.int sold), some sh, some (.tup [.int (u0), .int (u1), .int (u2), .int (u3), .int (u4), .int (u5)]), some (.tup [.int (E (0 + u0) - E 0), .int (E ((0 + u0) + u1) - E (0 + u0)), .int (E (((0 + u0) + u1) + u2) - E ((0 + u0) + u1)), .int (E ((((0 + u0) + u1) + u2) + u3) - E (((0 + u0) + u1) + u2)), .int (E (((((0 + u0) + u1) + u2) + u3) + u4) - E ((((0 + u0) + u1) + u2) + u3)), .int (E ((((((0 + u0) + u1) + u2) + u3) + u4) + u5) - E (((((0 + u0) + u1) + u2) + u3) + u4))]), some (.int 4), some (.tup [.int (u0), .int (u1), .int (u2), .int (u3), .int (u4 + u5)]), some (.tup [.int (E (0 + u0) - E 0), .int (E ((0 + u0) + u1) - E (0 + u0)), .int (E (((0 + u0) + u1) + u2) - E ((0 + u0) + u1)), .int (E ((((0 + u0) + u1) + u2) + u3) - E (((0 + u0) + u1) + u2)), .int (E (((((0 + u0) + u1) + u2) + u3) + (u4 + u5)) - E ((((0 + u0) + u1) + u2) + u3))]), some (.int (u4 / 2)), some (.tup [.int (E (0 + u0) - E 0), .int (E ((0 + u0) + u1) - E (0 + u0)), .int (E (((0 + u0) + u1) + u2) - E ((0 + u0) + u1)), .int (E ((((0 + u0) + u1) + u2) + u3) - E (((0 + u0) + u1) + u2)), .int (E (((((0 + u0) + u1) + u2) + u3) + (u4 / 2)) - E ((((0 + u0) + u1) + u2) + u3)), .int (E ((((((0 + u0) + u1) + u2) + u3) + (u4 / 2)) + (u4 - u4 / 2)) - E (((((0 + u0) + u1) + u2) + u3) + (u4 / 2))), .int (E (((((((0 + u0) + u1) + u2) + u3) + (u4 / 2)) + (u4 - u4 / 2)) + u5) - E ((((((0 + u0) + u1) + u2) + u3) + (u4 / 2)) + (u4 - u4 / 2)))])] g = .ok (.tup [.int (E (((((((0 + u0) + u1) + u2) + u3) + (u4 / 2)) + (u4 - u4 / 2)) + u5) - E ((((((0 + u0) + u1) + u2) + u3) + (u4 / 2)) + (u4 - u4 / 2)))]) g := rfl
    have w2 : mSl (mVar 20) (oSome (mOp addD (mVar 21) (mC (.int 1)))) oNone [x0, x1, x2, x3, x4, x5, x6, x7, x8, x9, x10, x11, x12, x13, x14, x15, x16, some (.int sold), some sh, some (.tup [.int (u0), .int (u1), .int (u2), .int (u3), .int (u4), .int (u5)]), some (.tup [.int (E (0 + u0) - E 0), .int (E ((0 + u0) + u1) - E (0 + u0)), .int (E (((0 + u0) + u1) + u2) - E ((0 + u0) + u1)), .int (E ((((0 + u0) + u1) + u2) + u3) - E (((0 + u0) + u1) + u2)), .int (E (((((0 + u0) + u1) + u2) + u3) + u4) - E ((((0 + u0) + u1) + u2) + u3)), .int (E ((((((0 + u0) + u1) + u2) + u3) + u4) + u5) - E (((((0 + u0) + u1) + u2) + u3) + u4))]), some (.int 4), some (.tup [.int (u0), .int (u1), .int (u2), .int (u3), .int (u4 + u5)]), some (.tup [.int (E (0 + u0) - E 0), .int (E ((0 + u0) + u1) - E (0 + u0)), .int (E (((0 + u0) + u1) + u2) - E ((0 + u0) + u1)), .int (E ((((0 + u0) + u1) + u2) + u3) - E (((0 + u0) + u1) + u2)), .int (E (((((0 + u0) + u1) + u2) + u3) + (u4 + u5)) - E ((((0 + u0) + u1) + u2) + u3))]), some (.int (u4 / 2)), some (.tup [.int (E (0 + u0) - E 0), .int (E ((0 + u0) + u1) - E (0 + u0)), .int (E (((0 + u0) + u1) + u2) - E ((0 + u0) + u1)), .int (E ((((0 + u0) + u1) + u2) + u3) - E (((0 + u0) + u1) + u2)), .int (E (((((0 + u0) + u1) + u2) + u3) + (u4 / 2)) - E ((((0 + u0) + u1) + u2) + u3)), .int (E ((((((0 + u0) + u1) + u2) + u3) + (u4 / 2)) + (u4 - u4 / 2)) - E (((((0 + u0) + u1) + u2) + u3) + (u4 / 2))), .int (E (((((((0 + u0) + u1) + u2) + u3) + (u4 / 2)) + (u4 - u4 / 2)) + u5) - E ((((((0 + u0) + u1) + u2) + u3) + (u4 / 2)) + (u4 - u4 / 2)))])] g = .ok (.tup [.int (E ((((((0 + u0) + u1) + u2) + u3) + u4) + u5) - E (((((0 + u0) + u1) + u2) + u3) + u4))]) g := rfl
    rw [ev_op, w1, R.bind_ok, w2, R.bind_ok, hh, show neD (.tup [.int (E ((((((0 + u0) + u1) + u2) + u3) + u4) + u5) - E (((((0 + u0) + u1) + u2) + u3) + u4))]) (.tup [.int (E ((((((0 + u0) + u1) + u2) + u3) + u4) + u5) - E (((((0 + u0) + u1) + u2) + u3) + u4))]) g = .ok (.bl false) g from vd_neT [E ((((((0 + u0) + u1) + u2) + u3) + u4) + u5) - E (((((0 + u0) + u1) + u2) + u3) + u4)] g]; rfl
  unfold t_law_28
  rw [ev_if, ev_tor, dA, R.bind_ok, if_neg Bool.false_ne_true, ev_tor, dB, R.bind_ok, if_neg Bool.false_ne_true, dC, R.go_ok, if_neg Bool.false_ne_true]
  rfl
/-! ### the share of many equal cards; a trip through nothing -/
theorem is_sale_ok {a b : Int} (ha : 1 ≤ a ∧ a ≤ 10000) (hb : 0 ≤ b ∧ b ≤ a) (g : Gp) : m_is_sale [rt a b] g = .ok (.bl true) g := by
  unfold m_is_sale rt
  walk_at "ev"; rw [is_row_tup [.int a, .int b] 2 g rfl]; walk_at "ev"
  rw [between_ok _ _ _ _ ha.1 ha.2]; walk_at "ev"
  rw [between_ok _ _ _ _ hb.1 hb.2]; walk_at "ev"
theorem are_sales_ok {a b : Int} {k : Nat} (hk : 1 ≤ k ∧ k ≤ 20) (ha : 1 ≤ a ∧ a ≤ 10000) (hb : 0 ≤ b ∧ b ≤ a) (g : Gp) : m_are_sales [.tup (List.replicate k (rt a b))] g = .ok (.bl true) g := by
  unfold m_are_sales
  walk_at "ev"
  rw [has_size_tup (List.replicate k (rt a b)) 1 20 g (by rw [List.length_replicate]; omega) (by rw [List.length_replicate]; omega)]
  walk_at "ev"
  have hl : mLc [1] (iAny (mVar 0)) (gN 1) tYes' (mCall m_is_sale (mCons (mVar 1) mNil)) [some (.tup (List.replicate k (rt a b))), none] g = .ok (.ref g.length) (g ++ [.lst ((List.replicate k (rt a b)).map fun _ => D.bl true)]) := by
    refine lc_tup (g1 := g) rfl (by rw [List.length_replicate]; omega) (fun x hx L => ?_)
    have := List.eq_of_mem_replicate hx
    subst this
    refine ⟨_, rfl, ?_⟩
    show (mCall m_is_sale (mCons (mVar 1) mNil)) [some (.tup (List.replicate k (rt a b))), some (rt a b)] _ = _
    walk_at "ev"; rw [is_sale_ok ha hb]
  rw [hl]
  walk_at "ev"
  have hm : ((List.replicate k (rt a b)).map fun _ => D.bl true) = (List.replicate k true).map D.bl := by rw [List.map_replicate, List.map_replicate]
  rw [hm, vd_allL _ (bs := List.replicate k true) (get_app0 _ _) (blsD_map _)]
  have hal : (List.replicate k true).all id = true := by rw [List.all_eq_true]; intro x hx; rw [List.eq_of_mem_replicate hx]; rfl
  rw [hal]
  walk_at "ev"
  exact gc_app _ _ _ rfl
theorem sum_rep (k : Nat) (a : Int) : (List.replicate k a).sum = k * a := by
  induction k with
  | zero => simp
  | succ k ih => rw [List.replicate_succ, List.sum_cons, ih, Int.natCast_succ, Int.add_mul, Int.one_mul, Int.add_comm]
theorem share_of_ok {a b : Int} {k : Nat} (hk : 1 ≤ k ∧ k ≤ 20) (ha : 1 ≤ a ∧ a ≤ 10000) (hb : 0 ≤ b ∧ b ≤ a) (g : Gp) :
    m_share_of [.tup (List.replicate k (rt a b))] g = .ok (rt ((a - b) / (Nat.gcd (a - b).natAbs a.natAbs : Nat)) (a / (Nat.gcd (a - b).natAbs a.natAbs : Nat))) g := by
  have col : ∀ (j : Int) (c : Int) (s0 s1 s2 : Option D) (g' : Gp), (∀ g'', ixD (rt a b) (.int j) g'' = .ok (.int c) g'') →
      mLc [3] (iAny (mVar 0)) (gN 3) tYes' (mOp ixD (mVar 3) (mC (.int j))) [some (.tup (List.replicate k (rt a b))), s1, s2, none] g' = .ok (.ref g'.length) (g' ++ [.lst ((List.replicate k c).map D.int)]) := by
    intro j c s0 s1 s2 g' hc
    have := lc_tup (vs := [3]) (m := mVar 0) (tg := gN 3) (te := mOp ixD (mVar 3) (mC (.int j))) (s := [some (.tup (List.replicate k (rt a b))), s1, s2, none]) (g := g') (g1 := g') (xs := List.replicate k (rt a b)) (f := fun _ => .int c) rfl (by rw [List.length_replicate]; omega) (fun x hx L => by
      have := List.eq_of_mem_replicate hx
      subst this
      refine ⟨_, rfl, ?_⟩
      show (mOp ixD (mVar 3) (mC (.int j))) [some (.tup (List.replicate k (rt a b))), s1, s2, some (rt a b)] _ = _
      walk_at "ev"; rw [hc])
    rw [this, List.map_replicate, List.map_replicate]
  have hkn : (k : Int) ≤ 20 := by omega
  have hk0 : (0 : Int) < k := by omega
  have hka : 0 < (k : Int) * a := Int.mul_pos hk0 (by omega)
  have hka2 : (k : Int) * a ≤ 20 * 10000 := Int.mul_le_mul hkn ha.2 (by omega) (by omega)
  have hG : 0 < Nat.gcd (a - b).natAbs a.natAbs := Nat.gcd_pos_of_pos_right _ (by omega)
  have hg : Nat.gcd ((k : Int) * a - k * b).natAbs ((k : Int) * a).natAbs = k * Nat.gcd (a - b).natAbs a.natAbs := by
    rw [← Int.mul_sub, Int.natAbs_mul, Int.natAbs_mul, Int.natAbs_natCast, Nat.gcd_mul_left]
  unfold m_share_of
  walk_at "ev"; rw [are_sales_ok hk ha hb]; walk_at "ev"; rw [need_ok]; walk_at "ev"
  rw [col 0 a none none none g (fun _ => rfl)]; walk_at "ev"
  rw [vd_sumL _ (get_app0 _ _) (intsD_map _)]; walk_at "ev"
  rw [col 1 b none _ none _ (fun _ => rfl)]; walk_at "ev"
  rw [vd_sumL _ (get_app0 _ _) (intsD_map _)]; walk_at "ev"
  rw [sum_rep, sum_rep, lowest_ok hka (by omega), hg]
  have e1 : ((k : Int) * a - k * b) / ((k * Nat.gcd (a - b).natAbs a.natAbs : Nat) : Int) = (a - b) / (Nat.gcd (a - b).natAbs a.natAbs : Nat) := by
    rw [Int.natCast_mul, ← Int.mul_sub, Int.mul_ediv_mul_of_pos _ _ hk0]
  have e2 : ((k : Int) * a) / ((k * Nat.gcd (a - b).natAbs a.natAbs : Nat) : Int) = a / (Nat.gcd (a - b).natAbs a.natAbs : Nat) := by
    rw [Int.natCast_mul, Int.mul_ediv_mul_of_pos _ _ hk0]
  rw [e1, e2]
  walk_at "ev"
  rw [List.append_assoc]
  exact gc_app _ _ _ rfl
theorem round_trip_ok {p : Int} (hp : 0 ≤ p ∧ p ≤ 1000000) (g : Gp) : m_round_trip [.int p, .tup []] g = .ok (.int p) g := by
  have hr : m_are_rates [.tup []] g = .ok (.bl true) g := by
    unfold m_are_rates
    walk_at "ev"
    rw [has_size_tup [] 0 8 g (by simp) (by simp)]
    walk_at "ev"
    have hl : mLc [1] (iAny (mVar 0)) (gN 1) tYes' (mCall m_is_rate (mCons (mVar 1) mNil)) [some (.tup []), none] g = .ok (.ref g.length) (g ++ [.lst (([] : List D).map fun _ => D.bl true)]) :=
      lc_tup (g1 := g) rfl (by simp) (fun x hx L => by cases hx)
    rw [hl]
    walk_at "ev"
    rw [vd_allL _ (ds := []) (bs := []) (get_app0 _ _) rfl]
    walk_at "ev"
    exact gc_app _ _ _ rfl
  have hb : m_behind_trip [.int p, .tup []] g = .ok (.int p) g := by
    unfold m_behind_trip
    walk_at "ev"
    have hl : sFor (iAny (mVar 1)) (gN 2) l_behind_trip_0 [some (.int p), some (.tup []), none] g = .nx [some (.int p), some (.tup []), none] g := by
      unfold sFor
      rw [i_any_tup (ds := []) rfl, R.go_ok]
      rfl
    rw [hl]; walk_at "ev"
  unfold m_round_trip
  walk_at "ev"; rw [between_ok _ _ _ _ hp.1 hp.2]; walk_at "ev"; rw [need_ok]; walk_at "ev"; rw [hr]; walk_at "ev"; rw [need_ok]; walk_at "ev"; rw [hb]; walk_at "ev"
/-! ### the law's loop of exchanges -/
theorem div_add_le {x y b : Int} (hb : 0 < b) : x / b + y / b ≤ (x + y) / b := by
  rw [Int.le_ediv_iff_mul_le hb, Int.add_mul]
  have h1 : x / b * b ≤ x := Int.ediv_mul_le _ (by omega)
  have h2 : y / b * b ≤ y := Int.ediv_mul_le _ (by omega)
  omega
theorem ex_ok {a b : Int} (h : Rt a b) (g : Gp) (x0 x1 x2 x3 x4 x5 x6 x8 x9 x10 x11 x12 x13 x14 x15 x16 x17 x18 x19 x20 x21 x22 x23 x24 x25 : Option D) :
    ∃ y13 : Option D, sFor (iRg2 (mCons (mC (.int 0)) (mCons (mC (.int 20)) mNil))) (gN 13) l_law_4 [x0, x1, x2, x3, x4, x5, x6, some (rt a b), x8, x9, x10, x11, x12, x13, x14, x15, x16, x17, x18, x19, x20, x21, x22, x23, x24, x25] g = .nx [x0, x1, x2, x3, x4, x5, x6, some (rt a b), x8, x9, x10, x11, x12, y13, x14, x15, x16, x17, x18, x19, x20, x21, x22, x23, x24, x25] g := by
  have b0 := h.b0; have b1 := h.b1; have a0 := h.a0; have a1 := h.a1
  unfold sFor
  rw [i_rg2 (i := 0) (j := 20) rfl (by omega) (by omega), R.go_ok]
  obtain ⟨s2, g2, q1, rfl, y13, q3⟩ := for_rng0 (tg := gN 13) (b := l_law_4) (lo := 0) (n := (20 - 0 : Int).toNat)
    (P := fun i s g' => g' = g ∧ ∃ y13 : Option D, s = [x0, x1, x2, x3, x4, x5, x6, some (rt a b), x8, x9, x10, x11, x12, y13, x14, x15, x16, x17, x18, x19, x20, x21, x22, x23, x24, x25])
    (s := [x0, x1, x2, x3, x4, x5, x6, some (rt a b), x8, x9, x10, x11, x12, x13, x14, x15, x16, x17, x18, x19, x20, x21, x22, x23, x24, x25]) (g := g) ⟨rfl, x13, rfl⟩ (by
      rintro i s g' hi ⟨rfl, y13, rfl⟩
      have hi' : i < 20 := hi
      refine ⟨_, [x0, x1, x2, x3, x4, x5, x6, some (rt a b), x8, x9, x10, x11, x12, some (.int (0 + i)), x14, x15, x16, x17, x18, x19, x20, x21, x22, x23, x24, x25], g', rfl, .inl ?_, rfl, _, rfl⟩
      generalize hp : (0 + (i : Int)) = p
      have p0 : 0 ≤ p ∧ p < 20 := by omega
      unfold l_law_4
      walk_at "ev"
      rw [exchanged_ok h (by omega)]; walk_at "ev"
      rw [exchanged_ok h (by omega)]; walk_at "ev"
      rw [exchanged_ok h (by omega)]; walk_at "ev"
      have e1 : ¬ (2 * p + 1) * a / b < p * a / b + (p + 1) * a / b := by
        have := div_add_le (x := p * a) (y := (p + 1) * a) b0
        have e : p * a + (p + 1) * a = (2 * p + 1) * a := by rw [← Int.add_mul]; congr 1; omega
        rw [e] at this; omega
      simp only [e1, decide_false]; walk_at "ev"
      rw [exchanged_near_ok h (by omega)]
      have bp : -1000 < 2 * p ∧ 2 * p < 1000 := by omega
      unfold rt; walk_at "ev"
      rw [show m__law_so 12 = m__law_so (11 + 1) from rfl, so_int]
      rw [decide_eq_true (by rw [Int.mul_assoc])]; walk_at "ev")
  exact ⟨y13, by rw [q1, q3]⟩
/-! ### the law's comparing of tuples -/
theorem isi_tup_tup (ds : List D) (g : Gp) : isiF [.tup ds, .ty "tuple"] g = .ok (.bl true) g := rfl
theorem so_tup (k : Nat) (ds : List D) (hz : ds.length ≤ 1000000) (h : ∀ d ∈ ds, ∀ g, m__law_so k [d, d] g = .ok (.bl true) g) (g : Gp) : m__law_so (k + 1) [.tup ds, .tup ds] g = .ok (.bl true) g := by
  unfold m__law_so
  walk_at "ev"; simp only [isi_tup_tup]; walk_at "ev"

  simp only [eq_self, decide_true, Bool.not_true]; walk_at "ev"
  have key : ∃ y, sFor (iRg1 (mCons (mCall lenF (mCons (mVar 1) mNil)) mNil)) (gN 2) (sIf (tNot' (tTru (mCall (m__law_so k) (mCons (mOp ixD (mVar 0) (mVar 2)) (mCons (mOp ixD (mVar 1) (mVar 2)) mNil))))) (sRet (mC (.bl false))) sNext) [some (.tup ds), some (.tup ds), none] g = .nx [some (.tup ds), some (.tup ds), y] g := by
    unfold sFor
    rw [i_rg1 (j := ds.length) rfl (by omega), R.go_ok]
    obtain ⟨s2, g2, q1, rfl, y, q3⟩ := for_rng0 (tg := gN 2) (b := sIf (tNot' (tTru (mCall (m__law_so k) (mCons (mOp ixD (mVar 0) (mVar 2)) (mCons (mOp ixD (mVar 1) (mVar 2)) mNil))))) (sRet (mC (.bl false))) sNext) (lo := 0) (n := (ds.length : Int).toNat)
      (P := fun i s g' => g' = g ∧ ∃ y : Option D, s = [some (.tup ds), some (.tup ds), y]) (s := [some (.tup ds), some (.tup ds), none]) (g := g) ⟨rfl, none, rfl⟩ (by
        rintro i s g' hi ⟨rfl, y, rfl⟩
        have hi' : i < ds.length := by rw [Int.toNat_natCast] at hi; exact hi
        refine ⟨_, [some (.tup ds), some (.tup ds), some (.int (0 + i))], g', rfl, .inl ?_, rfl, _, rfl⟩
        have hat : atI ds (0 + (i : Int)) = some ds[i] := by
          refine at_get (by omega) ?_
          have : (0 + (i : Int)).toNat = i := by omega
          rw [this, List.getElem?_eq_getElem hi']
        walk_at "ev"
        rw [vd_ixT _ _ hat]; walk_at "ev"; rw [vd_ixT _ _ hat]; walk_at "ev"
        rw [h _ (List.getElem_mem hi')]; walk_at "ev")
    exact ⟨y, by rw [q1, q3]⟩
  obtain ⟨y, hy⟩ := key
  rw [hy]; walk_at "ev"
theorem so_ints (k : Nat) (xs : List Int) (hz : xs.length ≤ 1000000) (g : Gp) : m__law_so (k + 2) [.tup (xs.map D.int), .tup (xs.map D.int)] g = .ok (.bl true) g :=
  so_tup (k + 1) _ (by rw [List.length_map]; exact hz) (fun d hd g => by
    obtain ⟨x, _, rfl⟩ := List.mem_map.mp hd
    rw [so_int, decide_eq_true rfl]) g
/-! ### the parts, in plain Lean -/
def nearZ (a b p : Int) : Int := (2 * p * a + b) / (2 * b)
structure Ky where
  w : Int
  c : Int
  l : List Int
def ltL : List Int → List Int → Bool
  | x :: xs, y :: ys => if x = y then ltL xs ys else decide (x < y)
  | [], _ :: _ => true
  | _, [] => false
def ltK (k f : Ky) : Bool := if k.w = f.w then (if k.c = f.c then ltL k.l f.l else decide (k.c < f.c)) else decide (k.w < f.w)
def mkKy (a b : Int) (left : Ky) (part : Int) : Ky := ⟨left.w - nearZ a b part, left.c + 1, (isort (left.l.map (-·) ++ [-part])).map (-·)⟩
/-- the best of the first j parts of pence -/
def innK (a b : Int) (bs : List Ky) (pence : Nat) : Nat → Option Ky
  | 0 => none
  | j + 1 => match bs[pence - (j + 1)]? with
    | none => none
    | some left => match innK a b bs pence j with
      | none => some (mkKy a b left (j + 1 : Nat))
      | some f => if ltK (mkKy a b left (j + 1 : Nat)) f then some (mkKy a b left (j + 1 : Nat)) else some f
def outK (a b : Int) : Nat → List Ky
  | 0 => [⟨0, 0, []⟩]
  | n + 1 => let bs := outK a b n
    bs ++ (innK a b bs (n + 1) (n + 1)).toList
/-- one row of scores from the one ahead -/
def rowZ (ws : List Int) (base : Int) (cap : Nat) (ahead : List Int) (row : List Int) : Nat → List Int
  | 0 => row
  | m + 1 => let r := rowZ ws base cap ahead row m
    let left := cap + m
    r ++ [max (ahead.getD left 0) (r.getD (left - cap) 0 + (ws.getD cap 0 * base - 1))]
def rowsZ (ws : List Int) (whole : Nat) : Nat → List (List Int)
  | 0 => []
  | 1 => [(List.range (whole + 1)).map fun m : Nat => (ws.getD 1 0 * ((whole : Int) + 1) - 1) * (m : Int)]
  | n + 2 => let rs := rowsZ ws whole (n + 1)
    let ahead := rs.getD n []
    rs ++ [rowZ ws (whole + 1) (n + 2) ahead (ahead.take (n + 2)) (whole + 1 - (n + 2))]
def capZ (rows : List (List Int)) (left cap : Nat) (goal : Int) : Nat → Nat → Nat
  | 0, _ => cap
  | k + 1, low => if (rows.getD (low - 1) []).getD left 0 = goal then low else capZ rows left cap goal k (low + 1)
def partsZ (rows : List (List Int)) (ws : List Int) (base : Int) : Nat → Nat → Nat → Int → List Int
  | 0, _, _, _ => []
  | f + 1, left, cap, goal => if left = 0 then [] else
    let c := capZ rows left (min cap left) goal (min cap left - 1) 1
    (c : Int) :: partsZ rows ws base f (left - c) c (goal - (ws.getD c 0 * base - 1))
def bestZ (ws : List Int) (whole : Nat) : Int × List Int :=
  if whole = 0 then (0, []) else
    let rows := rowsZ ws whole whole
    let goal := (rows.getD (whole - 1) []).getD whole 0
    (-(-goal / (whole + 1)), partsZ rows ws (whole + 1) whole whole whole goal)
def wsZ (a b : Int) (n : Nat) : List Int := (List.range (n + 1)).map fun p : Nat => (2 * ((p : Int) * a) + b) / (2 * b)
def chkP (a b : Int) : Bool := let bs := outK a b 16
  bs.length == 17 && (List.range 17).all fun p => match bs[p]? with
    | none => false
    | some k => let r := bestZ (wsZ a b p) p
      decide (r.1 = -k.w) && decide (r.2 = k.l)
/-! ### the law's partings -/
theorem near_ok {a b : Int} (h : Rt a b) (p : Int) (g : Gp) : m__law_near [.int p, rt a b] g = .ok (.int (nearZ a b p)) g := by
  have h1 := h.a0; have h2 := h.b0; have h3 := h.a1; have h4 := h.b1
  unfold m__law_near rt nearZ
  walk_at "ev"
def encK (k : Ky) : D := .tup [.int k.w, .int k.c, .tup (k.l.map D.int)]
def pK (k : Ky) : PyData := .tuple [.int k.w, .int k.c, .tuple (k.l.map PyData.int)]
theorem toP1_K (k : Ky) (g : Gp) : toP1 g (encK k) = some (pK k) := by
  show toP0 (encK k) = _
  unfold encK pK
  simp only [toP0, toPs0, toPs0_ints, Option.map_some]
theorem shaped_K (k : Ky) : SeqAt.shaped (pK k) = true := by
  unfold SeqAt.shaped pK
  simp only [PyData.canLay0, PyData.canLayAll0, canLay_ints, PyData.depth, PyData.depthAll, depth_ints]
  rfl
theorem cmpOks_ints : ∀ xs ys : List Int, cmpOks (xs.map PyData.int) (ys.map PyData.int) = true
  | [], ys => by cases ys <;> simp [cmpOks]
  | x :: xs, [] => by simp [cmpOks]
  | x :: xs, y :: ys => by rw [List.map_cons, List.map_cons, cmpOks, cmpOks_ints xs ys, cmpOk]; simp
theorem eqvAll_dec : ∀ xs ys : List Int, PyData.eqvAll (xs.map PyData.int) (ys.map PyData.int) = decide (xs = ys)
  | [], [] => by simp [PyData.eqvAll]
  | [], _ :: _ => by simp [PyData.eqvAll]
  | _ :: _, [] => by simp [PyData.eqvAll]
  | x :: xs, y :: ys => by
    rw [List.map_cons, List.map_cons, PyData.eqvAll, eqvAll_dec xs ys, PyData.eqv]
    by_cases h : x = y <;> by_cases h' : xs = ys <;> simp [h, h']
theorem cmpL_ints : ∀ xs ys : List Int, cmpL .Lt (xs.map PyData.int) (ys.map PyData.int) = ltL xs ys
  | [], [] => by simp [cmpL, ltL, opN]
  | [], _ :: _ => by simp [cmpL, ltL, opN]
  | _ :: _, [] => by simp [cmpL, ltL, opN]
  | x :: xs, y :: ys => by
    rw [List.map_cons, List.map_cons, cmpL, ltL, cmpL_ints xs ys, PyData.eqv, cmpP]
    have : opI .Lt x y = decide (x < y) := ltZ_eq x y
    rw [this]
    by_cases h : x = y <;> simp [h]
theorem ltL_irr : ∀ xs : List Int, ltL xs xs = false
  | [] => rfl
  | x :: xs => by rw [ltL, if_pos rfl]; exact ltL_irr xs
theorem lt_K (k f : Ky) (g : Gp) : cmpD .Lt (encK k) (encK f) g = .ok (.bl (ltK k f)) g := by
  show (match toP1 g (encK k), toP1 g (encK f) with
    | some d, some e => if SeqAt.shaped d = true ∧ SeqAt.shaped e = true ∧ cmpOk d e = true then R.ok (D.bl (cmpP .Lt d e)) g else .bad
    | _, _ => .bad) = _
  rw [toP1_K, toP1_K]
  have ho : cmpOk (pK k) (pK f) = true := by
    unfold pK
    simp only [cmpOk, cmpOks, cmpOks_ints, Bool.or_true, Bool.and_true]
  have hp : cmpP .Lt (pK k) (pK f) = ltK k f := by
    unfold pK ltK
    have e1 : opI .Lt k.w f.w = decide (k.w < f.w) := ltZ_eq _ _
    have e2 : opI .Lt k.c f.c = decide (k.c < f.c) := ltZ_eq _ _
    simp only [cmpP, cmpL, PyData.eqv, eqvAll_dec, cmpL_ints, e1, e2, beq_iff_eq, decide_eq_true_eq]
    by_cases h1 : k.w = f.w
    · rw [if_pos h1, if_pos h1]
      by_cases h2 : k.c = f.c
      · rw [if_pos h2, if_pos h2]
        by_cases h3 : k.l = f.l
        · rw [if_pos h3, h3, ltL_irr]; simp [opN]
        · rw [if_neg h3]
      · rw [if_neg h2, if_neg h2]
    · rw [if_neg h1, if_neg h1]
  simp only [shaped_K, ho, hp, and_self, if_true]
theorem isort_ints_sorted (xs : List Int) (g : Gp) (r : Nat) (h : g[r]? = some (.lst (xs.map D.int))) : sortedF [.ref r] g = .ok (.ref g.length) (g ++ [O.lst ((isort xs).map D.int)]) := by
  simp only [sortedF, h, intsD_map]
theorem neg_lc (v : Nat) (m : ME) (s : Sl) (xs : List Int) (g : Gp) (hv : v < s.length) (hm : m s g = .ok (.tup (xs.map D.int)) g) (hz : xs.length ≤ 1000000) :
    mLc [v] (iAny m) (gN v) tYes' (mUn negD (mVar v)) s g = .ok (.ref g.length) (g ++ [O.lst ((xs.map (-·)).map D.int)]) := by
  have := lc_tup (vs := [v]) (tg := gN v) (te := mUn negD (mVar v)) (s := s) (g := g) (g1 := g) (f := fun d => match d with
    | .int i => .int (-i)
    | d => d) hm (by rw [List.length_map]; exact hz) (fun x hx L => by
      obtain ⟨i, _, rfl⟩ := List.mem_map.mp hx
      refine ⟨_, rfl, ?_⟩
      have hl : v < (wipeD s [v]).length := by simp [wipeD]; exact hv
      have e : mVar v (List.set (wipeD s [v]) v (some (.int i))) (g ++ [O.lst L]) = .ok (.int i) (g ++ [O.lst L]) := ev_var _ _ v (List.getElem?_set_self hl)
      rw [ev_un, e, R.bind_ok]
      rfl)
  rw [this, List.map_map, List.map_map]
  rfl
def encO : Option Ky → D
  | none => .non
  | some k => encK k
theorem isD_encO (o : Option Ky) (g : Gp) : isD (encO o) .non g = .ok (.bl o.isNone) g := by cases o <;> rfl
theorem bp_turn {a b : Int} (h : Rt a b) {bs : List Ky} {left : Ky} {n p : Nat} (hp : 1 ≤ p ∧ p ≤ n) (hl : bs[n - p]? = some left) (hz : left.l.length ≤ 1000) {g : Gp} {r : Nat} (hr : g[r]? = some (.lst (bs.map encK))) (o : Option Ky) (x1 x6 x7 x8 x9 : Option D) :
    ∃ (G : Gp) (y6 y7 y8 y9 : Option D), l__law_by_parts_1 [some (rt a b), x1, some (.ref r), some (.int n), some (encO o), some (.int p), x6, x7, x8, x9] g =
      .nx [some (rt a b), x1, some (.ref r), some (.int n), some (encK (match o with | none => mkKy a b left p | some f => if ltK (mkKy a b left p) f then mkKy a b left p else f)), some (.int p), y6, y7, y8, y9] (g ++ G) := by
  have hix : ixD (.ref r) (.int ((n : Int) - p)) g = .ok (encK left) g := by
    refine vd_ixL _ _ hr (at_get (by omega) ?_)
    have : ((n : Int) - p).toNat = n - p := by omega
    rw [this, List.getElem?_map, hl]; rfl
  have h7 : ∃ G1 : Gp, mCall tupleF (mCons (mCall sortedF (mCons (mOp addD (mLc [9] (iAny (mOp ixD (mVar 6) (mC (.int 2)))) (gN 9) (tYes') (mUn negD (mVar 9))) (mLst (mCons (mUn negD (mVar 5)) (mNil)))) (mNil))) (mNil)) [some (rt a b), x1, some (.ref r), some (.int n), some (encO o), some (.int p), some (encK left), x7, x8, x9] g = .ok (.tup ((isort (left.l.map (-·) ++ [-(p : Int)])).map D.int)) (g ++ G1) := by
    have q1 := neg_lc 9 (mOp ixD (mVar 6) (mC (.int 2))) [some (rt a b), x1, some (.ref r), some (.int n), some (encO o), some (.int p), some (encK left), x7, x8, x9] left.l g (by simp) rfl (by omega)
    have q2 : mLst (mCons (mUn negD (mVar 5)) mNil) [some (rt a b), x1, some (.ref r), some (.int n), some (encO o), some (.int p), some (encK left), x7, x8, x9] (g ++ [O.lst ((left.l.map (-·)).map D.int)]) = .ok (.ref (g ++ [O.lst ((left.l.map (-·)).map D.int)]).length) (g ++ [O.lst ((left.l.map (-·)).map D.int)] ++ [O.lst ([-(p : Int)].map D.int)]) := rfl
    have q3 : addD (.ref g.length) (.ref (g ++ [O.lst ((left.l.map (-·)).map D.int)]).length) (g ++ [O.lst ((left.l.map (-·)).map D.int)] ++ [O.lst ([-(p : Int)].map D.int)]) = .ok (.ref (g ++ [O.lst ((left.l.map (-·)).map D.int)] ++ [O.lst ([-(p : Int)].map D.int)]).length) (g ++ [O.lst ((left.l.map (-·)).map D.int)] ++ [O.lst ([-(p : Int)].map D.int)] ++ [O.lst ((left.l.map (-·) ++ [-(p : Int)]).map D.int)]) := by
      have c1 : (g ++ [O.lst ((left.l.map (-·)).map D.int)] ++ [O.lst ([-(p : Int)].map D.int)])[g.length]? = some (.lst ((left.l.map (-·)).map D.int)) := by rw [List.append_assoc]; exact get_app0 _ _
      have c2 : (g ++ [O.lst ((left.l.map (-·)).map D.int)] ++ [O.lst ([-(p : Int)].map D.int)])[(g ++ [O.lst ((left.l.map (-·)).map D.int)]).length]? = some (.lst ([-(p : Int)].map D.int)) := get_app0 _ _
      simp only [addD, c1, c2]
      rw [if_pos (by simp; omega), List.map_append]
    rw [ev_call, ev_cons, ev_call, ev_cons, ev_op, q1, R.bind_ok, q2, R.bind_ok, q3, R.bind_ok, ev_nil, R.bind_ok, R.bind_ok, isort_ints_sorted _ _ _ (get_app0 _ _), R.bind_ok, ev_nil, R.bind_ok, R.bind_ok, vd_tupleL _ (get_app0 _ _)]
    exact ⟨_, by rw [List.append_assoc, List.append_assoc, List.append_assoc]⟩
  obtain ⟨G1, h7⟩ := h7
  have h8 : ∃ G2 : Gp, mTup (mCons (mOp subD (mOp ixD (mVar 6) (mC (.int 0))) (mCall m__law_near (mCons (mVar 5) (mCons (mVar 0) (mNil))))) (mCons (mOp addD (mOp ixD (mVar 6) (mC (.int 1))) (mC (.int 1))) (mCons (mCall tupleF (mCons (mLc [9] (iAny (mVar 7)) (gN 9) (tYes') (mUn negD (mVar 9))) (mNil))) (mNil)))) [some (rt a b), x1, some (.ref r), some (.int n), some (encO o), some (.int p), some (encK left), some (.tup ((isort (left.l.map (-·) ++ [-(p : Int)])).map D.int)), x8, x9] (g ++ G1) = .ok (encK (mkKy a b left p)) (g ++ G1 ++ G2) := by
    have q1 := neg_lc 9 (mVar 7) [some (rt a b), x1, some (.ref r), some (.int n), some (encO o), some (.int p), some (encK left), some (.tup ((isort (left.l.map (-·) ++ [-(p : Int)])).map D.int)), x8, x9] (isort (left.l.map (-·) ++ [-(p : Int)])) (g ++ G1) (by simp) rfl (by rw [(isort_perm _).length_eq]; simp; omega)
    refine ⟨[.lst (((isort (left.l.map (-·) ++ [-(p : Int)])).map (-·)).map D.int)], ?_⟩
    unfold encK at q1 ⊢
    walk_at "ev"
    rw [near_ok h]; walk_at "ev"
    rw [q1]; walk_at "ev"
    rw [vd_tupleL _ (get_app0 _ _)]; walk_at "ev"
    rfl
  obtain ⟨G2, h8⟩ := h8
  refine ⟨G1 ++ G2, some (encK left), some (.tup ((isort (left.l.map (-·) ++ [-(p : Int)])).map D.int)), some (encK (mkKy a b left p)), x9, ?_⟩
  unfold l__law_by_parts_1
  rw [ev_seq, ev_set]
  have h6 : mOp ixD (mVar 2) (mOp subD (mVar 3) (mVar 5)) [some (rt a b), x1, some (.ref r), some (.int n), some (encO o), some (.int p), x6, x7, x8, x9] g = .ok (encK left) g := by
    walk_at "ev"; exact hix
  rw [h6, R.go_ok, F.then_nx, ev_seq, ev_set]
  simp only [List.set_cons_succ, List.set_cons_zero]
  rw [h7, R.go_ok, F.then_nx, ev_seq, ev_set]
  simp only [List.set_cons_succ, List.set_cons_zero]
  rw [h8, R.go_ok, F.then_nx, ev_set]
  simp only [List.set_cons_succ, List.set_cons_zero]
  walk_at "ev"
  rw [isD_encO]
  rw [← List.append_assoc]
  cases o with
  | none => simp only [Option.isNone]; walk_at "ev"
  | some f =>
    simp only [Option.isNone]; walk_at "ev"
    rw [show encO (some f) = encK f from rfl, lt_K]; walk_at "ev"
    cases ltK (mkKy a b left p) f <;> rfl
theorem mkKy_len (a b : Int) (left : Ky) (p : Int) : (mkKy a b left p).l.length = left.l.length + 1 := by
  unfold mkKy
  rw [List.length_map, (isort_perm _).length_eq, List.length_append, List.length_map]; rfl
/-- the list of the best so far is sound -/
def OkBs (bs : List Ky) (n : Nat) : Prop := bs.length = n ∧ ∀ (i : Nat) (k : Ky), bs[i]? = some k → k.l.length ≤ i
theorem innK_ok {a b : Int} {bs : List Ky} {n : Nat} (h : OkBs bs n) : ∀ j, 1 ≤ j → j ≤ n → ∃ k : Ky, innK a b bs n j = some k ∧ k.l.length ≤ n
  | 0, h1, _ => by omega
  | j + 1, _, h2 => by
    have hlt : n - (j + 1) < bs.length := by rw [h.1]; omega
    have hb : bs[n - (j + 1)]? = some bs[n - (j + 1)] := List.getElem?_eq_getElem hlt
    have hl := h.2 _ _ hb
    rw [innK, hb]
    by_cases hj : j = 0
    · subst hj
      refine ⟨_, rfl, ?_⟩
      rw [mkKy_len]; omega
    · obtain ⟨k, e1, e2⟩ := innK_ok h j (by omega) (by omega)
      rw [e1]
      dsimp only
      split
      · exact ⟨_, rfl, by rw [mkKy_len]; omega⟩
      · exact ⟨_, rfl, e2⟩
theorem outK_ok (a b : Int) : ∀ n, OkBs (outK a b n) (n + 1)
  | 0 => ⟨rfl, fun i k h => by
    cases i with
    | zero => simp [outK] at h; subst h; simp
    | succ i => simp [outK] at h⟩
  | n + 1 => by
    have ih := outK_ok a b n
    obtain ⟨k, e1, e2⟩ := innK_ok (a := a) (b := b) ih (n + 1) (by omega) (by omega)
    have e : outK a b (n + 1) = outK a b n ++ [k] := by rw [outK]; simp only [e1]; rfl
    rw [e]
    refine ⟨by rw [List.length_append, ih.1]; rfl, fun i k' h => ?_⟩
    by_cases hi : i < n + 1
    · rw [List.getElem?_append_left (by rw [ih.1]; exact hi)] at h
      exact ih.2 i k' h
    · rw [List.getElem?_append_right (by rw [ih.1]; omega), ih.1] at h
      cases hd : i - (n + 1) with
      | zero => rw [hd] at h; simp at h; subst h; omega
      | succ m => rw [hd] at h; simp at h
theorem outK_succ (a b : Int) (n : Nat) : ∃ k, innK a b (outK a b n) (n + 1) (n + 1) = some k ∧ outK a b (n + 1) = outK a b n ++ [k] := by
  obtain ⟨k, e1, _⟩ := innK_ok (a := a) (b := b) (outK_ok a b n) (n + 1) (by omega) (by omega)
  exact ⟨k, e1, by rw [outK]; simp only [e1]; rfl⟩
theorem bp_inner {a b : Int} (h : Rt a b) {bs : List Ky} {n : Nat} (hb : OkBs bs n) (hn : n ≤ 500) {g : Gp} {r : Nat} (hr : g[r]? = some (.lst (bs.map encK))) (x1 x5 x6 x7 x8 x9 : Option D) :
    ∃ (G : Gp) (y5 y6 y7 y8 y9 : Option D), sFor (iRg2 (mCons (mC (.int 1)) (mCons (mOp addD (mVar 3) (mC (.int 1))) mNil))) (gN 5) l__law_by_parts_1 [some (rt a b), x1, some (.ref r), some (.int n), some .non, x5, x6, x7, x8, x9] g =
      .nx [some (rt a b), x1, some (.ref r), some (.int n), some (encO (innK a b bs n n)), y5, y6, y7, y8, y9] (g ++ G) := by
  unfold sFor
  rw [i_rg2 (i := 1) (j := n + 1) (g1 := g) (by walk_at "ev") (by omega) (by omega), R.go_ok]
  have hN : ((n : Int) + 1 - 1).toNat = n := by omega
  rw [hN]
  obtain ⟨s2, g2, q1, G, y5, y6, y7, y8, y9, rfl, q3⟩ := for_rng0 (tg := gN 5) (b := l__law_by_parts_1) (lo := 1) (n := n)
    (P := fun j s g' => ∃ (G : Gp) (y5 y6 y7 y8 y9 : Option D), g' = g ++ G ∧ s = [some (rt a b), x1, some (.ref r), some (.int n), some (encO (innK a b bs n j)), y5, y6, y7, y8, y9])
    (s := [some (rt a b), x1, some (.ref r), some (.int n), some .non, x5, x6, x7, x8, x9]) (g := g) ⟨[], x5, x6, x7, x8, x9, by rw [List.append_nil], rfl⟩ (by
      rintro j s g' hj ⟨G, y5, y6, y7, y8, y9, rfl, rfl⟩
      have hlt : n - (j + 1) < bs.length := by rw [hb.1]; omega
      have hbs : bs[n - (j + 1)]? = some bs[n - (j + 1)] := List.getElem?_eq_getElem hlt
      have hl := hb.2 _ _ hbs
      obtain ⟨G', z6, z7, z8, z9, e⟩ := bp_turn h (p := j + 1) (n := n) (by omega) hbs (by omega) (get_appL hr) (innK a b bs n j) x1 y6 y7 y8 y9 (g := g ++ G)
      have ei : (1 + (j : Int)) = ((j + 1 : Nat) : Int) := by omega
      have hK : innK a b bs n (j + 1) = some (match innK a b bs n j with | none => mkKy a b bs[n - (j + 1)] (j + 1 : Nat) | some f => if ltK (mkKy a b bs[n - (j + 1)] (j + 1 : Nat)) f then mkKy a b bs[n - (j + 1)] (j + 1 : Nat) else f) := by
        rw [innK, hbs]
        cases innK a b bs n j with
        | none => rfl
        | some f => dsimp only; split <;> rfl
      refine ⟨_, [some (rt a b), x1, some (.ref r), some (.int n), some (encO (innK a b bs n (j + 1))), some (.int ((j + 1 : Nat) : Int)), z6, z7, z8, z9], g ++ G ++ G', rfl, .inl ?_, G ++ G', some (.int ((j + 1 : Nat) : Int)), z6, z7, z8, z9, List.append_assoc _ _ _, rfl⟩
      rw [ei, hK]; simp only [List.set_cons_succ, List.set_cons_zero]
      exact e)
  exact ⟨G, y5, y6, y7, y8, y9, by rw [q1, q3]⟩
theorem unders_K (n : Nat) (bs : List Ky) : D.unders n (bs.map encK) = true := by
  rw [unders_all, List.all_eq_true]
  intro d hd
  obtain ⟨k, _, rfl⟩ := List.mem_map.mp hd
  unfold encK
  rw [under_tup, unders_cons, unders_cons, unders_cons, under_int, under_int, under_tup, unders_ints]; rfl
theorem by_parts_ok {a b : Int} (h : Rt a b) (N : Nat) (hN : N ≤ 500) (g : Gp) : m__law_by_parts [rt a b, .int N] g = .ok (.ref g.length) (g ++ [.lst ((outK a b N).map encK)]) := by
  unfold m__law_by_parts
  rw [ev_fun, ev_seq, ev_set]
  have e1 : mLst (mCons (mTup (mCons (mC (.int 0)) (mCons (mC (.int 0)) (mCons (mTup (mNil)) (mNil))))) (mNil)) (slots 10 [rt a b, .int N]) g = .ok (.ref g.length) (g ++ [.lst ((outK a b 0).map encK)]) := rfl
  rw [e1, R.go_ok, F.then_nx, ev_seq]
  have key : ∃ (G : Gp) (y3 y4 y5 y6 y7 y8 y9 : Option D), sFor (iRg2 (mCons (mC (.int 1)) (mCons (mOp addD (mVar 1) (mC (.int 1))) mNil))) (gN 3) l__law_by_parts_0 [some (rt a b), some (.int N), some (.ref g.length), none, none, none, none, none, none, none] (g ++ [.lst ((outK a b 0).map encK)]) =
      .nx [some (rt a b), some (.int N), some (.ref g.length), y3, y4, y5, y6, y7, y8, y9] (g ++ (.lst ((outK a b N).map encK) :: G)) := by
    unfold sFor
    rw [i_rg2 (i := 1) (j := N + 1) (g1 := g ++ [.lst ((outK a b 0).map encK)]) (by walk_at "ev") (by omega) (by omega), R.go_ok]
    have hNn : ((N : Int) + 1 - 1).toNat = N := by omega
    rw [hNn]
    obtain ⟨s2, g2, q1, G, y3, y4, y5, y6, y7, y8, y9, rfl, q3⟩ := for_rng0 (tg := gN 3) (b := l__law_by_parts_0) (lo := 1) (n := N)
      (P := fun j s g' => ∃ (G : Gp) (y3 y4 y5 y6 y7 y8 y9 : Option D), g' = g ++ (.lst ((outK a b j).map encK) :: G) ∧ s = [some (rt a b), some (.int N), some (.ref g.length), y3, y4, y5, y6, y7, y8, y9])
      (s := [some (rt a b), some (.int N), some (.ref g.length), none, none, none, none, none, none, none]) (g := g ++ [.lst ((outK a b 0).map encK)]) ⟨[], none, none, none, none, none, none, none, rfl, rfl⟩ (by
        rintro j s g' hj ⟨G, y3, y4, y5, y6, y7, y8, y9, rfl, rfl⟩
        have ei : (1 + (j : Int)) = ((j + 1 : Nat) : Int) := by omega
        have hok := outK_ok a b j
        have hget : (g ++ (O.lst ((outK a b j).map encK) :: G))[g.length]? = some (.lst ((outK a b j).map encK)) := get_app0 _ _
        obtain ⟨k, hk1, hk2⟩ := outK_succ a b j
        obtain ⟨G', z5, z6, z7, z8, z9, e⟩ := bp_inner h hok (by omega) hget (some (.int N)) y5 y6 y7 y8 y9
        refine ⟨_, [some (rt a b), some (.int N), some (.ref g.length), some (.int ((j + 1 : Nat) : Int)), some (encK k), z5, z6, z7, z8, z9], g ++ (.lst ((outK a b (j + 1)).map encK) :: (G ++ G')), rfl, .inl ?_, G ++ G', _, _, _, _, _, _, _, rfl, rfl⟩
        unfold l__law_by_parts_0
        rw [ei, ev_seq, ev_set, ev_c, R.go_ok, F.then_nx, ev_seq]
        simp only [List.set_cons_succ, List.set_cons_zero]
        rw [e, F.then_nx, hk1, ev_drop]
        have hget' : (g ++ (O.lst ((outK a b j).map encK) :: G) ++ G')[g.length]? = some (.lst ((outK a b j).map encK)) := get_appL hget
        rw [ev_meL (r := g.length) rfl hget']
        have ea : mCons (mVar 4) mNil [some (rt a b), some (.int N), some (.ref g.length), some (.int ((j + 1 : Nat) : Int)), some (encO (some k)), z5, z6, z7, z8, z9] (g ++ (O.lst ((outK a b j).map encK) :: G) ++ G') = .ok [encK k] (g ++ (O.lst ((outK a b j).map encK) :: G) ++ G') := rfl
        rw [ea, R.bind_ok, append_ok hget' (by rw [List.length_map, hok.1]; omega), R.go_ok, hk2, List.map_append, List.append_assoc, set_app0]
        rfl)
    exact ⟨G, y3, y4, y5, y6, y7, y8, y9, by rw [q1, q3]⟩
  obtain ⟨G, y3, y4, y5, y6, y7, y8, y9, e⟩ := key
  show gc g (fin (F.then (sFor _ _ _ [some (rt a b), some (.int N), some (.ref g.length), none, none, none, none, none, none, none] _) _)) = _
  rw [e, F.then_nx]
  walk_at "ev"
  exact gc_lst0 g _ 0 _ rfl (unders_K _ _)
/-! ### what the program makes of parts, by the kernel -/
def eqL : List Int → List Int → Bool
  | [], [] => true
  | x :: xs, y :: ys => match decide (x = y) with
    | true => eqL xs ys
    | false => false
  | _, _ => false
theorem eqL_eq : ∀ xs ys : List Int, eqL xs ys = true → xs = ys
  | [], [], _ => rfl
  | x :: xs, y :: ys, h => by
    rw [eqL] at h
    split at h
    · rename_i h1
      rw [of_decide_eq_true h1, eqL_eq xs ys h]
    · cases h
  | [], _ :: _, h => by simp [eqL] at h
  | _ :: _, [], h => by simp [eqL] at h
def okT : List Ky → List (Int × List Int) → Bool
  | [], [] => true
  | k :: ks, t :: ts => match decide (-k.w = t.1) with
    | true => match eqL k.l t.2 with
      | true => okT ks ts
      | false => false
    | false => false
  | _, _ => false
theorem okT_get : ∀ (ks : List Ky) (ts : List (Int × List Int)), okT ks ts = true → ∀ (p : Nat) (k : Ky), ks[p]? = some k → ts[p]? = some (-k.w, k.l)
  | [], _, _, _, _, e => by simp at e
  | k :: ks, [], h, _, _, _ => by simp [okT] at h
  | k :: ks, t :: ts, h, p, k', e => by
    rw [okT] at h
    split at h
    · rename_i h1
      split at h
      · rename_i h2
        cases p with
        | zero =>
          simp at e; subst e
          have e1 := of_decide_eq_true h1
          have e2 := eqL_eq _ _ h2
          simp [e1, e2]
        | succ p => simpa using okT_get ks ts h p k' (by simpa using e)
      · cases h
    · cases h
noncomputable def mosts (r : D) : Nat → List (Int × List Int) → Bool
  | _, [] => true
  | p, t :: ts => match isV (.tup [.int t.1, .tup (t.2.map D.int)]) (m_most_by_parts [.int (Int.ofNat p), r] []) with
    | true => mosts r (p + 1) ts
    | false => false
theorem mosts_get {r : D} : ∀ (ts : List (Int × List Int)) (q : Nat), mosts r q ts = true → ∀ (p : Nat) (t : Int × List Int), ts[p]? = some t → isV (.tup [.int t.1, .tup (t.2.map D.int)]) (m_most_by_parts [.int (Int.ofNat (q + p)), r] []) = true
  | [], _, _, _, _, e => by simp at e
  | t :: ts, q, h, p, t', e => by
    rw [mosts] at h
    split at h
    · rename_i h1
      cases p with
      | zero => simp at e; subst e; exact h1
      | succ p =>
        have := mosts_get ts (q + 1) h p t' (by simpa using e)
        rw [show q + (p + 1) = q + 1 + p from by omega]; exact this
    · cases h
def isGain (a b : Int) : D → Bool
  | .int p => match (outK a b 16)[p.toNat]? with
    | some k => decide (nearZ a b p < -k.w)
    | none => false
  | _ => false
def gainsD (a b : Int) : List D := (rngL 1 16).filter (isGain a b)
def headD : List D → D
  | [] => .non
  | d :: _ => d
def ckO (a b : Int) (T : List (Int × List Int)) : Bool := okT (outK a b 16) T
noncomputable def ckM (a b : Int) (T : List (Int × List Int)) : Bool := mosts (rt a b) 0 T
noncomputable def ckG (a b : Int) : Bool := isV (headD (gainsD a b)) (m_parts_gain [rt a b, .int 16] [])

def T_1_1 : List (Int × List Int) := [(0, []), (1, [1]), (2, [2]), (3, [3]), (4, [4]), (5, [5]), (6, [6]), (7, [7]), (8, [8]), (9, [9]), (10, [10]), (11, [11]), (12, [12]), (13, [13]), (14, [14]), (15, [15]), (16, [16])]
theorem o_1_1 : ckO 1 1 T_1_1 = true := by decide +kernel
theorem m_1_1 : ckM 1 1 T_1_1 = true := by decide +kernel
theorem g_1_1 : ckG 1 1 = true := by decide +kernel
def T_1_2 : List (Int × List Int) := [(0, []), (1, [1]), (2, [1, 1]), (3, [1, 1, 1]), (4, [1, 1, 1, 1]), (5, [1, 1, 1, 1, 1]), (6, [1, 1, 1, 1, 1, 1]), (7, [1, 1, 1, 1, 1, 1, 1]), (8, [1, 1, 1, 1, 1, 1, 1, 1]), (9, [1, 1, 1, 1, 1, 1, 1, 1, 1]), (10, [1, 1, 1, 1, 1, 1, 1, 1, 1, 1]), (11, [1, 1, 1, 1, 1, 1, 1, 1, 1, 1, 1]), (12, [1, 1, 1, 1, 1, 1, 1, 1, 1, 1, 1, 1]), (13, [1, 1, 1, 1, 1, 1, 1, 1, 1, 1, 1, 1, 1]), (14, [1, 1, 1, 1, 1, 1, 1, 1, 1, 1, 1, 1, 1, 1]), (15, [1, 1, 1, 1, 1, 1, 1, 1, 1, 1, 1, 1, 1, 1, 1]), (16, [1, 1, 1, 1, 1, 1, 1, 1, 1, 1, 1, 1, 1, 1, 1, 1])]
theorem o_1_2 : ckO 1 2 T_1_2 = true := by decide +kernel
theorem m_1_2 : ckM 1 2 T_1_2 = true := by decide +kernel
theorem g_1_2 : ckG 1 2 = true := by decide +kernel
def T_1_3 : List (Int × List Int) := [(0, []), (0, [1]), (1, [2]), (1, [3]), (2, [2, 2]), (2, [5]), (3, [2, 2, 2]), (3, [5, 2]), (4, [2, 2, 2, 2]), (4, [5, 2, 2]), (5, [2, 2, 2, 2, 2]), (5, [5, 2, 2, 2]), (6, [2, 2, 2, 2, 2, 2]), (6, [5, 2, 2, 2, 2]), (7, [2, 2, 2, 2, 2, 2, 2]), (7, [5, 2, 2, 2, 2, 2]), (8, [2, 2, 2, 2, 2, 2, 2, 2])]
theorem o_1_3 : ckO 1 3 T_1_3 = true := by decide +kernel
theorem m_1_3 : ckM 1 3 T_1_3 = true := by decide +kernel
theorem g_1_3 : ckG 1 3 = true := by decide +kernel
def T_1_4 : List (Int × List Int) := [(0, []), (0, [1]), (1, [2]), (1, [3]), (2, [2, 2]), (2, [3, 2]), (3, [2, 2, 2]), (3, [3, 2, 2]), (4, [2, 2, 2, 2]), (4, [3, 2, 2, 2]), (5, [2, 2, 2, 2, 2]), (5, [3, 2, 2, 2, 2]), (6, [2, 2, 2, 2, 2, 2]), (6, [3, 2, 2, 2, 2, 2]), (7, [2, 2, 2, 2, 2, 2, 2]), (7, [3, 2, 2, 2, 2, 2, 2]), (8, [2, 2, 2, 2, 2, 2, 2, 2])]
theorem o_1_4 : ckO 1 4 T_1_4 = true := by decide +kernel
theorem m_1_4 : ckM 1 4 T_1_4 = true := by decide +kernel
theorem g_1_4 : ckG 1 4 = true := by decide +kernel
def T_1_5 : List (Int × List Int) := [(0, []), (0, [1]), (0, [2]), (1, [3]), (1, [4]), (1, [5]), (2, [3, 3]), (2, [4, 3]), (2, [8]), (3, [3, 3, 3]), (3, [4, 3, 3]), (3, [8, 3]), (4, [3, 3, 3, 3]), (4, [4, 3, 3, 3]), (4, [8, 3, 3]), (5, [3, 3, 3, 3, 3]), (5, [4, 3, 3, 3, 3])]
theorem o_1_5 : ckO 1 5 T_1_5 = true := by decide +kernel
theorem m_1_5 : ckM 1 5 T_1_5 = true := by decide +kernel
theorem g_1_5 : ckG 1 5 = true := by decide +kernel
def T_1_6 : List (Int × List Int) := [(0, []), (0, [1]), (0, [2]), (1, [3]), (1, [4]), (1, [5]), (2, [3, 3]), (2, [4, 3]), (2, [4, 4]), (3, [3, 3, 3]), (3, [4, 3, 3]), (3, [4, 4, 3]), (4, [3, 3, 3, 3]), (4, [4, 3, 3, 3]), (4, [4, 4, 3, 3]), (5, [3, 3, 3, 3, 3]), (5, [4, 3, 3, 3, 3])]
theorem o_1_6 : ckO 1 6 T_1_6 = true := by decide +kernel
theorem m_1_6 : ckM 1 6 T_1_6 = true := by decide +kernel
theorem g_1_6 : ckG 1 6 = true := by decide +kernel
def T_1_7 : List (Int × List Int) := [(0, []), (0, [1]), (0, [2]), (0, [3]), (1, [4]), (1, [5]), (1, [6]), (1, [7]), (2, [4, 4]), (2, [5, 4]), (2, [5, 5]), (2, [11]), (3, [4, 4, 4]), (3, [5, 4, 4]), (3, [5, 5, 4]), (3, [11, 4]), (4, [4, 4, 4, 4])]
theorem o_1_7 : ckO 1 7 T_1_7 = true := by decide +kernel
theorem m_1_7 : ckM 1 7 T_1_7 = true := by decide +kernel
theorem g_1_7 : ckG 1 7 = true := by decide +kernel
def T_2_1 : List (Int × List Int) := [(0, []), (2, [1]), (4, [2]), (6, [3]), (8, [4]), (10, [5]), (12, [6]), (14, [7]), (16, [8]), (18, [9]), (20, [10]), (22, [11]), (24, [12]), (26, [13]), (28, [14]), (30, [15]), (32, [16])]
theorem o_2_1 : ckO 2 1 T_2_1 = true := by decide +kernel
theorem m_2_1 : ckM 2 1 T_2_1 = true := by decide +kernel
theorem g_2_1 : ckG 2 1 = true := by decide +kernel
def T_2_3 : List (Int × List Int) := [(0, []), (1, [1]), (2, [1, 1]), (3, [1, 1, 1]), (4, [1, 1, 1, 1]), (5, [1, 1, 1, 1, 1]), (6, [1, 1, 1, 1, 1, 1]), (7, [1, 1, 1, 1, 1, 1, 1]), (8, [1, 1, 1, 1, 1, 1, 1, 1]), (9, [1, 1, 1, 1, 1, 1, 1, 1, 1]), (10, [1, 1, 1, 1, 1, 1, 1, 1, 1, 1]), (11, [1, 1, 1, 1, 1, 1, 1, 1, 1, 1, 1]), (12, [1, 1, 1, 1, 1, 1, 1, 1, 1, 1, 1, 1]), (13, [1, 1, 1, 1, 1, 1, 1, 1, 1, 1, 1, 1, 1]), (14, [1, 1, 1, 1, 1, 1, 1, 1, 1, 1, 1, 1, 1, 1]), (15, [1, 1, 1, 1, 1, 1, 1, 1, 1, 1, 1, 1, 1, 1, 1]), (16, [1, 1, 1, 1, 1, 1, 1, 1, 1, 1, 1, 1, 1, 1, 1, 1])]
theorem o_2_3 : ckO 2 3 T_2_3 = true := by decide +kernel
theorem m_2_3 : ckM 2 3 T_2_3 = true := by decide +kernel
theorem g_2_3 : ckG 2 3 = true := by decide +kernel
def T_2_5 : List (Int × List Int) := [(0, []), (0, [1]), (1, [2]), (1, [3]), (2, [4]), (2, [5]), (3, [4, 2]), (3, [7]), (4, [4, 4]), (4, [9]), (5, [4, 4, 2]), (5, [7, 4]), (6, [4, 4, 4]), (6, [9, 4]), (7, [4, 4, 4, 2]), (7, [7, 4, 4]), (8, [4, 4, 4, 4])]
theorem o_2_5 : ckO 2 5 T_2_5 = true := by decide +kernel
theorem m_2_5 : ckM 2 5 T_2_5 = true := by decide +kernel
theorem g_2_5 : ckG 2 5 = true := by decide +kernel
def T_2_7 : List (Int × List Int) := [(0, []), (0, [1]), (1, [2]), (1, [3]), (2, [2, 2]), (2, [3, 2]), (3, [2, 2, 2]), (3, [3, 2, 2]), (4, [2, 2, 2, 2]), (4, [3, 2, 2, 2]), (5, [2, 2, 2, 2, 2]), (5, [3, 2, 2, 2, 2]), (6, [2, 2, 2, 2, 2, 2]), (6, [3, 2, 2, 2, 2, 2]), (7, [2, 2, 2, 2, 2, 2, 2]), (7, [3, 2, 2, 2, 2, 2, 2]), (8, [2, 2, 2, 2, 2, 2, 2, 2])]
theorem o_2_7 : ckO 2 7 T_2_7 = true := by decide +kernel
theorem m_2_7 : ckM 2 7 T_2_7 = true := by decide +kernel
theorem g_2_7 : ckG 2 7 = true := by decide +kernel
def T_3_1 : List (Int × List Int) := [(0, []), (3, [1]), (6, [2]), (9, [3]), (12, [4]), (15, [5]), (18, [6]), (21, [7]), (24, [8]), (27, [9]), (30, [10]), (33, [11]), (36, [12]), (39, [13]), (42, [14]), (45, [15]), (48, [16])]
theorem o_3_1 : ckO 3 1 T_3_1 = true := by decide +kernel
theorem m_3_1 : ckM 3 1 T_3_1 = true := by decide +kernel
theorem g_3_1 : ckG 3 1 = true := by decide +kernel
def T_3_2 : List (Int × List Int) := [(0, []), (2, [1]), (4, [1, 1]), (6, [1, 1, 1]), (8, [1, 1, 1, 1]), (10, [1, 1, 1, 1, 1]), (12, [1, 1, 1, 1, 1, 1]), (14, [1, 1, 1, 1, 1, 1, 1]), (16, [1, 1, 1, 1, 1, 1, 1, 1]), (18, [1, 1, 1, 1, 1, 1, 1, 1, 1]), (20, [1, 1, 1, 1, 1, 1, 1, 1, 1, 1]), (22, [1, 1, 1, 1, 1, 1, 1, 1, 1, 1, 1]), (24, [1, 1, 1, 1, 1, 1, 1, 1, 1, 1, 1, 1]), (26, [1, 1, 1, 1, 1, 1, 1, 1, 1, 1, 1, 1, 1]), (28, [1, 1, 1, 1, 1, 1, 1, 1, 1, 1, 1, 1, 1, 1]), (30, [1, 1, 1, 1, 1, 1, 1, 1, 1, 1, 1, 1, 1, 1, 1]), (32, [1, 1, 1, 1, 1, 1, 1, 1, 1, 1, 1, 1, 1, 1, 1, 1])]
theorem o_3_2 : ckO 3 2 T_3_2 = true := by decide +kernel
theorem m_3_2 : ckM 3 2 T_3_2 = true := by decide +kernel
theorem g_3_2 : ckG 3 2 = true := by decide +kernel
def T_3_4 : List (Int × List Int) := [(0, []), (1, [1]), (2, [2]), (3, [2, 1]), (4, [2, 2]), (5, [2, 2, 1]), (6, [2, 2, 2]), (7, [2, 2, 2, 1]), (8, [2, 2, 2, 2]), (9, [2, 2, 2, 2, 1]), (10, [2, 2, 2, 2, 2]), (11, [2, 2, 2, 2, 2, 1]), (12, [2, 2, 2, 2, 2, 2]), (13, [2, 2, 2, 2, 2, 2, 1]), (14, [2, 2, 2, 2, 2, 2, 2]), (15, [2, 2, 2, 2, 2, 2, 2, 1]), (16, [2, 2, 2, 2, 2, 2, 2, 2])]
theorem o_3_4 : ckO 3 4 T_3_4 = true := by decide +kernel
theorem m_3_4 : ckM 3 4 T_3_4 = true := by decide +kernel
theorem g_3_4 : ckG 3 4 = true := by decide +kernel
def T_3_5 : List (Int × List Int) := [(0, []), (1, [1]), (2, [1, 1]), (3, [1, 1, 1]), (4, [1, 1, 1, 1]), (5, [1, 1, 1, 1, 1]), (6, [1, 1, 1, 1, 1, 1]), (7, [1, 1, 1, 1, 1, 1, 1]), (8, [1, 1, 1, 1, 1, 1, 1, 1]), (9, [1, 1, 1, 1, 1, 1, 1, 1, 1]), (10, [1, 1, 1, 1, 1, 1, 1, 1, 1, 1]), (11, [1, 1, 1, 1, 1, 1, 1, 1, 1, 1, 1]), (12, [1, 1, 1, 1, 1, 1, 1, 1, 1, 1, 1, 1]), (13, [1, 1, 1, 1, 1, 1, 1, 1, 1, 1, 1, 1, 1]), (14, [1, 1, 1, 1, 1, 1, 1, 1, 1, 1, 1, 1, 1, 1]), (15, [1, 1, 1, 1, 1, 1, 1, 1, 1, 1, 1, 1, 1, 1, 1]), (16, [1, 1, 1, 1, 1, 1, 1, 1, 1, 1, 1, 1, 1, 1, 1, 1])]
theorem o_3_5 : ckO 3 5 T_3_5 = true := by decide +kernel
theorem m_3_5 : ckM 3 5 T_3_5 = true := by decide +kernel
theorem g_3_5 : ckG 3 5 = true := by decide +kernel
def T_3_7 : List (Int × List Int) := [(0, []), (0, [1]), (1, [2]), (1, [3]), (2, [4]), (2, [5]), (3, [6]), (3, [7]), (4, [4, 4]), (4, [9]), (5, [6, 4]), (5, [11]), (6, [6, 6]), (6, [13]), (7, [6, 4, 4]), (7, [9, 6]), (8, [6, 6, 4])]
theorem o_3_7 : ckO 3 7 T_3_7 = true := by decide +kernel
theorem m_3_7 : ckM 3 7 T_3_7 = true := by decide +kernel
theorem g_3_7 : ckG 3 7 = true := by decide +kernel
def T_4_1 : List (Int × List Int) := [(0, []), (4, [1]), (8, [2]), (12, [3]), (16, [4]), (20, [5]), (24, [6]), (28, [7]), (32, [8]), (36, [9]), (40, [10]), (44, [11]), (48, [12]), (52, [13]), (56, [14]), (60, [15]), (64, [16])]
theorem o_4_1 : ckO 4 1 T_4_1 = true := by decide +kernel
theorem m_4_1 : ckM 4 1 T_4_1 = true := by decide +kernel
theorem g_4_1 : ckG 4 1 = true := by decide +kernel
def T_4_3 : List (Int × List Int) := [(0, []), (1, [1]), (3, [2]), (4, [3]), (6, [2, 2]), (7, [5]), (9, [2, 2, 2]), (10, [5, 2]), (12, [2, 2, 2, 2]), (13, [5, 2, 2]), (15, [2, 2, 2, 2, 2]), (16, [5, 2, 2, 2]), (18, [2, 2, 2, 2, 2, 2]), (19, [5, 2, 2, 2, 2]), (21, [2, 2, 2, 2, 2, 2, 2]), (22, [5, 2, 2, 2, 2, 2]), (24, [2, 2, 2, 2, 2, 2, 2, 2])]
theorem o_4_3 : ckO 4 3 T_4_3 = true := by decide +kernel
theorem m_4_3 : ckM 4 3 T_4_3 = true := by decide +kernel
theorem g_4_3 : ckG 4 3 = true := by decide +kernel
def T_4_5 : List (Int × List Int) := [(0, []), (1, [1]), (2, [2]), (3, [2, 1]), (4, [2, 2]), (5, [2, 2, 1]), (6, [2, 2, 2]), (7, [2, 2, 2, 1]), (8, [2, 2, 2, 2]), (9, [2, 2, 2, 2, 1]), (10, [2, 2, 2, 2, 2]), (11, [2, 2, 2, 2, 2, 1]), (12, [2, 2, 2, 2, 2, 2]), (13, [2, 2, 2, 2, 2, 2, 1]), (14, [2, 2, 2, 2, 2, 2, 2]), (15, [2, 2, 2, 2, 2, 2, 2, 1]), (16, [2, 2, 2, 2, 2, 2, 2, 2])]
theorem o_4_5 : ckO 4 5 T_4_5 = true := by decide +kernel
theorem m_4_5 : ckM 4 5 T_4_5 = true := by decide +kernel
theorem g_4_5 : ckG 4 5 = true := by decide +kernel
def T_4_7 : List (Int × List Int) := [(0, []), (1, [1]), (2, [1, 1]), (3, [1, 1, 1]), (4, [1, 1, 1, 1]), (5, [1, 1, 1, 1, 1]), (6, [1, 1, 1, 1, 1, 1]), (7, [1, 1, 1, 1, 1, 1, 1]), (8, [1, 1, 1, 1, 1, 1, 1, 1]), (9, [1, 1, 1, 1, 1, 1, 1, 1, 1]), (10, [1, 1, 1, 1, 1, 1, 1, 1, 1, 1]), (11, [1, 1, 1, 1, 1, 1, 1, 1, 1, 1, 1]), (12, [1, 1, 1, 1, 1, 1, 1, 1, 1, 1, 1, 1]), (13, [1, 1, 1, 1, 1, 1, 1, 1, 1, 1, 1, 1, 1]), (14, [1, 1, 1, 1, 1, 1, 1, 1, 1, 1, 1, 1, 1, 1]), (15, [1, 1, 1, 1, 1, 1, 1, 1, 1, 1, 1, 1, 1, 1, 1]), (16, [1, 1, 1, 1, 1, 1, 1, 1, 1, 1, 1, 1, 1, 1, 1, 1])]
theorem o_4_7 : ckO 4 7 T_4_7 = true := by decide +kernel
theorem m_4_7 : ckM 4 7 T_4_7 = true := by decide +kernel
theorem g_4_7 : ckG 4 7 = true := by decide +kernel
def T_5_1 : List (Int × List Int) := [(0, []), (5, [1]), (10, [2]), (15, [3]), (20, [4]), (25, [5]), (30, [6]), (35, [7]), (40, [8]), (45, [9]), (50, [10]), (55, [11]), (60, [12]), (65, [13]), (70, [14]), (75, [15]), (80, [16])]
theorem o_5_1 : ckO 5 1 T_5_1 = true := by decide +kernel
theorem m_5_1 : ckM 5 1 T_5_1 = true := by decide +kernel
theorem g_5_1 : ckG 5 1 = true := by decide +kernel
def T_5_2 : List (Int × List Int) := [(0, []), (3, [1]), (6, [1, 1]), (9, [1, 1, 1]), (12, [1, 1, 1, 1]), (15, [1, 1, 1, 1, 1]), (18, [1, 1, 1, 1, 1, 1]), (21, [1, 1, 1, 1, 1, 1, 1]), (24, [1, 1, 1, 1, 1, 1, 1, 1]), (27, [1, 1, 1, 1, 1, 1, 1, 1, 1]), (30, [1, 1, 1, 1, 1, 1, 1, 1, 1, 1]), (33, [1, 1, 1, 1, 1, 1, 1, 1, 1, 1, 1]), (36, [1, 1, 1, 1, 1, 1, 1, 1, 1, 1, 1, 1]), (39, [1, 1, 1, 1, 1, 1, 1, 1, 1, 1, 1, 1, 1]), (42, [1, 1, 1, 1, 1, 1, 1, 1, 1, 1, 1, 1, 1, 1]), (45, [1, 1, 1, 1, 1, 1, 1, 1, 1, 1, 1, 1, 1, 1, 1]), (48, [1, 1, 1, 1, 1, 1, 1, 1, 1, 1, 1, 1, 1, 1, 1, 1])]
theorem o_5_2 : ckO 5 2 T_5_2 = true := by decide +kernel
theorem m_5_2 : ckM 5 2 T_5_2 = true := by decide +kernel
theorem g_5_2 : ckG 5 2 = true := by decide +kernel
def T_5_3 : List (Int × List Int) := [(0, []), (2, [1]), (4, [1, 1]), (6, [1, 1, 1]), (8, [1, 1, 1, 1]), (10, [1, 1, 1, 1, 1]), (12, [1, 1, 1, 1, 1, 1]), (14, [1, 1, 1, 1, 1, 1, 1]), (16, [1, 1, 1, 1, 1, 1, 1, 1]), (18, [1, 1, 1, 1, 1, 1, 1, 1, 1]), (20, [1, 1, 1, 1, 1, 1, 1, 1, 1, 1]), (22, [1, 1, 1, 1, 1, 1, 1, 1, 1, 1, 1]), (24, [1, 1, 1, 1, 1, 1, 1, 1, 1, 1, 1, 1]), (26, [1, 1, 1, 1, 1, 1, 1, 1, 1, 1, 1, 1, 1]), (28, [1, 1, 1, 1, 1, 1, 1, 1, 1, 1, 1, 1, 1, 1]), (30, [1, 1, 1, 1, 1, 1, 1, 1, 1, 1, 1, 1, 1, 1, 1]), (32, [1, 1, 1, 1, 1, 1, 1, 1, 1, 1, 1, 1, 1, 1, 1, 1])]
theorem o_5_3 : ckO 5 3 T_5_3 = true := by decide +kernel
theorem m_5_3 : ckM 5 3 T_5_3 = true := by decide +kernel
theorem g_5_3 : ckG 5 3 = true := by decide +kernel
def T_5_4 : List (Int × List Int) := [(0, []), (1, [1]), (3, [2]), (4, [3]), (6, [2, 2]), (7, [3, 2]), (9, [2, 2, 2]), (10, [3, 2, 2]), (12, [2, 2, 2, 2]), (13, [3, 2, 2, 2]), (15, [2, 2, 2, 2, 2]), (16, [3, 2, 2, 2, 2]), (18, [2, 2, 2, 2, 2, 2]), (19, [3, 2, 2, 2, 2, 2]), (21, [2, 2, 2, 2, 2, 2, 2]), (22, [3, 2, 2, 2, 2, 2, 2]), (24, [2, 2, 2, 2, 2, 2, 2, 2])]
theorem o_5_4 : ckO 5 4 T_5_4 = true := by decide +kernel
theorem m_5_4 : ckM 5 4 T_5_4 = true := by decide +kernel
theorem g_5_4 : ckG 5 4 = true := by decide +kernel
def T_5_6 : List (Int × List Int) := [(0, []), (1, [1]), (2, [2]), (3, [3]), (4, [2, 2]), (5, [3, 2]), (6, [3, 3]), (7, [3, 2, 2]), (8, [3, 3, 2]), (9, [3, 3, 3]), (10, [3, 3, 2, 2]), (11, [3, 3, 3, 2]), (12, [3, 3, 3, 3]), (13, [3, 3, 3, 2, 2]), (14, [3, 3, 3, 3, 2]), (15, [3, 3, 3, 3, 3]), (16, [3, 3, 3, 3, 2, 2])]
theorem o_5_6 : ckO 5 6 T_5_6 = true := by decide +kernel
theorem m_5_6 : ckM 5 6 T_5_6 = true := by decide +kernel
theorem g_5_6 : ckG 5 6 = true := by decide +kernel
def T_5_7 : List (Int × List Int) := [(0, []), (1, [1]), (2, [1, 1]), (3, [1, 1, 1]), (4, [1, 1, 1, 1]), (5, [1, 1, 1, 1, 1]), (6, [1, 1, 1, 1, 1, 1]), (7, [1, 1, 1, 1, 1, 1, 1]), (8, [1, 1, 1, 1, 1, 1, 1, 1]), (9, [1, 1, 1, 1, 1, 1, 1, 1, 1]), (10, [1, 1, 1, 1, 1, 1, 1, 1, 1, 1]), (11, [1, 1, 1, 1, 1, 1, 1, 1, 1, 1, 1]), (12, [1, 1, 1, 1, 1, 1, 1, 1, 1, 1, 1, 1]), (13, [1, 1, 1, 1, 1, 1, 1, 1, 1, 1, 1, 1, 1]), (14, [1, 1, 1, 1, 1, 1, 1, 1, 1, 1, 1, 1, 1, 1]), (15, [1, 1, 1, 1, 1, 1, 1, 1, 1, 1, 1, 1, 1, 1, 1]), (16, [1, 1, 1, 1, 1, 1, 1, 1, 1, 1, 1, 1, 1, 1, 1, 1])]
theorem o_5_7 : ckO 5 7 T_5_7 = true := by decide +kernel
theorem m_5_7 : ckM 5 7 T_5_7 = true := by decide +kernel
theorem g_5_7 : ckG 5 7 = true := by decide +kernel
def T_6_1 : List (Int × List Int) := [(0, []), (6, [1]), (12, [2]), (18, [3]), (24, [4]), (30, [5]), (36, [6]), (42, [7]), (48, [8]), (54, [9]), (60, [10]), (66, [11]), (72, [12]), (78, [13]), (84, [14]), (90, [15]), (96, [16])]
theorem o_6_1 : ckO 6 1 T_6_1 = true := by decide +kernel
theorem m_6_1 : ckM 6 1 T_6_1 = true := by decide +kernel
theorem g_6_1 : ckG 6 1 = true := by decide +kernel
def T_6_5 : List (Int × List Int) := [(0, []), (1, [1]), (2, [2]), (4, [3]), (5, [4]), (6, [5]), (8, [3, 3]), (9, [4, 3]), (10, [8]), (12, [3, 3, 3]), (13, [4, 3, 3]), (14, [8, 3]), (16, [3, 3, 3, 3]), (17, [4, 3, 3, 3]), (18, [8, 3, 3]), (20, [3, 3, 3, 3, 3]), (21, [4, 3, 3, 3, 3])]
theorem o_6_5 : ckO 6 5 T_6_5 = true := by decide +kernel
theorem m_6_5 : ckM 6 5 T_6_5 = true := by decide +kernel
theorem g_6_5 : ckG 6 5 = true := by decide +kernel
def T_6_7 : List (Int × List Int) := [(0, []), (1, [1]), (2, [2]), (3, [3]), (4, [2, 2]), (5, [3, 2]), (6, [3, 3]), (7, [3, 2, 2]), (8, [3, 3, 2]), (9, [3, 3, 3]), (10, [3, 3, 2, 2]), (11, [3, 3, 3, 2]), (12, [3, 3, 3, 3]), (13, [3, 3, 3, 2, 2]), (14, [3, 3, 3, 3, 2]), (15, [3, 3, 3, 3, 3]), (16, [3, 3, 3, 3, 2, 2])]
theorem o_6_7 : ckO 6 7 T_6_7 = true := by decide +kernel
theorem m_6_7 : ckM 6 7 T_6_7 = true := by decide +kernel
theorem g_6_7 : ckG 6 7 = true := by decide +kernel
def T_7_1 : List (Int × List Int) := [(0, []), (7, [1]), (14, [2]), (21, [3]), (28, [4]), (35, [5]), (42, [6]), (49, [7]), (56, [8]), (63, [9]), (70, [10]), (77, [11]), (84, [12]), (91, [13]), (98, [14]), (105, [15]), (112, [16])]
theorem o_7_1 : ckO 7 1 T_7_1 = true := by decide +kernel
theorem m_7_1 : ckM 7 1 T_7_1 = true := by decide +kernel
theorem g_7_1 : ckG 7 1 = true := by decide +kernel
def T_7_2 : List (Int × List Int) := [(0, []), (4, [1]), (8, [1, 1]), (12, [1, 1, 1]), (16, [1, 1, 1, 1]), (20, [1, 1, 1, 1, 1]), (24, [1, 1, 1, 1, 1, 1]), (28, [1, 1, 1, 1, 1, 1, 1]), (32, [1, 1, 1, 1, 1, 1, 1, 1]), (36, [1, 1, 1, 1, 1, 1, 1, 1, 1]), (40, [1, 1, 1, 1, 1, 1, 1, 1, 1, 1]), (44, [1, 1, 1, 1, 1, 1, 1, 1, 1, 1, 1]), (48, [1, 1, 1, 1, 1, 1, 1, 1, 1, 1, 1, 1]), (52, [1, 1, 1, 1, 1, 1, 1, 1, 1, 1, 1, 1, 1]), (56, [1, 1, 1, 1, 1, 1, 1, 1, 1, 1, 1, 1, 1, 1]), (60, [1, 1, 1, 1, 1, 1, 1, 1, 1, 1, 1, 1, 1, 1, 1]), (64, [1, 1, 1, 1, 1, 1, 1, 1, 1, 1, 1, 1, 1, 1, 1, 1])]
theorem o_7_2 : ckO 7 2 T_7_2 = true := by decide +kernel
theorem m_7_2 : ckM 7 2 T_7_2 = true := by decide +kernel
theorem g_7_2 : ckG 7 2 = true := by decide +kernel
def T_7_3 : List (Int × List Int) := [(0, []), (2, [1]), (5, [2]), (7, [3]), (10, [2, 2]), (12, [5]), (15, [2, 2, 2]), (17, [5, 2]), (20, [2, 2, 2, 2]), (22, [5, 2, 2]), (25, [2, 2, 2, 2, 2]), (27, [5, 2, 2, 2]), (30, [2, 2, 2, 2, 2, 2]), (32, [5, 2, 2, 2, 2]), (35, [2, 2, 2, 2, 2, 2, 2]), (37, [5, 2, 2, 2, 2, 2]), (40, [2, 2, 2, 2, 2, 2, 2, 2])]
theorem o_7_3 : ckO 7 3 T_7_3 = true := by decide +kernel
theorem m_7_3 : ckM 7 3 T_7_3 = true := by decide +kernel
theorem g_7_3 : ckG 7 3 = true := by decide +kernel
def T_7_4 : List (Int × List Int) := [(0, []), (2, [1]), (4, [2]), (6, [2, 1]), (8, [2, 2]), (10, [2, 2, 1]), (12, [2, 2, 2]), (14, [2, 2, 2, 1]), (16, [2, 2, 2, 2]), (18, [2, 2, 2, 2, 1]), (20, [2, 2, 2, 2, 2]), (22, [2, 2, 2, 2, 2, 1]), (24, [2, 2, 2, 2, 2, 2]), (26, [2, 2, 2, 2, 2, 2, 1]), (28, [2, 2, 2, 2, 2, 2, 2]), (30, [2, 2, 2, 2, 2, 2, 2, 1]), (32, [2, 2, 2, 2, 2, 2, 2, 2])]
theorem o_7_4 : ckO 7 4 T_7_4 = true := by decide +kernel
theorem m_7_4 : ckM 7 4 T_7_4 = true := by decide +kernel
theorem g_7_4 : ckG 7 4 = true := by decide +kernel
def T_7_5 : List (Int × List Int) := [(0, []), (1, [1]), (3, [2]), (4, [3]), (6, [4]), (7, [5]), (9, [4, 2]), (10, [7]), (12, [4, 4]), (13, [9]), (15, [4, 4, 2]), (16, [7, 4]), (18, [4, 4, 4]), (19, [9, 4]), (21, [4, 4, 4, 2]), (22, [7, 4, 4]), (24, [4, 4, 4, 4])]
theorem o_7_5 : ckO 7 5 T_7_5 = true := by decide +kernel
theorem m_7_5 : ckM 7 5 T_7_5 = true := by decide +kernel
theorem g_7_5 : ckG 7 5 = true := by decide +kernel
def T_7_6 : List (Int × List Int) := [(0, []), (1, [1]), (2, [2]), (4, [3]), (5, [4]), (6, [5]), (8, [3, 3]), (9, [4, 3]), (10, [4, 4]), (12, [3, 3, 3]), (13, [4, 3, 3]), (14, [4, 4, 3]), (16, [3, 3, 3, 3]), (17, [4, 3, 3, 3]), (18, [4, 4, 3, 3]), (20, [3, 3, 3, 3, 3]), (21, [4, 3, 3, 3, 3])]
theorem o_7_6 : ckO 7 6 T_7_6 = true := by decide +kernel
theorem m_7_6 : ckM 7 6 T_7_6 = true := by decide +kernel
theorem g_7_6 : ckG 7 6 = true := by decide +kernel
theorem ck_ok {a b : Int} (h : Rt a b) (ha : a ≤ 7) (hb : b ≤ 7) : ∃ T, ckO a b T = true ∧ ckM a b T = true ∧ ckG a b = true := by
  have h1 := h.a0; have h2 := h.b0
  have hA : a = 1 ∨ a = 2 ∨ a = 3 ∨ a = 4 ∨ a = 5 ∨ a = 6 ∨ a = 7 := by omega
  have hB : b = 1 ∨ b = 2 ∨ b = 3 ∨ b = 4 ∨ b = 5 ∨ b = 6 ∨ b = 7 := by omega
  rcases hA with rfl | rfl | rfl | rfl | rfl | rfl | rfl
  · rcases hB with rfl | rfl | rfl | rfl | rfl | rfl | rfl
    · exact ⟨T_1_1, o_1_1, m_1_1, g_1_1⟩
    · exact ⟨T_1_2, o_1_2, m_1_2, g_1_2⟩
    · exact ⟨T_1_3, o_1_3, m_1_3, g_1_3⟩
    · exact ⟨T_1_4, o_1_4, m_1_4, g_1_4⟩
    · exact ⟨T_1_5, o_1_5, m_1_5, g_1_5⟩
    · exact ⟨T_1_6, o_1_6, m_1_6, g_1_6⟩
    · exact ⟨T_1_7, o_1_7, m_1_7, g_1_7⟩
  · rcases hB with rfl | rfl | rfl | rfl | rfl | rfl | rfl
    · exact ⟨T_2_1, o_2_1, m_2_1, g_2_1⟩
    · exact absurd h.co (by decide)
    · exact ⟨T_2_3, o_2_3, m_2_3, g_2_3⟩
    · exact absurd h.co (by decide)
    · exact ⟨T_2_5, o_2_5, m_2_5, g_2_5⟩
    · exact absurd h.co (by decide)
    · exact ⟨T_2_7, o_2_7, m_2_7, g_2_7⟩
  · rcases hB with rfl | rfl | rfl | rfl | rfl | rfl | rfl
    · exact ⟨T_3_1, o_3_1, m_3_1, g_3_1⟩
    · exact ⟨T_3_2, o_3_2, m_3_2, g_3_2⟩
    · exact absurd h.co (by decide)
    · exact ⟨T_3_4, o_3_4, m_3_4, g_3_4⟩
    · exact ⟨T_3_5, o_3_5, m_3_5, g_3_5⟩
    · exact absurd h.co (by decide)
    · exact ⟨T_3_7, o_3_7, m_3_7, g_3_7⟩
  · rcases hB with rfl | rfl | rfl | rfl | rfl | rfl | rfl
    · exact ⟨T_4_1, o_4_1, m_4_1, g_4_1⟩
    · exact absurd h.co (by decide)
    · exact ⟨T_4_3, o_4_3, m_4_3, g_4_3⟩
    · exact absurd h.co (by decide)
    · exact ⟨T_4_5, o_4_5, m_4_5, g_4_5⟩
    · exact absurd h.co (by decide)
    · exact ⟨T_4_7, o_4_7, m_4_7, g_4_7⟩
  · rcases hB with rfl | rfl | rfl | rfl | rfl | rfl | rfl
    · exact ⟨T_5_1, o_5_1, m_5_1, g_5_1⟩
    · exact ⟨T_5_2, o_5_2, m_5_2, g_5_2⟩
    · exact ⟨T_5_3, o_5_3, m_5_3, g_5_3⟩
    · exact ⟨T_5_4, o_5_4, m_5_4, g_5_4⟩
    · exact absurd h.co (by decide)
    · exact ⟨T_5_6, o_5_6, m_5_6, g_5_6⟩
    · exact ⟨T_5_7, o_5_7, m_5_7, g_5_7⟩
  · rcases hB with rfl | rfl | rfl | rfl | rfl | rfl | rfl
    · exact ⟨T_6_1, o_6_1, m_6_1, g_6_1⟩
    · exact absurd h.co (by decide)
    · exact absurd h.co (by decide)
    · exact absurd h.co (by decide)
    · exact ⟨T_6_5, o_6_5, m_6_5, g_6_5⟩
    · exact absurd h.co (by decide)
    · exact ⟨T_6_7, o_6_7, m_6_7, g_6_7⟩
  · rcases hB with rfl | rfl | rfl | rfl | rfl | rfl | rfl
    · exact ⟨T_7_1, o_7_1, m_7_1, g_7_1⟩
    · exact ⟨T_7_2, o_7_2, m_7_2, g_7_2⟩
    · exact ⟨T_7_3, o_7_3, m_7_3, g_7_3⟩
    · exact ⟨T_7_4, o_7_4, m_7_4, g_7_4⟩
    · exact ⟨T_7_5, o_7_5, m_7_5, g_7_5⟩
    · exact ⟨T_7_6, o_7_6, m_7_6, g_7_6⟩
    · exact absurd h.co (by decide)
theorem outK_get (a b : Int) {p : Nat} (hp : p < 17) : ∃ k, (outK a b 16)[p]? = some k ∧ ((outK a b 16).map encK)[p]? = some (encK k) ∧ k.l.length ≤ 16 := by
  have h := outK_ok a b 16
  have hl : p < (outK a b 16).length := by rw [h.1]; exact hp
  refine ⟨(outK a b 16)[p], List.getElem?_eq_getElem hl, by rw [List.getElem?_map, List.getElem?_eq_getElem hl]; rfl, ?_⟩
  have := h.2 p _ (List.getElem?_eq_getElem hl)
  omega
theorem most_ok {a b : Int} {T : List (Int × List Int)} (ho : ckO a b T = true) (hc : ckM a b T = true) {p : Nat} {k : Ky} (hk : (outK a b 16)[p]? = some k) (g : Gp) : m_most_by_parts [.int (p : Nat), rt a b] g = .ok (.tup [.int (-k.w), .tup (k.l.map D.int)]) g := by
  have h1 := okT_get _ _ ho p k hk
  have := mosts_get T 0 hc p _ h1
  rw [Nat.zero_add] at this
  refine FF.v f_most_by_parts this (by unfold rt; rfl) ?_ g
  rw [under_tup, unders_cons, unders_cons, under_tup, unders_ints]; rfl
theorem so_pair (k : Nat) (w : Int) (l : List Int) (hz : l.length ≤ 1000000) (g : Gp) : m__law_so (k + 3) [.tup [.int w, .tup (l.map D.int)], .tup [.int w, .tup (l.map D.int)]] g = .ok (.bl true) g := by
  refine so_tup (k + 2) _ (by simp) (fun d hd g => ?_) g
  rcases List.mem_cons.mp hd with rfl | hd
  · rw [so_int, decide_eq_true rfl]
  · rcases List.mem_cons.mp hd with rfl | hd
    · exact so_ints k l hz g
    · cases hd
theorem l5_ok {a b : Int} {T : List (Int × List Int)} (ho : ckO a b T = true) (hc : ckM a b T = true) {g : Gp} {r : Nat} (hr : g[r]? = some (.lst ((outK a b 16).map encK))) {p : Nat} (hp : p < 17) (x0 x1 x2 x3 x4 x5 x6 x8 x9 x10 x11 x12 x14 x16 x17 x18 x19 x20 x21 x22 x23 x24 x25 : Option D) :
    l_law_5 [x0, x1, x2, x3, x4, x5, x6, some (rt a b), x8, x9, x10, x11, x12, some (.int (p : Nat)), x14, some (.ref r), x16, x17, x18, x19, x20, x21, x22, x23, x24, x25] g = .nx [x0, x1, x2, x3, x4, x5, x6, some (rt a b), x8, x9, x10, x11, x12, some (.int (p : Nat)), x14, some (.ref r), x16, x17, x18, x19, x20, x21, x22, x23, x24, x25] g := by
  obtain ⟨k, hk, hk2, hk3⟩ := outK_get a b hp
  have hix : ixD (.ref r) (.int (p : Nat)) g = .ok (encK k) g := vd_ixL _ _ hr (at_get (by omega) hk2)
  have h0 : ixD (encK k) (.int 0) g = .ok (.int k.w) g := rfl
  have h2 : ixD (encK k) (.int 2) g = .ok (.tup (k.l.map D.int)) g := rfl
  unfold l_law_5
  walk_at "ev"
  rw [most_ok ho hc hk]; walk_at "ev"
  rw [hix]; walk_at "ev"; rw [h0]; walk_at "ev"; rw [hix]; walk_at "ev"; rw [h2]; walk_at "ev"
  rw [show m__law_so 12 = m__law_so (9 + 3) from rfl, so_pair 9 _ _ (by omega)]; walk_at "ev"
theorem t18_ok {a b : Int} (hc : ckG a b = true) {g : Gp} {r : Nat} (hr : g[r]? = some (.lst (gainsD a b))) (x0 x1 x2 x3 x4 x5 x6 x8 x9 x10 x11 x12 x13 x14 x15 x17 x18 x19 x20 x21 x22 x23 x24 x25 : Option D) :
    t_law_18 [x0, x1, x2, x3, x4, x5, x6, some (rt a b), x8, x9, x10, x11, x12, x13, x14, x15, some (.ref r), x17, x18, x19, x20, x21, x22, x23, x24, x25] g = .nx [x0, x1, x2, x3, x4, x5, x6, some (rt a b), x8, x9, x10, x11, x12, x13, x14, x15, some (.ref r), x17, x18, x19, x20, x21, x22, x23, x24, x25] g := by
  have hd : (headD (gainsD a b)).under 0 = true := by
    cases e : gainsD a b with
    | nil => rfl
    | cons d l =>
      have : d ∈ gainsD a b := by rw [e]; exact List.mem_cons_self
      obtain ⟨i, _, rfl⟩ := mem_rngL (List.mem_filter.mp this).1
      rfl
  have hm : m_parts_gain [rt a b, .int 16] g = .ok (headD (gainsD a b)) g := FF.v f_parts_gain hc (by unfold rt; rfl) hd g
  have hl := vd_lenL g hr
  unfold t_law_18
  walk_at "ev"
  rw [hm]; walk_at "ev"; rw [hl]; walk_at "ev"
  cases e : gainsD a b with
  | nil =>
    have : ¬ ((0 : Int) < (([] : List D).length : Int)) := by simp
    simp only [this, decide_false]; walk_at "ev"
    rw [show headD [] = D.non from rfl, show m__law_so 12 = m__law_so (11 + 1) from rfl, so_non]; walk_at "ev"
  | cons d l =>
    have hlen : ((0 : Int) < ((d :: l).length : Int)) := by rw [List.length_cons]; omega
    simp only [hlen, decide_true]; walk_at "ev"
    rw [e] at hr
    rw [vd_ixL (i := 0) (d := d) _ hr (at_0 _ _)]; walk_at "ev"
    have hmem : d ∈ gainsD a b := by rw [e]; exact List.mem_cons_self
    obtain ⟨i, _, rfl⟩ := mem_rngL (List.mem_filter.mp hmem).1
    rw [show headD (D.int (1 + (i : Int)) :: l) = D.int (1 + (i : Int)) from rfl, show m__law_so 12 = m__law_so (11 + 1) from rfl, so_int, decide_eq_true rfl]; walk_at "ev"
theorem isGain_int {a b : Int} {p : Nat} {k : Ky} (hk : (outK a b 16)[p]? = some k) : isGain a b (.int (p : Int)) = decide (nearZ a b (p : Int) < -k.w) := by
  rw [isGain, Int.toNat_natCast, hk]
theorem t15_ok {a b : Int} (h : Rt a b) {T : List (Int × List Int)} (ho : ckO a b T = true) (hc : ckM a b T = true) (hg : ckG a b = true) (g : Gp) (x0 x1 x2 x3 x4 x5 x6 x8 x9 x10 x11 x12 x13 x14 x15 x16 x17 x18 x19 x20 x21 x22 x23 x24 x25 : Option D) :
    ∃ (G : Gp) (y13 y15 y16 : Option D), t_law_15 [x0, x1, x2, x3, x4, x5, x6, some (rt a b), x8, x9, x10, x11, x12, x13, x14, x15, x16, x17, x18, x19, x20, x21, x22, x23, x24, x25] g = .nx [x0, x1, x2, x3, x4, x5, x6, some (rt a b), x8, x9, x10, x11, x12, y13, x14, y15, y16, x17, x18, x19, x20, x21, x22, x23, x24, x25] (g ++ G) := by
  have hb := by_parts_ok h 16 (by omega) g
  have hget : (g ++ [O.lst ((outK a b 16).map encK)])[g.length]? = some (.lst ((outK a b 16).map encK)) := get_app0 _ _
  unfold t_law_15
  walk_at "ev"
  rw [show (D.int 16) = D.int ((16 : Nat) : Int) from rfl, hb]; walk_at "ev"
  unfold t_law_16
  rw [ev_seq]
  have key : ∃ y13, sFor (iRg2 (mCons (mC (.int 0)) (mCons (mC (.int 17)) mNil))) (gN 13) l_law_5 [x0, x1, x2, x3, x4, x5, x6, some (rt a b), x8, x9, x10, x11, x12, x13, x14, some (.ref g.length), x16, x17, x18, x19, x20, x21, x22, x23, x24, x25] (g ++ [O.lst ((outK a b 16).map encK)]) = .nx [x0, x1, x2, x3, x4, x5, x6, some (rt a b), x8, x9, x10, x11, x12, y13, x14, some (.ref g.length), x16, x17, x18, x19, x20, x21, x22, x23, x24, x25] (g ++ [O.lst ((outK a b 16).map encK)]) := by
    unfold sFor
    rw [i_rg2 (i := 0) (j := 17) rfl (by omega) (by omega), R.go_ok]
    obtain ⟨s2, g2, q1, rfl, y13, rfl⟩ := for_rng0 (tg := gN 13) (b := l_law_5) (lo := 0) (n := (17 - 0 : Int).toNat)
      (P := fun i s g' => g' = g ++ [O.lst ((outK a b 16).map encK)] ∧ ∃ y13 : Option D, s = [x0, x1, x2, x3, x4, x5, x6, some (rt a b), x8, x9, x10, x11, x12, y13, x14, some (.ref g.length), x16, x17, x18, x19, x20, x21, x22, x23, x24, x25])
      (s := [x0, x1, x2, x3, x4, x5, x6, some (rt a b), x8, x9, x10, x11, x12, x13, x14, some (.ref g.length), x16, x17, x18, x19, x20, x21, x22, x23, x24, x25]) (g := g ++ [O.lst ((outK a b 16).map encK)]) ⟨rfl, x13, rfl⟩ (by
        rintro i s g' hi ⟨rfl, y13, rfl⟩
        have hi' : i < 17 := hi
        refine ⟨_, [x0, x1, x2, x3, x4, x5, x6, some (rt a b), x8, x9, x10, x11, x12, some (.int (i : Nat)), x14, some (.ref g.length), x16, x17, x18, x19, x20, x21, x22, x23, x24, x25], _, rfl, .inl ?_, rfl, _, rfl⟩
        rw [show (0 : Int) + (i : Int) = ((i : Nat) : Int) from Int.zero_add _]
        exact l5_ok ho hc hget hi' x0 x1 x2 x3 x4 x5 x6 x8 x9 x10 x11 x12 x14 x16 x17 x18 x19 x20 x21 x22 x23 x24 x25)
    exact ⟨y13, q1⟩
  obtain ⟨y13, key⟩ := key
  rw [key, F.then_nx]
  unfold t_law_17
  rw [ev_seq, ev_set]
  have hlc := lc_filter (vs := [13]) (mi := iRg2 (mCons (mC (.int 1)) (mCons (mC (.int 17)) mNil))) (tg := gN 13) (tt := isB (mOp (cmpD .Gt) (mUn negD (mOp ixD (mOp ixD (mVar 15) (mVar 13)) (mC (.int 0)))) (mCall m__law_near (mCons (mVar 13) (mCons (mVar 7) mNil))))) (te := mVar 13)
    (s := [x0, x1, x2, x3, x4, x5, x6, some (rt a b), x8, x9, x10, x11, x12, y13, x14, some (.ref g.length), x16, x17, x18, x19, x20, x21, x22, x23, x24, x25]) (g := g ++ [O.lst ((outK a b 16).map encK)]) (g1 := g ++ [O.lst ((outK a b 16).map encK)]) (src := .rng 1 (17 - 1 : Int).toNat) (xs := rngL 1 16) (f := fun d => d) (p := isGain a b)
    (i_rg2 (i := 1) (j := 17) rfl (by omega) (by omega)) (fun L => src_rng _ _ _) (by rw [rngL_len]; rfl) (by rw [rngL_len]; omega) (fun x hx L => by
      obtain ⟨i, hi, rfl⟩ := mem_rngL hx
      obtain ⟨k, hk, hk2, hk3⟩ := outK_get a b (p := i + 1) (by omega)
      have ei : (1 + (i : Int)) = ((i + 1 : Nat) : Int) := by omega
      have hix : ixD (.ref g.length) (.int ((i + 1 : Nat) : Int)) (g ++ [O.lst ((outK a b 16).map encK)] ++ [O.lst L]) = .ok (encK k) (g ++ [O.lst ((outK a b 16).map encK)] ++ [O.lst L]) := vd_ixL _ _ (get_appL hget) (at_get (by omega) hk2)
      have hp : isGain a b (.int ((i + 1 : Nat) : Int)) = decide (nearZ a b ((i + 1 : Nat) : Int) < -k.w) := by
        exact isGain_int hk
      rw [ei]
      refine ⟨_, rfl, ?_, fun _ => rfl⟩
      have h0 : ∀ g', ixD (encK k) (.int 0) g' = .ok (.int k.w) g' := fun _ => rfl
      show isB (mOp (cmpD .Gt) (mUn negD (mOp ixD (mOp ixD (mVar 15) (mVar 13)) (mC (.int 0)))) (mCall m__law_near (mCons (mVar 13) (mCons (mVar 7) mNil)))) [x0, x1, x2, x3, x4, x5, x6, some (rt a b), x8, x9, x10, x11, x12, some (.int ((i + 1 : Nat) : Int)), x14, some (.ref g.length), x16, x17, x18, x19, x20, x21, x22, x23, x24, x25] _ = _
      walk_at "ev"
      rw [hix]; walk_at "ev"; rw [h0]; walk_at "ev"; rw [near_ok h]; walk_at "ev"
      rw [hp])
  rw [hlc, R.go_ok, F.then_nx]
  refine ⟨[O.lst ((outK a b 16).map encK), O.lst (gainsD a b)], y13, some (.ref g.length), some (.ref (g ++ [O.lst ((outK a b 16).map encK)]).length), ?_⟩
  have hid : (rngL 1 16 |>.filter (isGain a b)).map (fun d => d) = gainsD a b := List.map_id' _
  rw [hid]
  have e := t18_ok (a := a) (b := b) hg (g := g ++ [O.lst ((outK a b 16).map encK)] ++ [O.lst (gainsD a b)]) (r := (g ++ [O.lst ((outK a b 16).map encK)]).length) (get_app0 _ _) x0 x1 x2 x3 x4 x5 x6 x8 x9 x10 x11 x12 y13 x14 (some (.ref g.length)) x17 x18 x19 x20 x21 x22 x23 x24 x25
  rw [List.append_assoc] at e
  rw [List.append_assoc]
  exact e
/-! ### the loops over the rates -/
theorem red_Rt {n d : Int} (hn : 1 ≤ n ∧ n ≤ 1000) (hd : 1 ≤ d ∧ d ≤ 1000) : Rt (n / (Nat.gcd n.natAbs d.natAbs : Nat)) (d / (Nat.gcd n.natAbs d.natAbs : Nat)) ∧ n / (Nat.gcd n.natAbs d.natAbs : Nat) ≤ n ∧ d / (Nat.gcd n.natAbs d.natAbs : Nat) ≤ d := by
  obtain ⟨m, rfl⟩ := Int.eq_ofNat_of_zero_le (a := n) (by omega)
  obtain ⟨k, rfl⟩ := Int.eq_ofNat_of_zero_le (a := d) (by omega)
  simp only [Int.natAbs_natCast]
  have hm : 0 < m := by omega
  have hk : 0 < k := by omega
  have hg : 0 < Nat.gcd m k := Nat.gcd_pos_of_pos_left _ hm
  have e1 : ((m : Int) / (Nat.gcd m k : Nat)) = ((m / Nat.gcd m k : Nat) : Int) := (Int.natCast_ediv _ _).symm
  have e2 : ((k : Int) / (Nat.gcd m k : Nat)) = ((k / Nat.gcd m k : Nat) : Int) := (Int.natCast_ediv _ _).symm
  rw [e1, e2]
  have p1 : 0 < m / Nat.gcd m k := Nat.div_pos (Nat.gcd_le_left _ hm) hg
  have p2 : 0 < k / Nat.gcd m k := Nat.div_pos (Nat.gcd_le_right _ hk) hg
  have q1 : m / Nat.gcd m k ≤ m := Nat.div_le_self _ _
  have q2 : k / Nat.gcd m k ≤ k := Nat.div_le_self _ _
  refine ⟨⟨by omega, by omega, by omega, by omega, ?_⟩, by omega, by omega⟩
  rw [Int.natAbs_natCast, Int.natAbs_natCast]
  exact Nat.coprime_div_gcd_div_gcd hg
theorem Dr.app {g : Gp} {r q : Nat} (h : Dr g r q) (G : Gp) : Dr (g ++ G) r q := by
  obtain ⟨row, n, h1, h2, h3, h4, h5, h6⟩ := h
  exact ⟨row, n, h1, h2, get_appL h3, get_appL h4, h5, h6⟩
theorem l2_ok {a b : Int} (h : Rt a b) (hb : b < 100) {r q : Nat} {c : Int} (hc : 1 ≤ c ∧ c ≤ 6) {g : Gp} (hD : Dr g r q) (x0 x3 x4 x5 x6 x9 x10 x11 x12 x13 x14 x15 x16 x17 x18 x19 x20 x21 x22 x23 x24 x25 : Option D) :
    ∃ (g' : Gp) (y9 y10 y11 y12 y13 y14 : Option D), Dr g' r q ∧ l_law_2 [x0, some (.ref r), some (.ref q), x3, x4, x5, x6, some (rt a b), some (.int c), x9, x10, x11, x12, x13, x14, x15, x16, x17, x18, x19, x20, x21, x22, x23, x24, x25] g = .nx [x0, some (.ref r), some (.ref q), x3, x4, x5, x6, some (rt a b), some (.int c), y9, y10, y11, y12, y13, y14, x15, x16, x17, x18, x19, x20, x21, x22, x23, x24, x25] g' := by
  obtain ⟨v, g', e, v0, v1, hD', _⟩ := take_ok hD (lim := 7) (by omega)
  obtain ⟨hR, hR1, hR2⟩ := red_Rt (n := c) (d := 1 + v) (by omega) (by omega)
  obtain ⟨y10, y11, y12, y13, y14, e8⟩ := t8_ok h hR hb (by omega) g' x0 (some (.ref r)) (some (.ref q)) x3 x4 x5 x6 (some (.int c)) x10 x11 x12 x13 x14 x15 x16 x17 x18 x19 x20 x21 x22 x23 x24 x25
  refine ⟨g', some (rt (c / (Nat.gcd c.natAbs (1 + v).natAbs : Nat)) ((1 + v) / (Nat.gcd c.natAbs (1 + v).natAbs : Nat))), y10, y11, y12, y13, y14, hD', ?_⟩
  unfold l_law_2
  walk_at "ev"
  rw [e]; walk_at "ev"
  rw [show m__law_red 12 = m__law_red (11 + 1) from rfl, law_red_ok 11 (by omega) (by omega) (by omega)]; walk_at "ev"
  exact e8
theorem t6_ok {a b : Int} (h : Rt a b) (ha : a ≤ 7) (hb : b ≤ 7) {r q : Nat} {g : Gp} (hD : Dr g r q) (x0 x3 x4 x5 x6 x8 x9 x10 x11 x12 x13 x14 x15 x16 x17 x18 x19 x20 x21 x22 x23 x24 x25 : Option D) :
    ∃ (g' : Gp) (y8 y9 y10 y11 y12 y13 y14 y15 y16 : Option D), Dr g' r q ∧ t_law_6 [x0, some (.ref r), some (.ref q), x3, x4, x5, x6, some (rt a b), x8, x9, x10, x11, x12, x13, x14, x15, x16, x17, x18, x19, x20, x21, x22, x23, x24, x25] g = .nx [x0, some (.ref r), some (.ref q), x3, x4, x5, x6, some (rt a b), y8, y9, y10, y11, y12, y13, y14, y15, y16, x17, x18, x19, x20, x21, x22, x23, x24, x25] g' := by
  obtain ⟨T, hO, hM, hG⟩ := ck_ok h ha hb
  have key : ∃ (g' : Gp) (y8 y9 y10 y11 y12 y13 y14 : Option D), Dr g' r q ∧ sFor (iRg2 (mCons (mC (.int 1)) (mCons (mC (.int 7)) mNil))) (gN 8) l_law_2 [x0, some (.ref r), some (.ref q), x3, x4, x5, x6, some (rt a b), x8, x9, x10, x11, x12, x13, x14, x15, x16, x17, x18, x19, x20, x21, x22, x23, x24, x25] g = .nx [x0, some (.ref r), some (.ref q), x3, x4, x5, x6, some (rt a b), y8, y9, y10, y11, y12, y13, y14, x15, x16, x17, x18, x19, x20, x21, x22, x23, x24, x25] g' := by
    unfold sFor
    rw [i_rg2 (i := 1) (j := 7) rfl (by omega) (by omega), R.go_ok]
    obtain ⟨s2, g2, q1, hD2, y8, y9, y10, y11, y12, y13, y14, rfl⟩ := for_rng0 (tg := gN 8) (b := l_law_2) (lo := 1) (n := (7 - 1 : Int).toNat)
      (P := fun i s g' => Dr g' r q ∧ ∃ y8 y9 y10 y11 y12 y13 y14 : Option D, s = [x0, some (.ref r), some (.ref q), x3, x4, x5, x6, some (rt a b), y8, y9, y10, y11, y12, y13, y14, x15, x16, x17, x18, x19, x20, x21, x22, x23, x24, x25])
      (s := [x0, some (.ref r), some (.ref q), x3, x4, x5, x6, some (rt a b), x8, x9, x10, x11, x12, x13, x14, x15, x16, x17, x18, x19, x20, x21, x22, x23, x24, x25]) (g := g) ⟨hD, x8, x9, x10, x11, x12, x13, x14, rfl⟩ (by
        rintro i s g' hi ⟨hD', y8, y9, y10, y11, y12, y13, y14, rfl⟩
        have hi' : i < 6 := hi
        obtain ⟨g2, z9, z10, z11, z12, z13, z14, hD2, e⟩ := l2_ok h (by omega) (c := 1 + (i : Int)) (by omega) hD' x0 x3 x4 x5 x6 y9 y10 y11 y12 y13 y14 x15 x16 x17 x18 x19 x20 x21 x22 x23 x24 x25
        exact ⟨_, _, g2, rfl, .inl e, hD2, _, z9, z10, z11, z12, z13, z14, rfl⟩)
    exact ⟨g2, y8, y9, y10, y11, y12, y13, y14, hD2, q1⟩
  obtain ⟨g', y8, y9, y10, y11, y12, y13, y14, hD2, e⟩ := key
  unfold t_law_6
  rw [ev_seq, e, F.then_nx]
  unfold t_law_7
  obtain ⟨z13, e2⟩ := ex_ok h g' x0 (some (.ref r)) (some (.ref q)) x3 x4 x5 x6 y8 y9 y10 y11 y12 y13 y14 x15 x16 x17 x18 x19 x20 x21 x22 x23 x24 x25
  rw [ev_seq, e2, F.then_nx]
  obtain ⟨G, w13, w15, w16, e3⟩ := t15_ok h hO hM hG g' x0 (some (.ref r)) (some (.ref q)) x3 x4 x5 x6 y8 y9 y10 y11 y12 z13 y14 x15 x16 x17 x18 x19 x20 x21 x22 x23 x24 x25
  exact ⟨g' ++ G, y8, y9, y10, y11, y12, w13, y14, w15, w16, hD2.app G, e3⟩
theorem l1_ok {r q : Nat} {a b part n : Int} (ha : 1 ≤ a ∧ a ≤ 7) (hb : 1 ≤ b ∧ b ≤ 7) {g : Gp} (hD : Dr g r q) (x0 x7 x8 x9 x10 x11 x12 x13 x14 x15 x16 x17 x18 x19 x20 x21 x22 x23 x24 x25 : Option D) :
    ∃ (g' : Gp) (y7 y8 y9 y10 y11 y12 y13 y14 y15 y16 : Option D), Dr g' r q ∧ l_law_1 [x0, some (.ref r), some (.ref q), some (.int part), some (.int n), some (.int a), some (.int b), x7, x8, x9, x10, x11, x12, x13, x14, x15, x16, x17, x18, x19, x20, x21, x22, x23, x24, x25] g = .nx [x0, some (.ref r), some (.ref q), some (.int part), some (.int (n + 1)), some (.int a), some (.int b), y7, y8, y9, y10, y11, y12, y13, y14, y15, y16, x17, x18, x19, x20, x21, x22, x23, x24, x25] g' := by
  unfold l_law_1 t_law_5
  walk_at "ev"
  by_cases hp : (n + 1) % 4 = part
  · simp only [hp, decide_true]; walk_at "ev"
    rw [show m__law_red 12 = m__law_red (11 + 1) from rfl, law_red_ok 11 (by omega) (by omega) (by omega)]; walk_at "ev"
    obtain ⟨hR, hR1, hR2⟩ := red_Rt (n := a) (d := b) (by omega) (by omega)
    obtain ⟨g', y8, y9, y10, y11, y12, y13, y14, y15, y16, hD', e⟩ := t6_ok hR (by omega) (by omega) hD x0 (some (.int part)) (some (.int (n + 1))) (some (.int a)) (some (.int b)) x8 x9 x10 x11 x12 x13 x14 x15 x16 x17 x18 x19 x20 x21 x22 x23 x24 x25
    exact ⟨g', _, y8, y9, y10, y11, y12, y13, y14, y15, y16, hD', e⟩
  · simp only [hp, decide_false]; walk_at "ev"
    exact ⟨g, x7, x8, x9, x10, x11, x12, x13, x14, x15, x16, hD, rfl⟩
theorem l0_ok {r q : Nat} {a part n : Int} (ha : 1 ≤ a ∧ a ≤ 7) {g : Gp} (hD : Dr g r q) (x0 x6 x7 x8 x9 x10 x11 x12 x13 x14 x15 x16 x17 x18 x19 x20 x21 x22 x23 x24 x25 : Option D) :
    ∃ (g' : Gp) (n' : Int) (y6 y7 y8 y9 y10 y11 y12 y13 y14 y15 y16 : Option D), Dr g' r q ∧ l_law_0 [x0, some (.ref r), some (.ref q), some (.int part), some (.int n), some (.int a), x6, x7, x8, x9, x10, x11, x12, x13, x14, x15, x16, x17, x18, x19, x20, x21, x22, x23, x24, x25] g = .nx [x0, some (.ref r), some (.ref q), some (.int part), some (.int n'), some (.int a), y6, y7, y8, y9, y10, y11, y12, y13, y14, y15, y16, x17, x18, x19, x20, x21, x22, x23, x24, x25] g' := by
  unfold l_law_0
  unfold sFor
  rw [i_rg2 (i := 1) (j := 8) rfl (by omega) (by omega), R.go_ok]
  obtain ⟨s2, g2, q1, hD2, n', y6, y7, y8, y9, y10, y11, y12, y13, y14, y15, y16, rfl⟩ := for_rng0 (tg := gN 6) (b := l_law_1) (lo := 1) (n := (8 - 1 : Int).toNat)
    (P := fun i s g' => Dr g' r q ∧ ∃ (n' : Int) (y6 y7 y8 y9 y10 y11 y12 y13 y14 y15 y16 : Option D), s = [x0, some (.ref r), some (.ref q), some (.int part), some (.int n'), some (.int a), y6, y7, y8, y9, y10, y11, y12, y13, y14, y15, y16, x17, x18, x19, x20, x21, x22, x23, x24, x25])
    (s := [x0, some (.ref r), some (.ref q), some (.int part), some (.int n), some (.int a), x6, x7, x8, x9, x10, x11, x12, x13, x14, x15, x16, x17, x18, x19, x20, x21, x22, x23, x24, x25]) (g := g) ⟨hD, n, x6, x7, x8, x9, x10, x11, x12, x13, x14, x15, x16, rfl⟩ (by
      rintro i s g' hi ⟨hD', n', y6, y7, y8, y9, y10, y11, y12, y13, y14, y15, y16, rfl⟩
      have hi' : i < 7 := hi
      obtain ⟨g2, z7, z8, z9, z10, z11, z12, z13, z14, z15, z16, hD2, e⟩ := l1_ok (part := part) (n := n') ha (b := 1 + (i : Int)) (by omega) hD' x0 y7 y8 y9 y10 y11 y12 y13 y14 y15 y16 x17 x18 x19 x20 x21 x22 x23 x24 x25
      exact ⟨_, _, g2, rfl, .inl e, hD2, _, _, z7, z8, z9, z10, z11, z12, z13, z14, z15, z16, rfl⟩)
  exact ⟨g2, n', y6, y7, y8, y9, y10, y11, y12, y13, y14, y15, y16, hD2, q1⟩
/-! ### the end of the law -/
theorem Dr.lt {g : Gp} {r q : Nat} (h : Dr g r q) : r < g.length ∧ q < g.length := by
  obtain ⟨row, n, h1, h2, h3, h4, h5, h6⟩ := h
  exact ⟨(List.getElem?_eq_some_iff.mp h3).1, (List.getElem?_eq_some_iff.mp h4).1⟩
theorem Dr.setO {g : Gp} {r q k : Nat} (h : Dr g r q) (hr : k ≠ r) (hq : k ≠ q) (o : O) : Dr (g.set k o) r q := by
  obtain ⟨row, n, h1, h2, h3, h4, h5, h6⟩ := h
  exact ⟨row, n, h1, h2, by rw [List.getElem?_set_ne hr]; exact h3, by rw [List.getElem?_set_ne hq]; exact h4, h5, h6⟩
theorem takes_ok {r q : Nat} {g : Gp} (hD : Dr g r q) (x0 x3 x4 x5 x6 x7 x8 x9 x10 x11 x12 x13 x14 x15 x16 x17 x18 x19 x20 x21 x22 x23 x24 x25 : Option D) :
    ∃ (g' : Gp) (us : List Int), us.length = 6 ∧ (∀ u ∈ us, 0 ≤ u ∧ u ≤ 1000) ∧ Dr g' r q ∧ g'[g.length]? = some (.lst (us.map D.int)) ∧
      mLc [21] (iRg1 (mCons (mC (.int 6)) mNil)) (gN 21) tYes' (mCall m__law_take (mCons (mVar 1) (mCons (mVar 2) (mCons (mC (.int 150)) mNil)))) [x0, some (.ref r), some (.ref q), x3, x4, x5, x6, x7, x8, x9, x10, x11, x12, x13, x14, x15, x16, x17, x18, x19, x20, x21, x22, x23, x24, x25] g = .ok (.ref g.length) g' := by
  obtain ⟨hr, hq⟩ := hD.lt
  unfold mLc
  rw [i_rg1 (j := 6) rfl (by omega), R.bind_ok]
  obtain ⟨acc, g', e1, hD', h2, us, rfl, h4, h5⟩ := loopC_spec (tg := gN 21) (tt := tYes') (te := mCall m__law_take (mCons (mVar 1) (mCons (mVar 2) (mCons (mC (.int 150)) mNil)))) (src := .rng 0 (6 : Int).toNat) (s := wipeD [x0, some (.ref r), some (.ref q), x3, x4, x5, x6, x7, x8, x9, x10, x11, x12, x13, x14, x15, x16, x17, x18, x19, x20, x21, x22, x23, x24, x25] [21]) (r := g.length) (xs := rngL 0 6)
    (P := fun i acc g' => Dr g' r q ∧ g'[g.length]? = some (.lst acc) ∧ ∃ us : List Int, acc = us.map D.int ∧ us.length = i ∧ ∀ u ∈ us, 0 ≤ u ∧ u ≤ 1000)
    (fun i acc g' ⟨_, h, _⟩ => ⟨src_rng _ _ _, h⟩) (fun i x acc g' hx ⟨hD', h2, us, h3, h4, h5⟩ => by
      subst h3
      have hi : i < 6 := by have := (List.getElem?_eq_some_iff.mp hx).1; rw [rngL_len] at this; exact this
      obtain ⟨v, g2, e, v0, v1, hD2, hU⟩ := take_ok hD' (lim := 150) (by omega)
      have hg2 : g2[g.length]? = some (.lst (us.map D.int)) := by rw [hU.2 _ (by omega)]; exact h2
      have hlt : g.length < g2.length := (List.getElem?_eq_some_iff.mp hg2).1
      refine ⟨[x0, some (.ref r), some (.ref q), x3, x4, x5, x6, x7, x8, x9, x10, x11, x12, x13, x14, x15, x16, x17, x18, x19, x20, some x, x22, x23, x24, x25], rfl, .inl ⟨.int v, g', g2, rfl, ?_, hg2, by rw [List.length_map]; omega, hD2.setO (by omega) (by omega) _, List.getElem?_set_self hlt, us ++ [v], by rw [List.map_append]; rfl, by rw [List.length_append, h4]; rfl, fun u hu => ?_⟩⟩
      · walk_at "ev"; rw [e]
      · rcases List.mem_append.mp hu with hu | hu
        · exact h5 u hu
        · rw [List.mem_singleton.mp hu]; omega) 6 0 [] (g ++ [.lst []]) (by rw [rngL_len]) ⟨hD.app _, get_app, [], rfl, rfl, fun u hu => absurd hu (by simp)⟩
  rw [rngL_len] at h4
  exact ⟨g', us, h4, h5, hD', h2, e1⟩
theorem share_Sh {p : Int} (hp : 0 ≤ p ∧ p < 12) : Sh (p / (Nat.gcd p.natAbs (12 : Int).natAbs : Nat)) ((12 : Int) / (Nat.gcd p.natAbs (12 : Int).natAbs : Nat)) := by
  have : p = 0 ∨ p = 1 ∨ p = 2 ∨ p = 3 ∨ p = 4 ∨ p = 5 ∨ p = 6 ∨ p = 7 ∨ p = 8 ∨ p = 9 ∨ p = 10 ∨ p = 11 := by omega
  rcases this with rfl | rfl | rfl | rfl | rfl | rfl | rfl | rfl | rfl | rfl | rfl | rfl <;> exact ⟨by decide, by decide, by decide, by decide⟩
theorem t29_ok {sold b : Int} (hs : 1 ≤ sold ∧ sold ≤ 1000) (hb : 0 ≤ b ∧ b ≤ sold) (g : Gp) (x0 x1 x2 x3 x4 x5 x6 x7 x8 x9 x11 x12 x13 x14 x15 x16 x18 x19 x20 x21 x22 x23 x24 x25 : Option D) :
    t_law_29 [x0, x1, x2, x3, x4, x5, x6, x7, x8, x9, some (rt sold b), x11, x12, x13, x14, x15, x16, some (.int sold), x18, x19, x20, x21, x22, x23, x24, x25] g = .rt (.bl true) g := by
  have e1 := share_of_ok (a := sold) (b := b) (k := 20) (by omega) (by omega) hb g
  have e2 := share_of_ok (a := sold) (b := b) (k := 1) (by omega) (by omega) hb g
  have em : mulD (.tup [rt sold b]) (.int 20) g = .ok (.tup (List.replicate 20 (rt sold b))) g := rfl
  have e2' : m_share_of [.tup [rt sold b]] g = _ := e2
  have er := round_trip_ok (p := sold) (by omega) g
  obtain ⟨X, hX⟩ : ∃ X, X = List.replicate 20 (rt sold b) := ⟨_, rfl⟩
  rw [← hX] at e1 em
  clear hX
  unfold t_law_29
  walk_at "ev"
  rw [em]; walk_at "ev"; rw [e1]; walk_at "ev"; rw [e2']; walk_at "ev"
  have eq : ∀ x y : Int, eqD (rt x y) (rt x y) g = .ok (.bl true) g := fun x y => vd_eqT [x, y] g
  rw [eq]; walk_at "ev"
  rw [er]; walk_at "ev"
  rfl
theorem t4_ok {r q : Nat} {g : Gp} (hD : Dr g r q) (x0 x3 x4 x5 x6 x7 x8 x9 x10 x11 x12 x13 x14 x15 x16 x17 x18 x19 x20 x21 x22 x23 x24 x25 : Option D) : ∃ g', t_law_4 [x0, some (.ref r), some (.ref q), x3, x4, x5, x6, x7, x8, x9, x10, x11, x12, x13, x14, x15, x16, x17, x18, x19, x20, x21, x22, x23, x24, x25] g = .rt (.bl true) g' := by
  obtain ⟨v, g1, e1, v0, v1, hD1, _⟩ := take_ok hD (lim := 997) (by omega)
  obtain ⟨p, g2, e2, p0, p1, hD2, _⟩ := take_ok hD1 (lim := 12) (by omega)
  have hSh := share_Sh (p := p) (by omega)
  generalize hA : p / (Nat.gcd p.natAbs (12 : Int).natAbs : Nat) = A at hSh
  generalize hB : (12 : Int) / (Nat.gcd p.natAbs (12 : Int).natAbs : Nat) = B at hSh
  obtain ⟨g3, us, h3, hu, hD3, hg3, e3⟩ := takes_ok hD2 x0 x3 x4 x5 x6 x7 x8 x9 x10 x11 x12 x13 x14 x15 x16 (some (.int (1 + v))) (some (rt A B)) x19 x20 x21 x22 x23 x24 x25
  have hs : 1 ≤ 1 + v ∧ 1 + v ≤ 1000000 := by omega
  have hrec := recognised_ok hs hSh (us := us) (by omega) (fun u hu' => by have := hu u hu'; omega) g3
  rw [recg_goE] at hrec
  obtain ⟨u0, u1, u2, u3, u4, u5, rfl⟩ : ∃ u0 u1 u2 u3 u4 u5, us = [u0, u1, u2, u3, u4, u5] := by
    match us, h3 with
    | [u0, u1, u2, u3, u4, u5], _ => exact ⟨u0, u1, u2, u3, u4, u5, rfl⟩
  have hb : (0 ≤ u0 ∧ u0 ≤ 1000) ∧ (0 ≤ u1 ∧ u1 ≤ 1000) ∧ (0 ≤ u2 ∧ u2 ≤ 1000) ∧ (0 ≤ u3 ∧ u3 ≤ 1000) ∧ (0 ≤ u4 ∧ u4 ≤ 1000) ∧ (0 ≤ u5 ∧ u5 ≤ 1000) :=
    ⟨hu u0 (by simp), hu u1 (by simp), hu u2 (by simp), hu u3 (by simp), hu u4 (by simp), hu u5 (by simp)⟩
  obtain ⟨b0, b1, b2, b3, b4, b5⟩ := hb
  have hR : ∀ us : List Int, 1 ≤ us.length ∧ us.length ≤ 12 → (∀ u ∈ us, 0 ≤ u ∧ u ≤ 1000000) → ∀ g, m_recognised [.int (1 + v), rt A B, .tup (us.map D.int)] g = .ok (.tup ((goE (earn (1 + v) A B) 0 us).map D.int)) g :=
    fun us hl hu g => by rw [recognised_ok hs hSh hl hu g, recg_goE]
  have hO : ∀ us : List Int, 1 ≤ us.length ∧ us.length ≤ 12 → (∀ u ∈ us, 0 ≤ u ∧ u ≤ 1000000) → ∀ g, m_still_owed [.int (1 + v), rt A B, .tup (us.map D.int)] g = .ok (.int ((fun z => if (1 + v) - z - earn (1 + v) A B z > 0 then (1 + v) - z - earn (1 + v) A B z else 0) us.sum)) g :=
    fun us hl hu g => still_owed_ok hs hSh hl hu g
  generalize (earn (1 + v) A B) = E at hrec hR hO
  generalize (fun z => if (1 + v) - z - E z > 0 then (1 + v) - z - E z else 0) = W at hO
  unfold t_law_4
  walk_at "ev"
  rw [e1]; walk_at "ev"
  unfold t_law_19
  walk_at "ev"
  rw [e2]; walk_at "ev"
  rw [show m__law_red 12 = m__law_red (11 + 1) from rfl, law_red_ok 11 (by omega) (by omega) (by omega), hA, hB]; walk_at "ev"
  unfold t_law_20
  rw [ev_seq, ev_set, ev_call, ev_cons, e3]
  walk_at "ev"
  rw [vd_tupleL _ hg3]; walk_at "ev"
  unfold t_law_21
  walk_at "ev"
  simp only [List.map_cons, List.map_nil] at hrec
  rw [hrec]; walk_at "ev"
  unfold t_law_22
  rw [ev_seq]
  have key : ∃ y21 y22 y23 y24 y25 : Option D, sFor (iRg1 (mCons (mC (.int 5)) mNil)) (gN 21) l_law_6 [x0, some (.ref r), some (.ref q), x3, x4, x5, x6, x7, x8, x9, x10, x11, x12, x13, x14, x15, x16, some (.int (1 + v)), some (rt A B), some (.tup ([u0, u1, u2, u3, u4, u5].map D.int)), some (.tup ((goE E 0 [u0, u1, u2, u3, u4, u5]).map D.int)), x21, x22, x23, x24, x25] g3 =
      .nx [x0, some (.ref r), some (.ref q), x3, x4, x5, x6, x7, x8, x9, x10, x11, x12, x13, x14, x15, x16, some (.int (1 + v)), some (rt A B), some (.tup ([u0, u1, u2, u3, u4, u5].map D.int)), some (.tup ((goE E 0 [u0, u1, u2, u3, u4, u5]).map D.int)), y21, y22, y23, y24, y25] g3 := by
    unfold sFor
    rw [i_rg1 (j := 5) rfl (by omega), R.go_ok]
    obtain ⟨s2, g4, q1, rfl, y21, y22, y23, y24, y25, rfl⟩ := for_rng0 (tg := gN 21) (b := l_law_6) (lo := 0) (n := (5 : Int).toNat)
      (P := fun i s g' => g' = g3 ∧ ∃ y21 y22 y23 y24 y25 : Option D, s = [x0, some (.ref r), some (.ref q), x3, x4, x5, x6, x7, x8, x9, x10, x11, x12, x13, x14, x15, x16, some (.int (1 + v)), some (rt A B), some (.tup ([u0, u1, u2, u3, u4, u5].map D.int)), some (.tup ((goE E 0 [u0, u1, u2, u3, u4, u5]).map D.int)), y21, y22, y23, y24, y25])
      (s := [x0, some (.ref r), some (.ref q), x3, x4, x5, x6, x7, x8, x9, x10, x11, x12, x13, x14, x15, x16, some (.int (1 + v)), some (rt A B), some (.tup ([u0, u1, u2, u3, u4, u5].map D.int)), some (.tup ((goE E 0 [u0, u1, u2, u3, u4, u5]).map D.int)), x21, x22, x23, x24, x25]) (g := g3) ⟨rfl, x21, x22, x23, x24, x25, rfl⟩ (by
        rintro i s g' hi ⟨rfl, y21, y22, y23, y24, y25, rfl⟩
        have hi' : i < 5 := hi
        have hk : i = 0 ∨ i = 1 ∨ i = 2 ∨ i = 3 ∨ i = 4 := by omega
        rcases hk with rfl | rfl | rfl | rfl | rfl
        · obtain ⟨z22, z23, z24, z25, e⟩ := l6_0 hR hO u0 u1 u2 u3 u4 u5 b0 b1 b2 b3 b4 b5 g' x0 (some (.ref r)) (some (.ref q)) x3 x4 x5 x6 x7 x8 x9 x10 x11 x12 x13 x14 x15 x16 y22 y23 y24 y25
          exact ⟨_, _, g', rfl, .inl e, rfl, _, z22, z23, z24, z25, rfl⟩
        · obtain ⟨z22, z23, z24, z25, e⟩ := l6_1 hR hO u0 u1 u2 u3 u4 u5 b0 b1 b2 b3 b4 b5 g' x0 (some (.ref r)) (some (.ref q)) x3 x4 x5 x6 x7 x8 x9 x10 x11 x12 x13 x14 x15 x16 y22 y23 y24 y25
          exact ⟨_, _, g', rfl, .inl e, rfl, _, z22, z23, z24, z25, rfl⟩
        · obtain ⟨z22, z23, z24, z25, e⟩ := l6_2 hR hO u0 u1 u2 u3 u4 u5 b0 b1 b2 b3 b4 b5 g' x0 (some (.ref r)) (some (.ref q)) x3 x4 x5 x6 x7 x8 x9 x10 x11 x12 x13 x14 x15 x16 y22 y23 y24 y25
          exact ⟨_, _, g', rfl, .inl e, rfl, _, z22, z23, z24, z25, rfl⟩
        · obtain ⟨z22, z23, z24, z25, e⟩ := l6_3 hR hO u0 u1 u2 u3 u4 u5 b0 b1 b2 b3 b4 b5 g' x0 (some (.ref r)) (some (.ref q)) x3 x4 x5 x6 x7 x8 x9 x10 x11 x12 x13 x14 x15 x16 y22 y23 y24 y25
          exact ⟨_, _, g', rfl, .inl e, rfl, _, z22, z23, z24, z25, rfl⟩
        · obtain ⟨z22, z23, z24, z25, e⟩ := l6_4 hR hO u0 u1 u2 u3 u4 u5 b0 b1 b2 b3 b4 b5 g' x0 (some (.ref r)) (some (.ref q)) x3 x4 x5 x6 x7 x8 x9 x10 x11 x12 x13 x14 x15 x16 y22 y23 y24 y25
          exact ⟨_, _, g', rfl, .inl e, rfl, _, z22, z23, z24, z25, rfl⟩)
    exact ⟨y21, y22, y23, y24, y25, q1⟩
  obtain ⟨y21, y22, y23, y24, y25, key⟩ := key
  simp only [List.map_cons, List.map_nil] at key
  rw [key, F.then_nx]
  obtain ⟨w, g4, e4, w0, w1, hD4, _⟩ := take_ok hD3 (lim := 1 + v + 1) (by omega)
  refine ⟨g4, ?_⟩
  unfold t_law_23
  walk_at "ev"
  rw [e4]; walk_at "ev"
  exact t29_ok (sold := 1 + v) (b := 1 + v - w) (by omega) (by omega) g4 x0 (some (.ref r)) (some (.ref q)) x3 x4 x5 x6 x7 x8 x9 x11 x12 x13 x14 x15 x16 (some (rt A B)) _ _ y21 y22 y23 y24 y25
theorem law_true (ns : List Int) (hn : ns.length ≤ 63) : ∃ g', m_law [.rom (ns.map D.int)] [] = .ok (.bl true) g' := by
  obtain ⟨row, hne, hl, e⟩ := numbers_ok ns hn []
  have hD : Dr [.lst (row.map D.int), .lst [.int 0]] 0 1 := ⟨row, 0, hne, hl, rfl, rfl, by omega, by omega⟩
  obtain ⟨part, g1, e1, p0, p1, hD1, _⟩ := take_ok hD (lim := 4) (by omega)
  have key : ∃ (g2 : Gp) (n' : Int) (y5 y6 y7 y8 y9 y10 y11 y12 y13 y14 y15 y16 : Option D), Dr g2 0 1 ∧ sFor (iRg2 (mCons (mC (.int 1)) (mCons (mC (.int 8)) mNil))) (gN 5) l_law_0 [some (.rom (ns.map D.int)), some (.ref 0), some (.ref 1), some (.int part), some (.int 0), none, none, none, none, none, none, none, none, none, none, none, none, none, none, none, none, none, none, none, none, none] g1 =
      .nx [some (.rom (ns.map D.int)), some (.ref 0), some (.ref 1), some (.int part), some (.int n'), y5, y6, y7, y8, y9, y10, y11, y12, y13, y14, y15, y16, none, none, none, none, none, none, none, none, none] g2 := by
    unfold sFor
    rw [i_rg2 (i := 1) (j := 8) rfl (by omega) (by omega), R.go_ok]
    obtain ⟨s2, g2, q1, hD2, n', y5, y6, y7, y8, y9, y10, y11, y12, y13, y14, y15, y16, rfl⟩ := for_rng0 (tg := gN 5) (b := l_law_0) (lo := 1) (n := (8 - 1 : Int).toNat)
      (P := fun i s g' => Dr g' 0 1 ∧ ∃ (n' : Int) (y5 y6 y7 y8 y9 y10 y11 y12 y13 y14 y15 y16 : Option D), s = [some (.rom (ns.map D.int)), some (.ref 0), some (.ref 1), some (.int part), some (.int n'), y5, y6, y7, y8, y9, y10, y11, y12, y13, y14, y15, y16, none, none, none, none, none, none, none, none, none])
      (s := [some (.rom (ns.map D.int)), some (.ref 0), some (.ref 1), some (.int part), some (.int 0), none, none, none, none, none, none, none, none, none, none, none, none, none, none, none, none, none, none, none, none, none]) (g := g1) ⟨hD1, 0, none, none, none, none, none, none, none, none, none, none, none, none, rfl⟩ (by
        rintro i s g' hi ⟨hD', n', y5, y6, y7, y8, y9, y10, y11, y12, y13, y14, y15, y16, rfl⟩
        have hi' : i < 7 := hi
        obtain ⟨g2, n2, z6, z7, z8, z9, z10, z11, z12, z13, z14, z15, z16, hD2, e⟩ := l0_ok (part := part) (n := n') (a := 1 + (i : Int)) (by omega) hD' (some (.rom (ns.map D.int))) y6 y7 y8 y9 y10 y11 y12 y13 y14 y15 y16 none none none none none none none none none
        exact ⟨_, _, g2, rfl, .inl e, hD2, n2, _, z6, z7, z8, z9, z10, z11, z12, z13, z14, z15, z16, rfl⟩)
    exact ⟨g2, n', y5, y6, y7, y8, y9, y10, y11, y12, y13, y14, y15, y16, hD2, q1⟩
  obtain ⟨g2, n', y5, y6, y7, y8, y9, y10, y11, y12, y13, y14, y15, y16, hD2, key⟩ := key
  obtain ⟨g3, e3⟩ := t4_ok hD2 (some (.rom (ns.map D.int))) (some (.int part)) (some (.int n')) y5 y6 y7 y8 y9 y10 y11 y12 y13 y14 y15 y16 none none none none none none none none none
  refine ⟨[], ?_⟩
  unfold m_law
  rw [ev_fun]
  have eb : (sSeq (sSet (gN 1) (mCall m__law_numbers (mCons (mVar 0) mNil))) t_law_0) (slots 26 [.rom (ns.map D.int)]) [] = .rt (.bl true) g3 := by
    walk_at "ev"
    rw [e]; walk_at "ev"
    unfold t_law_0
    rw [ev_seq, ev_set]
    have e0 : mLst (mCons (mC (.int 0)) mNil) [some (.rom (ns.map D.int)), some (.ref 0), none, none, none, none, none, none, none, none, none, none, none, none, none, none, none, none, none, none, none, none, none, none, none, none] ([.lst (row.map D.int)]) = .ok (.ref 1) [.lst (row.map D.int), .lst [.int 0]] := rfl
    rw [e0, R.go_ok, F.then_nx]
    unfold t_law_1
    walk_at "ev"
    rw [e1]; walk_at "ev"
    unfold t_law_2
    walk_at "ev"
    unfold t_law_3
    rw [ev_seq, key, F.then_nx, e3]
  rw [eb]
  exact gc_app [] g3 (.bl true) rfl
end Gw
end
section
set_option maxRecDepth 100000
open PySem PySem.W PyProof.Rows L2
/-! ### the end -/
set_option maxHeartbeats 0
open_top hd for PySem.Challenge.rw_giftwright_k59_trips_and_shares_in_parts
theorem PySem.Challenge.cw_giftwright_k59_trips_and_shares_in_parts_holds : PySem.Challenge.rw_giftwright_k59_trips_and_shares_in_parts.Holds :=
  hd (by
  k_fill
  refine L2.walk_of (l := PySem.Challenge.rw_giftwright_k59_trips_and_shares_in_parts) (n := 63) (k := 16) (x := "script") (CX := fun _ => L2.CX0) (sp := fun w => Sim.spLaw _) rfl (by decide) rfl ⟨rfl, by decide, by decide⟩ (fun w h Y => PySem.W.kIn_of Y) ?F (fun _ _ a ns hl ho hS => ⟨a, ns, rfl, Sim.sqr_of ho hS, hl, fun _ => rfl⟩) (fun _ _ _ _ _ h => h)
  case F =>
    intro w mg fa h KX G hmg0
    have hmg : mg "law" = some (.ref fa) := hmg0
    clear hmg0
    have D__law_near : Sim.DefT (L2.KOf KX) mg "_law_near" Gw.s__law_near ["pence", "rate"] := by
      dsimp only [L2.KOf]
      refine' Sim.def_mk KX G ?a ?l ?c ?k (fun _ _ _ _ _ _ us hl => match us, hl with | [_, _], _ => rfl)
      (case a => k_is); (case l => k_is); (case c => k_is); (case k => k_is)
    have D__law_by_parts : Sim.DefT (L2.KOf KX) mg "_law_by_parts" Gw.s__law_by_parts ["rate", "top"] := by
      dsimp only [L2.KOf]
      refine' Sim.def_mk KX G ?a ?l ?c ?k (fun _ _ _ _ _ _ us hl => match us, hl with | [_, _], _ => rfl)
      (case a => k_is); (case l => k_is); (case c => k_is); (case k => k_is)
    have D__law_less : Sim.DefT (L2.KOf KX) mg "_law_less" Gw.s__law_less ["one", "other"] := by
      dsimp only [L2.KOf]
      refine' Sim.def_mk KX G ?a ?l ?c ?k (fun _ _ _ _ _ _ us hl => match us, hl with | [_, _], _ => rfl)
      (case a => k_is); (case l => k_is); (case c => k_is); (case k => k_is)
    have D__law_gcd : Sim.DefT (L2.KOf KX) mg "_law_gcd" Gw.s__law_gcd ["one", "other"] := by
      dsimp only [L2.KOf]
      refine' Sim.def_mk KX G ?a ?l ?c ?k (fun _ _ _ _ _ _ us hl => match us, hl with | [_, _], _ => rfl)
      (case a => k_is); (case l => k_is); (case c => k_is); (case k => k_is)
    have D__law_red : Sim.DefT (L2.KOf KX) mg "_law_red" Gw.s__law_red ["n", "d"] := by
      dsimp only [L2.KOf]
      refine' Sim.def_mk KX G ?a ?l ?c ?k (fun _ _ _ _ _ _ us hl => match us, hl with | [_, _], _ => rfl)
      (case a => k_is); (case l => k_is); (case c => k_is); (case k => k_is)
    have D__law_mul : Sim.DefT (L2.KOf KX) mg "_law_mul" Gw.s__law_mul ["one", "other"] := by
      dsimp only [L2.KOf]
      refine' Sim.def_mk KX G ?a ?l ?c ?k (fun _ _ _ _ _ _ us hl => match us, hl with | [_, _], _ => rfl)
      (case a => k_is); (case l => k_is); (case c => k_is); (case k => k_is)
    have D__law_numbers : Sim.DefT (L2.KOf KX) mg "_law_numbers" Gw.s__law_numbers ["script"] := by
      dsimp only [L2.KOf]
      refine' Sim.def_mk KX G ?a ?l ?c ?k (fun _ _ _ _ _ _ us hl => match us, hl with | [_], _ => rfl)
      (case a => k_is); (case l => k_is); (case c => k_is); (case k => k_is)
    have D__law_so : Sim.DefT (L2.KOf KX) mg "_law_so" Gw.s__law_so ["found", "meant"] := by
      dsimp only [L2.KOf]
      refine' Sim.def_mk KX G ?a ?l ?c ?k (fun _ _ _ _ _ _ us hl => match us, hl with | [_, _], _ => rfl)
      (case a => k_is); (case l => k_is); (case c => k_is); (case k => k_is)
    have D__law_draw : Sim.DefT (L2.KOf KX) mg "_law_draw" Gw.s__law_draw ["row", "at", "limit"] := by
      dsimp only [L2.KOf]
      refine' Sim.def_mk KX G ?a ?l ?c ?k (fun _ _ _ _ _ _ us hl => match us, hl with | [_, _, _], _ => rfl)
      (case a => k_is); (case l => k_is); (case c => k_is); (case k => k_is)
    have D__law_take : Sim.DefT (L2.KOf KX) mg "_law_take" Gw.s__law_take ["row", "spot", "limit"] := by
      dsimp only [L2.KOf]
      refine' Sim.def_mk KX G ?a ?l ?c ?k (fun _ _ _ _ _ _ us hl => match us, hl with | [_, _, _], _ => rfl)
      (case a => k_is); (case l => k_is); (case c => k_is); (case k => k_is)
    have D_rounded_down : Sim.DefT (L2.KOf KX) mg "rounded_down" Gw.s_rounded_down ["numerator", "denominator"] := by
      dsimp only [L2.KOf]
      refine' Sim.def_mk KX G ?a ?l ?c ?k (fun _ _ _ _ _ _ us hl => match us, hl with | [_, _], _ => rfl)
      (case a => k_is); (case l => k_is); (case c => k_is); (case k => k_is)
    have D_at_rate : Sim.DefT (L2.KOf KX) mg "at_rate" Gw.s_at_rate ["pence", "rate"] := by
      dsimp only [L2.KOf]
      refine' Sim.def_mk KX G ?a ?l ?c ?k (fun _ _ _ _ _ _ us hl => match us, hl with | [_, _], _ => rfl)
      (case a => k_is); (case l => k_is); (case c => k_is); (case k => k_is)
    have D_is_integer : Sim.DefT (L2.KOf KX) mg "is_integer" Gw.s_is_integer ["value"] := by
      dsimp only [L2.KOf]
      refine' Sim.def_mk KX G ?a ?l ?c ?k (fun _ _ _ _ _ _ us hl => match us, hl with | [_], _ => rfl)
      (case a => k_is); (case l => k_is); (case c => k_is); (case k => k_is)
    have D_is_between : Sim.DefT (L2.KOf KX) mg "is_between" Gw.s_is_between ["value", "least", "most"] := by
      dsimp only [L2.KOf]
      refine' Sim.def_mk KX G ?a ?l ?c ?k (fun _ _ _ _ _ _ us hl => match us, hl with | [_, _, _], _ => rfl)
      (case a => k_is); (case l => k_is); (case c => k_is); (case k => k_is)
    have D_is_sequence : Sim.DefT (L2.KOf KX) mg "is_sequence" Gw.s_is_sequence ["value"] := by
      dsimp only [L2.KOf]
      refine' Sim.def_mk KX G ?a ?l ?c ?k (fun _ _ _ _ _ _ us hl => match us, hl with | [_], _ => rfl)
      (case a => k_is); (case l => k_is); (case c => k_is); (case k => k_is)
    have D_is_row : Sim.DefT (L2.KOf KX) mg "is_row" Gw.s_is_row ["value", "size"] := by
      dsimp only [L2.KOf]
      refine' Sim.def_mk KX G ?a ?l ?c ?k (fun _ _ _ _ _ _ us hl => match us, hl with | [_, _], _ => rfl)
      (case a => k_is); (case l => k_is); (case c => k_is); (case k => k_is)
    have D_is_fraction : Sim.DefT (L2.KOf KX) mg "is_fraction" Gw.s_is_fraction ["value"] := by
      dsimp only [L2.KOf]
      refine' Sim.def_mk KX G ?a ?l ?c ?k (fun _ _ _ _ _ _ us hl => match us, hl with | [_], _ => rfl)
      (case a => k_is); (case l => k_is); (case c => k_is); (case k => k_is)
    have D_is_rate : Sim.DefT (L2.KOf KX) mg "is_rate" Gw.s_is_rate ["value"] := by
      dsimp only [L2.KOf]
      refine' Sim.def_mk KX G ?a ?l ?c ?k (fun _ _ _ _ _ _ us hl => match us, hl with | [_], _ => rfl)
      (case a => k_is); (case l => k_is); (case c => k_is); (case k => k_is)
    have D_need : Sim.DefT (L2.KOf KX) mg "need" Gw.s_need ["held", "at"] := by
      dsimp only [L2.KOf]
      refine' Sim.def_mk KX G ?a ?l ?c ?k (fun _ _ _ _ _ _ us hl => match us, hl with | [_, _], _ => rfl)
      (case a => k_is); (case l => k_is); (case c => k_is); (case k => k_is)
    have D_exchanged : Sim.DefT (L2.KOf KX) mg "exchanged" Gw.s_exchanged ["pence", "rate"] := by
      dsimp only [L2.KOf]
      refine' Sim.def_mk KX G ?a ?l ?c ?k (fun _ _ _ _ _ _ us hl => match us, hl with | [_, _], _ => rfl)
      (case a => k_is); (case l => k_is); (case c => k_is); (case k => k_is)
    have D_rounded_nearest : Sim.DefT (L2.KOf KX) mg "rounded_nearest" Gw.s_rounded_nearest ["numerator", "denominator"] := by
      dsimp only [L2.KOf]
      refine' Sim.def_mk KX G ?a ?l ?c ?k (fun _ _ _ _ _ _ us hl => match us, hl with | [_, _], _ => rfl)
      (case a => k_is); (case l => k_is); (case c => k_is); (case k => k_is)
    have D_nearest_at_rate : Sim.DefT (L2.KOf KX) mg "nearest_at_rate" Gw.s_nearest_at_rate ["pence", "rate"] := by
      dsimp only [L2.KOf]
      refine' Sim.def_mk KX G ?a ?l ?c ?k (fun _ _ _ _ _ _ us hl => match us, hl with | [_, _], _ => rfl)
      (case a => k_is); (case l => k_is); (case c => k_is); (case k => k_is)
    have D_exchanged_nearest : Sim.DefT (L2.KOf KX) mg "exchanged_nearest" Gw.s_exchanged_nearest ["pence", "rate"] := by
      dsimp only [L2.KOf]
      refine' Sim.def_mk KX G ?a ?l ?c ?k (fun _ _ _ _ _ _ us hl => match us, hl with | [_, _], _ => rfl)
      (case a => k_is); (case l => k_is); (case c => k_is); (case k => k_is)
    have D_least_cap : Sim.DefT (L2.KOf KX) mg "least_cap" Gw.s_least_cap ["rows", "left", "cap", "goal"] := by
      dsimp only [L2.KOf]
      refine' Sim.def_mk KX G ?a ?l ?c ?k (fun _ _ _ _ _ _ us hl => match us, hl with | [_, _, _, _], _ => rfl)
      (case a => k_is); (case l => k_is); (case c => k_is); (case k => k_is)
    have D_score_rows : Sim.DefT (L2.KOf KX) mg "score_rows" Gw.s_score_rows ["worths", "whole"] := by
      dsimp only [L2.KOf]
      refine' Sim.def_mk KX G ?a ?l ?c ?k (fun _ _ _ _ _ _ us hl => match us, hl with | [_, _], _ => rfl)
      (case a => k_is); (case l => k_is); (case c => k_is); (case k => k_is)
    have D_best_parts : Sim.DefT (L2.KOf KX) mg "best_parts" Gw.s_best_parts ["worths", "whole"] := by
      dsimp only [L2.KOf]
      refine' Sim.def_mk KX G ?a ?l ?c ?k (fun _ _ _ _ _ _ us hl => match us, hl with | [_, _], _ => rfl)
      (case a => k_is); (case l => k_is); (case c => k_is); (case k => k_is)
    have D_made_of_parts : Sim.DefT (L2.KOf KX) mg "made_of_parts" Gw.s_made_of_parts ["rate", "most"] := by
      dsimp only [L2.KOf]
      refine' Sim.def_mk KX G ?a ?l ?c ?k (fun _ _ _ _ _ _ us hl => match us, hl with | [_, _], _ => rfl)
      (case a => k_is); (case l => k_is); (case c => k_is); (case k => k_is)
    have D_most_by_parts : Sim.DefT (L2.KOf KX) mg "most_by_parts" Gw.s_most_by_parts ["pence", "rate"] := by
      dsimp only [L2.KOf]
      refine' Sim.def_mk KX G ?a ?l ?c ?k (fun _ _ _ _ _ _ us hl => match us, hl with | [_, _], _ => rfl)
      (case a => k_is); (case l => k_is); (case c => k_is); (case k => k_is)
    have D_greatest_worths : Sim.DefT (L2.KOf KX) mg "greatest_worths" Gw.s_greatest_worths ["worths", "whole"] := by
      dsimp only [L2.KOf]
      refine' Sim.def_mk KX G ?a ?l ?c ?k (fun _ _ _ _ _ _ us hl => match us, hl with | [_, _], _ => rfl)
      (case a => k_is); (case l => k_is); (case c => k_is); (case k => k_is)
    have D_first_gain : Sim.DefT (L2.KOf KX) mg "first_gain" Gw.s_first_gain ["worths", "most"] := by
      dsimp only [L2.KOf]
      refine' Sim.def_mk KX G ?a ?l ?c ?k (fun _ _ _ _ _ _ us hl => match us, hl with | [_, _], _ => rfl)
      (case a => k_is); (case l => k_is); (case c => k_is); (case k => k_is)
    have D_parts_gain : Sim.DefT (L2.KOf KX) mg "parts_gain" Gw.s_parts_gain ["rate", "most"] := by
      dsimp only [L2.KOf]
      refine' Sim.def_mk KX G ?a ?l ?c ?k (fun _ _ _ _ _ _ us hl => match us, hl with | [_, _], _ => rfl)
      (case a => k_is); (case l => k_is); (case c => k_is); (case k => k_is)
    have D_never_spent : Sim.DefT (L2.KOf KX) mg "never_spent" Gw.s_never_spent ["sold", "share"] := by
      dsimp only [L2.KOf]
      refine' Sim.def_mk KX G ?a ?l ?c ?k (fun _ _ _ _ _ _ us hl => match us, hl with | [_, _], _ => rfl)
      (case a => k_is); (case l => k_is); (case c => k_is); (case k => k_is)
    have D_earned_by : Sim.DefT (L2.KOf KX) mg "earned_by" Gw.s_earned_by ["sold", "share", "use"] := by
      dsimp only [L2.KOf]
      refine' Sim.def_mk KX G ?a ?l ?c ?k (fun _ _ _ _ _ _ us hl => match us, hl with | [_, _, _], _ => rfl)
      (case a => k_is); (case l => k_is); (case c => k_is); (case k => k_is)
    have D_running_sums : Sim.DefT (L2.KOf KX) mg "running_sums" Gw.s_running_sums ["numbers"] := by
      dsimp only [L2.KOf]
      refine' Sim.def_mk KX G ?a ?l ?c ?k (fun _ _ _ _ _ _ us hl => match us, hl with | [_], _ => rfl)
      (case a => k_is); (case l => k_is); (case c => k_is); (case k => k_is)
    have D_steps_of : Sim.DefT (L2.KOf KX) mg "steps_of" Gw.s_steps_of ["sums"] := by
      dsimp only [L2.KOf]
      refine' Sim.def_mk KX G ?a ?l ?c ?k (fun _ _ _ _ _ _ us hl => match us, hl with | [_], _ => rfl)
      (case a => k_is); (case l => k_is); (case c => k_is); (case k => k_is)
    have D_earned_in_each : Sim.DefT (L2.KOf KX) mg "earned_in_each" Gw.s_earned_in_each ["sold", "share", "used"] := by
      dsimp only [L2.KOf]
      refine' Sim.def_mk KX G ?a ?l ?c ?k (fun _ _ _ _ _ _ us hl => match us, hl with | [_, _, _], _ => rfl)
      (case a => k_is); (case l => k_is); (case c => k_is); (case k => k_is)
    have D_has_size : Sim.DefT (L2.KOf KX) mg "has_size" Gw.s_has_size ["value", "fewest", "most"] := by
      dsimp only [L2.KOf]
      refine' Sim.def_mk KX G ?a ?l ?c ?k (fun _ _ _ _ _ _ us hl => match us, hl with | [_, _, _], _ => rfl)
      (case a => k_is); (case l => k_is); (case c => k_is); (case k => k_is)
    have D_are_between : Sim.DefT (L2.KOf KX) mg "are_between" Gw.s_are_between ["value", "fewest", "most", "least", "greatest"] := by
      dsimp only [L2.KOf]
      refine' Sim.def_mk KX G ?a ?l ?c ?k (fun _ _ _ _ _ _ us hl => match us, hl with | [_, _, _, _, _], _ => rfl)
      (case a => k_is); (case l => k_is); (case c => k_is); (case k => k_is)
    have D_is_share : Sim.DefT (L2.KOf KX) mg "is_share" Gw.s_is_share ["value"] := by
      dsimp only [L2.KOf]
      refine' Sim.def_mk KX G ?a ?l ?c ?k (fun _ _ _ _ _ _ us hl => match us, hl with | [_], _ => rfl)
      (case a => k_is); (case l => k_is); (case c => k_is); (case k => k_is)
    have D_need_periods : Sim.DefT (L2.KOf KX) mg "need_periods" Gw.s_need_periods ["sold", "share", "used"] := by
      dsimp only [L2.KOf]
      refine' Sim.def_mk KX G ?a ?l ?c ?k (fun _ _ _ _ _ _ us hl => match us, hl with | [_, _, _], _ => rfl)
      (case a => k_is); (case l => k_is); (case c => k_is); (case k => k_is)
    have D_recognised : Sim.DefT (L2.KOf KX) mg "recognised" Gw.s_recognised ["sold", "share", "used"] := by
      dsimp only [L2.KOf]
      refine' Sim.def_mk KX G ?a ?l ?c ?k (fun _ _ _ _ _ _ us hl => match us, hl with | [_, _, _], _ => rfl)
      (case a => k_is); (case l => k_is); (case c => k_is); (case k => k_is)
    have D_are_rates : Sim.DefT (L2.KOf KX) mg "are_rates" Gw.s_are_rates ["value"] := by
      dsimp only [L2.KOf]
      refine' Sim.def_mk KX G ?a ?l ?c ?k (fun _ _ _ _ _ _ us hl => match us, hl with | [_], _ => rfl)
      (case a => k_is); (case l => k_is); (case c => k_is); (case k => k_is)
    have D_behind_trip : Sim.DefT (L2.KOf KX) mg "behind_trip" Gw.s_behind_trip ["pence", "rates"] := by
      dsimp only [L2.KOf]
      refine' Sim.def_mk KX G ?a ?l ?c ?k (fun _ _ _ _ _ _ us hl => match us, hl with | [_, _], _ => rfl)
      (case a => k_is); (case l => k_is); (case c => k_is); (case k => k_is)
    have D_round_trip : Sim.DefT (L2.KOf KX) mg "round_trip" Gw.s_round_trip ["pence", "rates"] := by
      dsimp only [L2.KOf]
      refine' Sim.def_mk KX G ?a ?l ?c ?k (fun _ _ _ _ _ _ us hl => match us, hl with | [_, _], _ => rfl)
      (case a => k_is); (case l => k_is); (case c => k_is); (case k => k_is)
    have D_is_sale : Sim.DefT (L2.KOf KX) mg "is_sale" Gw.s_is_sale ["value"] := by
      dsimp only [L2.KOf]
      refine' Sim.def_mk KX G ?a ?l ?c ?k (fun _ _ _ _ _ _ us hl => match us, hl with | [_], _ => rfl)
      (case a => k_is); (case l => k_is); (case c => k_is); (case k => k_is)
    have D_are_sales : Sim.DefT (L2.KOf KX) mg "are_sales" Gw.s_are_sales ["value"] := by
      dsimp only [L2.KOf]
      refine' Sim.def_mk KX G ?a ?l ?c ?k (fun _ _ _ _ _ _ us hl => match us, hl with | [_], _ => rfl)
      (case a => k_is); (case l => k_is); (case c => k_is); (case k => k_is)
    have D_lowest : Sim.DefT (L2.KOf KX) mg "lowest" Gw.s_lowest ["numerator", "denominator"] := by
      dsimp only [L2.KOf]
      refine' Sim.def_mk KX G ?a ?l ?c ?k (fun _ _ _ _ _ _ us hl => match us, hl with | [_, _], _ => rfl)
      (case a => k_is); (case l => k_is); (case c => k_is); (case k => k_is)
    have D_share_of : Sim.DefT (L2.KOf KX) mg "share_of" Gw.s_share_of ["cards"] := by
      dsimp only [L2.KOf]
      refine' Sim.def_mk KX G ?a ?l ?c ?k (fun _ _ _ _ _ _ us hl => match us, hl with | [_], _ => rfl)
      (case a => k_is); (case l => k_is); (case c => k_is); (case k => k_is)
    have D_owed_behind : Sim.DefT (L2.KOf KX) mg "owed_behind" Gw.s_owed_behind ["sold", "share", "used"] := by
      dsimp only [L2.KOf]
      refine' Sim.def_mk KX G ?a ?l ?c ?k (fun _ _ _ _ _ _ us hl => match us, hl with | [_, _, _], _ => rfl)
      (case a => k_is); (case l => k_is); (case c => k_is); (case k => k_is)
    have D_still_owed : Sim.DefT (L2.KOf KX) mg "still_owed" Gw.s_still_owed ["sold", "share", "used"] := by
      dsimp only [L2.KOf]
      refine' Sim.def_mk KX G ?a ?l ?c ?k (fun _ _ _ _ _ _ us hl => match us, hl with | [_, _, _], _ => rfl)
      (case a => k_is); (case l => k_is); (case c => k_is); (case k => k_is)
    have D_least_for : Sim.DefT (L2.KOf KX) mg "least_for" Gw.s_least_for ["goal", "rate"] := by
      dsimp only [L2.KOf]
      refine' Sim.def_mk KX G ?a ?l ?c ?k (fun _ _ _ _ _ _ us hl => match us, hl with | [_, _], _ => rfl)
      (case a => k_is); (case l => k_is); (case c => k_is); (case k => k_is)
    have D_least_for_trip : Sim.DefT (L2.KOf KX) mg "least_for_trip" Gw.s_least_for_trip ["goal", "rates"] := by
      dsimp only [L2.KOf]
      refine' Sim.def_mk KX G ?a ?l ?c ?k (fun _ _ _ _ _ _ us hl => match us, hl with | [_, _], _ => rfl)
      (case a => k_is); (case l => k_is); (case c => k_is); (case k => k_is)
    have D_times : Sim.DefT (L2.KOf KX) mg "times" Gw.s_times ["one", "other"] := by
      dsimp only [L2.KOf]
      refine' Sim.def_mk KX G ?a ?l ?c ?k (fun _ _ _ _ _ _ us hl => match us, hl with | [_, _], _ => rfl)
      (case a => k_is); (case l => k_is); (case c => k_is); (case k => k_is)
    have D_rate_of_trip : Sim.DefT (L2.KOf KX) mg "rate_of_trip" Gw.s_rate_of_trip ["rates"] := by
      dsimp only [L2.KOf]
      refine' Sim.def_mk KX G ?a ?l ?c ?k (fun _ _ _ _ _ _ us hl => match us, hl with | [_], _ => rfl)
      (case a => k_is); (case l => k_is); (case c => k_is); (case k => k_is)
    have D_first_trip_gain : Sim.DefT (L2.KOf KX) mg "first_trip_gain" Gw.s_first_trip_gain ["rates", "most"] := by
      dsimp only [L2.KOf]
      refine' Sim.def_mk KX G ?a ?l ?c ?k (fun _ _ _ _ _ _ us hl => match us, hl with | [_, _], _ => rfl)
      (case a => k_is); (case l => k_is); (case c => k_is); (case k => k_is)
    have D_trip_gains : Sim.DefT (L2.KOf KX) mg "trip_gains" Gw.s_trip_gains ["rates", "most"] := by
      dsimp only [L2.KOf]
      refine' Sim.def_mk KX G ?a ?l ?c ?k (fun _ _ _ _ _ _ us hl => match us, hl with | [_, _], _ => rfl)
      (case a => k_is); (case l => k_is); (case c => k_is); (case k => k_is)
    have D_law : Sim.DefT (L2.KOf KX) mg "law" Gw.s_law ["script"] := by
      dsimp only [L2.KOf]
      refine' Sim.def_mk KX G ?a ?l ?c ?k (fun _ _ _ _ _ _ us hl => match us, hl with | [_], _ => rfl)
      (case a => k_is); (case l => k_is); (case c => k_is); (case k => k_is)
    have n_all : mg "all" = none := by
      refine' PySem.W.mg_none_of KX G ?a
      (case a => k_is)
    have n_bool : mg "bool" = none := by
      refine' PySem.W.mg_none_of KX G ?a
      (case a => k_is)
    have n_int : mg "int" = none := by
      refine' PySem.W.mg_none_of KX G ?a
      (case a => k_is)
    have n_isinstance : mg "isinstance" = none := by
      refine' PySem.W.mg_none_of KX G ?a
      (case a => k_is)
    have n_len : mg "len" = none := by
      refine' PySem.W.mg_none_of KX G ?a
      (case a => k_is)
    have n_list : mg "list" = none := by
      refine' PySem.W.mg_none_of KX G ?a
      (case a => k_is)
    have n_max : mg "max" = none := by
      refine' PySem.W.mg_none_of KX G ?a
      (case a => k_is)
    have n_min : mg "min" = none := by
      refine' PySem.W.mg_none_of KX G ?a
      (case a => k_is)
    have n_range : mg "range" = none := by
      refine' PySem.W.mg_none_of KX G ?a
      (case a => k_is)
    have n_reversed : mg "reversed" = none := by
      refine' PySem.W.mg_none_of KX G ?a
      (case a => k_is)
    have n_sorted : mg "sorted" = none := by
      refine' PySem.W.mg_none_of KX G ?a
      (case a => k_is)
    have n_str : mg "str" = none := by
      refine' PySem.W.mg_none_of KX G ?a
      (case a => k_is)
    have n_sum : mg "sum" = none := by
      refine' PySem.W.mg_none_of KX G ?a
      (case a => k_is)
    have n_tuple : mg "tuple" = none := by
      refine' PySem.W.mg_none_of KX G ?a
      (case a => k_is)
    have c_MOST_CARDS : ∃ t, mg "MOST_CARDS" = some (.int 20 t) := by
      refine' Sim.int_mk KX G ?a
      (case a => k_is)
    obtain ⟨t_MOST_CARDS, c_MOST_CARDS⟩ := c_MOST_CARDS
    have c_MOST_ON_CARD : ∃ t, mg "MOST_ON_CARD" = some (.int 10000 t) := by
      refine' Sim.int_mk KX G ?a
      (case a => k_is)
    obtain ⟨t_MOST_ON_CARD, c_MOST_ON_CARD⟩ := c_MOST_ON_CARD
    have c_MOST_PARTED : ∃ t, mg "MOST_PARTED" = some (.int 200 t) := by
      refine' Sim.int_mk KX G ?a
      (case a => k_is)
    obtain ⟨t_MOST_PARTED, c_MOST_PARTED⟩ := c_MOST_PARTED
    have c_MOST_PENCE : ∃ t, mg "MOST_PENCE" = some (.int 1000000 t) := by
      refine' Sim.int_mk KX G ?a
      (case a => k_is)
    obtain ⟨t_MOST_PENCE, c_MOST_PENCE⟩ := c_MOST_PENCE
    have c_MOST_PERIODS : ∃ t, mg "MOST_PERIODS" = some (.int 12 t) := by
      refine' Sim.int_mk KX G ?a
      (case a => k_is)
    obtain ⟨t_MOST_PERIODS, c_MOST_PERIODS⟩ := c_MOST_PERIODS
    have c_MOST_RATE : ∃ t, mg "MOST_RATE" = some (.int 1000 t) := by
      refine' Sim.int_mk KX G ?a
      (case a => k_is)
    obtain ⟨t_MOST_RATE, c_MOST_RATE⟩ := c_MOST_RATE
    have c_MOST_RATES : ∃ t, mg "MOST_RATES" = some (.int 8 t) := by
      refine' Sim.int_mk KX G ?a
      (case a => k_is)
    obtain ⟨t_MOST_RATES, c_MOST_RATES⟩ := c_MOST_RATES
    have c_MOST_SOLD : ∃ t, mg "MOST_SOLD" = some (.int 1000000 t) := by
      refine' Sim.int_mk KX G ?a
      (case a => k_is)
    obtain ⟨t_MOST_SOLD, c_MOST_SOLD⟩ := c_MOST_SOLD
    have c_MOST_TRIP : ∃ t, mg "MOST_TRIP" = some (.int 2000 t) := by
      refine' Sim.int_mk KX G ?a
      (case a => k_is)
    obtain ⟨t_MOST_TRIP, c_MOST_TRIP⟩ := c_MOST_TRIP
    have c_MOST_USED : ∃ t, mg "MOST_USED" = some (.int 1000000 t) := by
      refine' Sim.int_mk KX G ?a
      (case a => k_is)
    obtain ⟨t_MOST_USED, c_MOST_USED⟩ := c_MOST_USED
    have c_WIDEST : ∃ t, mg "WIDEST" = some (.int 1000000 t) := by
      refine' Sim.int_mk KX G ?a
      (case a => k_is)
    obtain ⟨t_WIDEST, c_WIDEST⟩ := c_WIDEST
    have c_gcd : mg "gcd" = some (.builtin "math.gcd") := by
      refine' PySem.W.mg_of KX G ?a
      (case a => k_is)
    have T : Gw.Tops (L2.KOf KX) mg := ⟨D__law_near, D__law_by_parts, D__law_less, D__law_gcd, D__law_red, D__law_mul, D__law_numbers, D__law_so, D__law_draw, D__law_take, D_rounded_down, D_at_rate, D_is_integer, D_is_between, D_is_sequence, D_is_row, D_is_fraction, D_is_rate, D_need, D_exchanged, D_rounded_nearest, D_nearest_at_rate, D_exchanged_nearest, D_least_cap, D_score_rows, D_best_parts, D_made_of_parts, D_most_by_parts, D_greatest_worths, D_first_gain, D_parts_gain, D_never_spent, D_earned_by, D_running_sums, D_steps_of, D_earned_in_each, D_has_size, D_are_between, D_is_share, D_need_periods, D_recognised, D_are_rates, D_behind_trip, D_round_trip, D_is_sale, D_are_sales, D_lowest, D_share_of, D_owed_behind, D_still_owed, D_least_for, D_least_for_trip, D_times, D_rate_of_trip, D_first_trip_gain, D_trip_gains, D_law, n_all, n_bool, n_int, n_isinstance, n_len, n_list, n_max, n_min, n_range, n_reversed, n_sorted, n_str, n_sum, n_tuple, t_MOST_CARDS, c_MOST_CARDS, t_MOST_ON_CARD, c_MOST_ON_CARD, t_MOST_PARTED, c_MOST_PARTED, t_MOST_PENCE, c_MOST_PENCE, t_MOST_PERIODS, c_MOST_PERIODS, t_MOST_RATE, c_MOST_RATE, t_MOST_RATES, c_MOST_RATES, t_MOST_SOLD, c_MOST_SOLD, t_MOST_TRIP, c_MOST_TRIP, t_MOST_USED, c_MOST_USED, t_WIDEST, c_WIDEST, c_gcd⟩
    have e := hmg.symm.trans T.d_law.g
    cases e
    exact ⟨T.d_law.fd, fun s v => T.d_law.bs s [v] rfl, fun base _ _ => Sim.law_ok (Gw.ok_law T) Gw.law_true⟩)
end
