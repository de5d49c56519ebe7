import PyProof.Rows.All
import Wide.All
import OpenK.AllK
import Wide.FinOn
import HandS.ForMost
import HandS.Exc
import HandS.Lambda
import HandS.ExcOwn
import HandS.IsInst
import HandS.More
import HandS.Walk
import HandS.Zip
import HandS.EndBits
import HandS.TupAny
import HandS.Style
import HandS.TupMul
import HandS.Deep
import KE.DataEq
import PySem.Challenge.RW_besidealone_k28_books_and_what_makes_the
set_option Elab.async false
set_option linter.all false
set_option maxRecDepth 100000
set_option maxHeartbeats 4000000
/-! DL, the data layer (1): data in heaps, slots, the relation between a frame of data and a frame of values -/
namespace DL
open PySem PySem.Spec PyProof.Rows L2

theorem sqT_mono {K : PySem.W.Frag} {F F' : Hp} {a : Addr} {xs : List V} (s : Same F F') (h : SqT K F a xs) : SqT K F' a xs := by
  rcases h with (h | ⟨o, h⟩) | h
  · exact .inl (.inl (s _ _ h))
  · exact .inl (.inr ⟨o, s _ _ h⟩)
  · exact .inr h

/-- a key as data -/
def keyD : Key → PyData
  | .inl i => .int i
  | .inr x => .str x

mutual
/-- the value v is the data d, all of it lying in the part F of the heap that never changes -/
inductive Is (K : PySem.W.Frag) (F : Hp) : V → PyData → Prop
  | non : Is K F .non .none
  | bl (b : Bool) : Is K F (.bl b) (.bool b)
  | int (i : Int) : Is K F (.int i) (.int i)
  | str (x : Str) : x.length ≤ sizeLine → Is K F (.str x) (.str x)
  | lst {a : Addr} {xs : List V} {ds : List PyData} : F a = some (.lst xs) → xs.length ≤ sizeLine → IsAll K F xs ds → Is K F (.ref a) (.list ds)
  | tup {a : Addr} {xs : List V} {ds : List PyData} : SqT K F a xs → xs.length ≤ sizeLine → IsAll K F xs ds → Is K F (.ref a) (.tuple ds)
  | dic {a : Addr} {ks : List (Key × V)} {kvs : List (PyData × PyData)} : F a = some (.dK ks) → ks.length ≤ sizeLine → (ks.map (·.1)).Nodup → IsKv K F ks kvs → Is K F (.ref a) (.dict kvs)
inductive IsAll (K : PySem.W.Frag) (F : Hp) : List V → List PyData → Prop
  | nil : IsAll K F [] []
  | cons {v : V} {vs : List V} {d : PyData} {ds : List PyData} : Is K F v d → IsAll K F vs ds → IsAll K F (v :: vs) (d :: ds)
inductive IsKv (K : PySem.W.Frag) (F : Hp) : List (Key × V) → List (PyData × PyData) → Prop
  | nil : IsKv K F [] []
  | cons {k : Key} {v : V} {ks : List (Key × V)} {d : PyData} {kvs : List (PyData × PyData)} : Is K F v d → IsKv K F ks kvs → IsKv K F ((k, v) :: ks) ((keyD k, d) :: kvs)
end

mutual
theorem Is.mono {K : PySem.W.Frag} {F F' : Hp} (s : Same F F') : ∀ (d : PyData) (v : V), Is K F v d → Is K F' v d
  | .none, _, h => by cases h; exact .non
  | .bool b, _, h => by cases h; exact .bl b
  | .int i, _, h => by cases h; exact .int i
  | .str x, _, h => by cases h with | str _ z => exact .str x z
  | .list ds, _, h => by cases h with | lst e z t => exact .lst (s _ _ e) z (IsAll.mono s ds _ t)
  | .tuple ds, _, h => by cases h with | tup e z t => exact .tup (sqT_mono s e) z (IsAll.mono s ds _ t)
  | .dict kvs, _, h => by cases h with | dic e z n t => exact .dic (s _ _ e) z n (IsKv.mono s kvs _ t)
theorem IsAll.mono {K : PySem.W.Frag} {F F' : Hp} (s : Same F F') : ∀ (ds : List PyData) (vs : List V), IsAll K F vs ds → IsAll K F' vs ds
  | [], _, h => by cases h; exact .nil
  | d :: ds, _, h => by cases h with | cons a b => exact .cons (Is.mono s d _ a) (IsAll.mono s ds _ b)
theorem IsKv.mono {K : PySem.W.Frag} {F F' : Hp} (s : Same F F') : ∀ (kvs : List (PyData × PyData)) (ks : List (Key × V)), IsKv K F ks kvs → IsKv K F' ks kvs
  | [], _, h => by cases h; exact .nil
  | (_, d) :: kvs, _, h => by cases h with | cons a b => exact .cons (Is.mono s d _ a) (IsKv.mono s kvs _ b)
end
section
variable {K : PySem.W.Frag} {F F' H : Hp}
theorem Is.up {v : V} {d : PyData} (h : Is K F v d) (s : Same F F') : Is K F' v d := Is.mono s d v h
theorem IsAll.up {vs : List V} {ds : List PyData} (h : IsAll K F vs ds) (s : Same F F') : IsAll K F' vs ds := IsAll.mono s ds vs h
theorem IsKv.up {ks : List (Key × V)} {kvs : List (PyData × PyData)} (h : IsKv K F ks kvs) (s : Same F F') : IsKv K F' ks kvs := IsKv.mono s kvs ks h
theorem IsAll.length : ∀ {vs : List V} {ds : List PyData}, IsAll K F vs ds → vs.length = ds.length
  | _, _, .nil => rfl
  | _, _, .cons _ t => by rw [List.length_cons, List.length_cons, IsAll.length t]
theorem IsAll.append : ∀ {vs ws : List V} {ds es : List PyData}, IsAll K F vs ds → IsAll K F ws es → IsAll K F (vs ++ ws) (ds ++ es)
  | _, _, _, _, .nil, h => h
  | _, _, _, _, .cons a t, h => .cons a (IsAll.append t h)
theorem IsAll.get : ∀ {vs : List V} {ds : List PyData} {i : Nat} {v : V}, IsAll K F vs ds → vs[i]? = some v → ∃ d, ds[i]? = some d ∧ Is K F v d
  | _, _, i, v, .nil, e => by simp at e
  | _, _, 0, v, .cons (d := d) a t, e => by
    simp at e; subst e
    exact ⟨d, by simp, a⟩
  | _, _, i + 1, v, .cons a t, e => by
    obtain ⟨d, h1, h2⟩ := IsAll.get (i := i) (v := v) t (by simpa using e)
    exact ⟨d, by simpa using h1, h2⟩
theorem IsAll.getD : ∀ {vs : List V} {ds : List PyData} {i : Nat} {d : PyData}, IsAll K F vs ds → ds[i]? = some d → ∃ v, vs[i]? = some v ∧ Is K F v d
  | _, _, i, v, .nil, e => by simp at e
  | _, _, 0, d, .cons (v := v) a t, e => by
    simp at e; subst e
    exact ⟨v, by simp, a⟩
  | _, _, i + 1, d, .cons a t, e => by
    obtain ⟨d, h1, h2⟩ := IsAll.getD (i := i) (d := d) t (by simpa using e)
    exact ⟨d, by simpa using h1, h2⟩
theorem IsAll.take : ∀ {vs : List V} {ds : List PyData} (n : Nat), IsAll K F vs ds → IsAll K F (vs.take n) (ds.take n)
  | _, _, 0, _ => .nil
  | _, _, _ + 1, .nil => .nil
  | _, _, n + 1, .cons a t => .cons a (IsAll.take n t)
theorem IsAll.drop : ∀ {vs : List V} {ds : List PyData} (n : Nat), IsAll K F vs ds → IsAll K F (vs.drop n) (ds.drop n)
  | _, _, 0, h => h
  | _, _, _ + 1, .nil => .nil
  | _, _, n + 1, .cons _ t => IsAll.drop n t
theorem IsAll.set : ∀ {vs : List V} {ds : List PyData} {v : V} {d : PyData} (i : Nat), IsAll K F vs ds → Is K F v d → IsAll K F (vs.set i v) (ds.set i d)
  | _, _, _, _, _, .nil, _ => .nil
  | _, _, _, _, 0, .cons _ t, h => .cons h t
  | _, _, _, _, i + 1, .cons a t, h => .cons a (IsAll.set i t h)
theorem IsAll.reverse {vs : List V} {ds : List PyData} (h : IsAll K F vs ds) : IsAll K F vs.reverse ds.reverse := by
  induction ds generalizing vs with
  | nil => cases h; exact .nil
  | cons d ds ih =>
    cases h with
    | cons a t => rw [List.reverse_cons, List.reverse_cons]; exact (ih t).append (.cons a .nil)
end

/-! ### slots of data -/
inductive DSlot where
  /-- nothing is known -/
  | undef
  /-- data, never changed -/
  | data (d : PyData)
  /-- a list, a dict that this name alone holds -/
  | ownL (ds : List PyData)
  | ownD (kvs : List (PyData × PyData))
  /-- the one source of draws -/
  | bag
abbrev DEnv := List DSlot
def look : DEnv → Nat → DSlot
  | [], _ => .undef
  | s :: _, 0 => s
  | _ :: r, i + 1 => look r i
def put : DEnv → Nat → DSlot → DEnv
  | [], _, _ => []
  | _ :: r, 0, t => t :: r
  | s :: r, i + 1, t => s :: put r i t
theorem put_length : ∀ (ρ : DEnv) (i : Nat) (t : DSlot), (put ρ i t).length = ρ.length
  | [], _, _ => rfl
  | _ :: _, 0, _ => rfl
  | _ :: r, i + 1, t => by rw [put, List.length_cons, List.length_cons, put_length r i t]
theorem look_put : ∀ (ρ : DEnv) (i j : Nat) (t : DSlot), look (put ρ i t) j = if i = j ∧ i < ρ.length then t else look ρ j
  | [], i, j, t => by simp [put]
  | s :: r, 0, 0, t => by simp [put, look]
  | s :: r, 0, j + 1, t => by simp [put, look]
  | s :: r, i + 1, 0, t => by simp [put, look]
  | s :: r, i + 1, j + 1, t => by
    simp only [put, look, look_put r i j t, List.length_cons]
    by_cases h : i = j ∧ i < r.length
    · rw [if_pos h, if_pos ⟨by omega, by omega⟩]
    · rw [if_neg h, if_neg (by omega)]
theorem look_out : ∀ (ρ : DEnv) (i : Nat), ρ.length ≤ i → look ρ i = .undef
  | [], _, _ => rfl
  | _ :: r, 0, h => by simp at h
  | _ :: r, i + 1, h => look_out r i (by simpa using h)
def val (σ : L2.St) (i : Nat) : Option V := (σ[i]?).join
theorem val_set {σ : L2.St} {i j : Nat} {v : V} (hi : i < σ.length) : val (σ.set i (some v)) j = if i = j then some v else val σ j := by
  unfold val
  by_cases h : i = j
  · subst h
    rw [if_pos rfl, List.getElem?_set_self hi]; rfl
  · rw [if_neg h, List.getElem?_set_ne h]
theorem val_some {σ : L2.St} {i : Nat} {v : V} (h : val σ i = some v) : σ[i]? = some (some v) := by
  unfold val at h
  cases e : σ[i]? with
  | none => rw [e] at h; cases h
  | some o => rw [e] at h; cases o with
    | none => cases h
    | some u => cases h; rfl
theorem val_lt {σ : L2.St} {i : Nat} {v : V} (h : val σ i = some v) : i < σ.length := (List.getElem?_eq_some_iff.mp (val_some h)).1

/-- the source of draws: the list at p.1, its words at p.2 -/
def BagOk (K : PySem.W.Frag) (F H : Hp) (p : Addr × Addr) : Prop :=
  F p.1 = none ∧ F p.2 = none ∧ ∃ (x y z : Int) (c : Addr) (cells : List Int) (t : List V),
    H p.1 = some (.lst (.int x :: .int y :: .int z :: .ref c :: t)) ∧ 0 ≤ x ∧ 0 ≤ y ∧ y < 2147483647 ∧ 0 ≤ z ∧ Is K F (.ref c) (.list (cells.map .int)) ∧ (cells.length ≤ 63 ∧ ∀ n ∈ cells, 0 ≤ n) ∧
    ((t = [] ∧ p.2 = p.1) ∨ (t = [.ref p.2] ∧ p.1 ≠ p.2 ∧ ∃ (words : List V) (wds : List Str), H p.2 = some (.lst words) ∧ IsAll K F words (wds.map .str) ∧ wds.length ≤ 100))
theorem BagOk.next {K : PySem.W.Frag} {F F' H H' : Hp} {p : Addr × Addr} (h : BagOk K F H p) (s : Same F F') (n1 : F' p.1 = none) (n2 : F' p.2 = none) (k1 : ∀ o, H p.1 = some o → H' p.1 = some o) (k2 : ∀ o, H p.2 = some o → H' p.2 = some o) : BagOk K F' H' p := by
  obtain ⟨_, _, x, y, z, c, cells, t, h1, h2, h3, h4, h5, h6, h7, h8⟩ := h
  refine ⟨n1, n2, x, y, z, c, cells, t, k1 _ h1, h2, h3, h4, h5, Is.mono s _ _ h6, h7, h8.imp id fun ⟨e, ne, words, wds, g1, g2, g3⟩ => ⟨e, ne, words, wds, k2 _ g1, IsAll.mono s _ _ g2, g3⟩⟩
theorem BagOk.there {K : PySem.W.Frag} {F H : Hp} {p : Addr × Addr} (h : BagOk K F H p) : H p.1 ≠ none ∧ H p.2 ≠ none := by
  obtain ⟨_, _, x, y, z, c, cells, t, h1, h2, h3, h4, h5, h6, h7, ⟨_, e⟩ | ⟨_, _, words, wds, h8, _⟩⟩ := h
  · rw [e, h1]; exact ⟨nofun, nofun⟩
  · rw [h1, h8]; exact ⟨nofun, nofun⟩

/-- what is known of a slot: its value -/
def SlotOk (K : PySem.W.Frag) (F H : Hp) (bg : Option (Addr × Addr)) (v : Option V) : DSlot → Prop
  | .undef => True
  | .data d => ∃ u, v = some u ∧ Is K F u d
  | .ownL ds => ∃ a xs, v = some (.ref a) ∧ H a = some (.lst xs) ∧ xs.length ≤ sizeLine ∧ IsAll K F xs ds
  | .ownD kvs => ∃ a ks, v = some (.ref a) ∧ H a = some (.dK ks) ∧ ks.length ≤ sizeLine ∧ (ks.map (·.1)).Nodup ∧ IsKv K F ks kvs
  | .bag => ∃ p, bg = some p ∧ v = some (.ref p.1)
/-- the address that the slot alone holds -/
def Owns (v : Option V) (s : DSlot) (a : Addr) : Prop := v = some (.ref a) ∧ ((∃ ds, s = .ownL ds) ∨ ∃ kvs, s = .ownD kvs)
/-- where the body stands: the heap and its still part at the entry, the source of draws -/
structure Ctx where
  H0 : Hp
  F0 : Hp
  bg : Option (Addr × Addr)
  /-- may what slots hold alone be changed -/
  mu : Bool
structure Sd (K : PySem.W.Frag) (C : Ctx) (F H : Hp) (σ : L2.St) (ρ : DEnv) : Prop where
  le0 : Same C.F0 F
  le : Same F H
  frame : ∀ a o, C.H0 a = some o → (∀ p, C.bg = some p → a ≠ p.1 ∧ a ≠ p.2) → H a = some o
  still : ∀ a, C.H0 a ≠ none → C.F0 a = none → F a = none
  bag : ∀ p, C.bg = some p → BagOk K F H p
  len : ρ.length = σ.length
  ok : ∀ i, SlotOk K F H C.bg (val σ i) (look ρ i)
  own : ∀ i a, Owns (val σ i) (look ρ i) a → F a = none ∧ (C.mu = true → C.H0 a = none) ∧ ∀ p, C.bg = some p → a ≠ p.1 ∧ a ≠ p.2
  dj : ∀ i j a, Owns (val σ i) (look ρ i) a → Owns (val σ j) (look ρ j) a → i = j

section
variable {K : PySem.W.Frag} {C : Ctx} {F F' H H' : Hp} {σ : L2.St} {ρ : DEnv}
/-- a new object at p, still from now on -/
theorem Sd.laid {p : Addr} {o : HO} (S : Sd K C F H σ ρ) (hp : H p = none) : Sd K C (upd F p o) (upd H p o) σ ρ := by
  have fp : F p = none := S.le.free hp
  have fs : Same F (upd F p o) := fun a u e => by rw [upd_ne (ne_of_none e fp)]; exact e
  have hs : Same H (upd H p o) := fun a u e => by rw [upd_ne (ne_of_none e hp)]; exact e
  have nb : ∀ q, C.bg = some q → p ≠ q.1 ∧ p ≠ q.2 := fun q hq => by
    obtain ⟨t1, t2⟩ := (S.bag q hq).there
    exact ⟨fun e => t1 (by rw [← e]; exact hp), fun e => t2 (by rw [← e]; exact hp)⟩
  refine ⟨S.le0.trans fs, fun a u e => ?_, fun a u e hb => hs _ _ (S.frame a u e hb), fun a h1 h2 => ?_, fun q hq => ?_, S.len, fun i => ?_, fun i a ho => ?_, S.dj⟩
  · by_cases h : a = p
    · subst h; rw [upd_same] at e ⊢; exact e
    · rw [upd_ne h] at e ⊢; exact S.le _ _ e
  · have hne : a ≠ p := by
      intro e
      subst e
      cases q : C.H0 a with
      | none => exact h1 q
      | some u =>
        have := S.frame a u q nb
        rw [hp] at this; cases this
    rw [upd_ne hne]
    exact S.still a h1 h2
  · obtain ⟨n1, n2⟩ := nb q hq
    exact (S.bag q hq).next fs (by rw [upd_ne (Ne.symm n1)]; exact (S.bag q hq).1) (by rw [upd_ne (Ne.symm n2)]; exact (S.bag q hq).2.1) (fun _ e => hs _ _ e) fun _ e => hs _ _ e
  · have q := S.ok i
    cases e : look ρ i with
    | undef => trivial
    | data d => rw [e] at q; obtain ⟨u, h1, h2⟩ := q; exact ⟨u, h1, h2.up fs⟩
    | ownL ds => rw [e] at q; obtain ⟨a, xs, h1, h2, h3, h4⟩ := q; exact ⟨a, xs, h1, hs _ _ h2, h3, h4.up fs⟩
    | ownD kvs => rw [e] at q; obtain ⟨a, ks, h1, h2, h3, h4, h5⟩ := q; exact ⟨a, ks, h1, hs _ _ h2, h3, h4, h5.up fs⟩
    | bag => rw [e] at q; exact q
  · obtain ⟨h1, h2, h3⟩ := S.own i a ho
    refine ⟨?_, h2, h3⟩
    have hne : a ≠ p := by
      rintro rfl
      have q := S.ok i
      obtain ⟨hv, ⟨ds, hs'⟩ | ⟨kvs, hs'⟩⟩ := ho
      · rw [hs'] at q; obtain ⟨b, xs, e1, e2, _⟩ := q
        rw [hv] at e1; cases e1; rw [hp] at e2; cases e2
      · rw [hs'] at q; obtain ⟨b, xs, e1, e2, _⟩ := q
        rw [hv] at e1; cases e1; rw [hp] at e2; cases e2
    rw [upd_ne hne]; exact h1
/-- a new object at p that changes yet -/
theorem Sd.fresh {p : Addr} {o : HO} (S : Sd K C F H σ ρ) (hp : H p = none) : Sd K C F (upd H p o) σ ρ := by
  have fp : F p = none := S.le.free hp
  have hs : Same H (upd H p o) := fun a u e => by rw [upd_ne (ne_of_none e hp)]; exact e
  refine ⟨S.le0, S.le.trans hs, fun a u e hb => hs _ _ (S.frame a u e hb), S.still, fun q hq => ?_, S.len, fun i => ?_, S.own, S.dj⟩
  · exact (S.bag q hq).next (Same.refl _) (S.bag q hq).1 (S.bag q hq).2.1 (fun _ e => hs _ _ e) fun _ e => hs _ _ e
  · have q := S.ok i
    cases e : look ρ i with
    | undef => trivial
    | data d => rw [e] at q; exact q
    | ownL ds => rw [e] at q; obtain ⟨a, xs, h1, h2, h3, h4⟩ := q; exact ⟨a, xs, h1, hs _ _ h2, h3, h4⟩
    | ownD kvs => rw [e] at q; obtain ⟨a, ks, h1, h2, h3, h4, h5⟩ := q; exact ⟨a, ks, h1, hs _ _ h2, h3, h4, h5⟩
    | bag => rw [e] at q; exact q
/-- p lies apart from all that the frame knows: nobody's, neither still nor the caller's -/
structure Apart (C : Ctx) (F H : Hp) (σ : L2.St) (ρ : DEnv) (p : Addr) : Prop where
  f : F p = none
  h0 : C.H0 p = none
  bg : ∀ q, C.bg = some q → p ≠ q.1 ∧ p ≠ q.2
  no : ∀ i, ¬ Owns (val σ i) (look ρ i) p
theorem Sd.new {p : Addr} (S : Sd K C F H σ ρ) (hp : H p = none) : Apart C F H σ ρ p := by
  have nb : ∀ q, C.bg = some q → p ≠ q.1 ∧ p ≠ q.2 := fun q hq => by
    obtain ⟨t1, t2⟩ := (S.bag q hq).there
    exact ⟨fun e => t1 (by rw [← e]; exact hp), fun e => t2 (by rw [← e]; exact hp)⟩
  refine ⟨S.le.free hp, ?_, nb, fun i ho => ?_⟩
  · cases q : C.H0 p with
    | none => rfl
    | some u =>
      have := S.frame p u q nb
      rw [hp] at this; cases this
  · have q := S.ok i
    obtain ⟨hv, ⟨ds, hs'⟩ | ⟨kvs, hs'⟩⟩ := ho
    · rw [hs'] at q; obtain ⟨b, xs, e1, e2, _⟩ := q
      rw [hv] at e1; cases e1; rw [hp] at e2; cases e2
    · rw [hs'] at q; obtain ⟨b, xs, e1, e2, _⟩ := q
      rw [hv] at e1; cases e1; rw [hp] at e2; cases e2
/-- what lies apart is written -/
theorem Sd.write {p : Addr} {o : HO} (S : Sd K C F H σ ρ) (ap : Apart C F H σ ρ p) : Sd K C F (upd H p o) σ ρ := by
  have keep : ∀ a u, a ≠ p → H a = some u → upd H p o a = some u := fun a u h e => by rw [upd_ne h]; exact e
  have fne : ∀ a u, F a = some u → a ≠ p := fun a u e h => by subst h; rw [ap.f] at e; cases e
  refine ⟨S.le0, fun a u e => keep a u (fne a u e) (S.le _ _ e), fun a u e hb => keep a u (fun h => by subst h; rw [ap.h0] at e; cases e) (S.frame a u e hb), S.still, fun q hq => ?_, S.len, fun i => ?_, S.own, S.dj⟩
  · obtain ⟨n1, n2⟩ := ap.bg q hq
    exact (S.bag q hq).next (Same.refl _) (S.bag q hq).1 (S.bag q hq).2.1 (fun _ e => keep _ _ (Ne.symm n1) e) fun _ e => keep _ _ (Ne.symm n2) e
  · have q := S.ok i
    have no := ap.no i
    cases e : look ρ i with
    | undef => trivial
    | data d => rw [e] at q; exact q
    | ownL ds =>
      rw [e] at q no; obtain ⟨a, xs, h1, h2, h3, h4⟩ := q
      exact ⟨a, xs, h1, keep _ _ (fun h => no (by rw [h] at h1; exact ⟨h1, .inl ⟨_, rfl⟩⟩)) h2, h3, h4⟩
    | ownD kvs =>
      rw [e] at q no; obtain ⟨a, ks, h1, h2, h3, h4, h5⟩ := q
      exact ⟨a, ks, h1, keep _ _ (fun h => no (by rw [h] at h1; exact ⟨h1, .inr ⟨_, rfl⟩⟩)) h2, h3, h4, h5⟩
    | bag => rw [e] at q; exact q
/-- what lies apart becomes still -/
theorem Sd.freeze {p : Addr} {o : HO} (S : Sd K C F H σ ρ) (ap : Apart C F H σ ρ p) (hp : H p = some o) : Sd K C (upd F p o) H σ ρ := by
  have fs : Same F (upd F p o) := fun a u e => by rw [upd_ne (ne_of_none e ap.f)]; exact e
  refine ⟨S.le0.trans fs, fun a u e => ?_, S.frame, fun a h1 h2 => ?_, fun q hq => ?_, S.len, fun i => ?_, fun i a ho => ?_, S.dj⟩
  · by_cases h : a = p
    · subst h; rw [upd_same] at e; rw [hp]; exact e
    · rw [upd_ne h] at e; exact S.le _ _ e
  · rw [upd_ne (fun e => by subst e; exact h1 ap.h0)]
    exact S.still a h1 h2
  · obtain ⟨n1, n2⟩ := ap.bg q hq
    exact (S.bag q hq).next fs (by rw [upd_ne (Ne.symm n1)]; exact (S.bag q hq).1) (by rw [upd_ne (Ne.symm n2)]; exact (S.bag q hq).2.1) (fun _ e => e) fun _ e => e
  · have q := S.ok i
    cases e : look ρ i with
    | undef => trivial
    | data d => rw [e] at q; obtain ⟨u, h1, h2⟩ := q; exact ⟨u, h1, h2.up fs⟩
    | ownL ds => rw [e] at q; obtain ⟨a, xs, h1, h2, h3, h4⟩ := q; exact ⟨a, xs, h1, h2, h3, h4.up fs⟩
    | ownD kvs => rw [e] at q; obtain ⟨a, ks, h1, h2, h3, h4, h5⟩ := q; exact ⟨a, ks, h1, h2, h3, h4, h5.up fs⟩
    | bag => rw [e] at q; exact q
  · obtain ⟨h1, h2, h3⟩ := S.own i a ho
    refine ⟨?_, h2, h3⟩
    rw [upd_ne (fun e => by subst e; exact ap.no i ho)]; exact h1
/-- a slot is stored -/
theorem Sd.store {i : Nat} {v : V} {t : DSlot} (S : Sd K C F H σ ρ) (hi : i < σ.length) (ht : SlotOk K F H C.bg (some v) t)
    (ho : ∀ a, Owns (some v) t a → F a = none ∧ (C.mu = true → C.H0 a = none) ∧ (∀ p, C.bg = some p → a ≠ p.1 ∧ a ≠ p.2) ∧ ∀ j, j ≠ i → ¬ Owns (val σ j) (look ρ j) a) : Sd K C F H (σ.set i (some v)) (put ρ i t) := by
  have hl : i < ρ.length := by rw [S.len]; exact hi
  refine ⟨S.le0, S.le, S.frame, S.still, S.bag, by rw [put_length, List.length_set]; exact S.len, fun j => ?_, fun j a q => ?_, fun j k a q1 q2 => ?_⟩
  · rw [val_set hi, look_put]
    by_cases h : i = j
    · rw [if_pos h, if_pos ⟨h, hl⟩]; exact ht
    · rw [if_neg h, if_neg (fun z => h z.1)]; exact S.ok j
  · rw [val_set hi, look_put] at q
    by_cases h : i = j
    · rw [if_pos h, if_pos ⟨h, hl⟩] at q
      obtain ⟨h1, h2, h3, _⟩ := ho a q
      exact ⟨h1, h2, h3⟩
    · rw [if_neg h, if_neg (fun z => h z.1)] at q; exact S.own j a q
  · rw [val_set hi, look_put] at q1 q2
    by_cases h : i = j
    · rw [if_pos h, if_pos ⟨h, hl⟩] at q1
      by_cases h' : i = k
      · rw [← h, ← h']
      · rw [if_neg h', if_neg (fun z => h' z.1)] at q2
        exact absurd q2 ((ho a q1).2.2.2 k (Ne.symm h'))
    · rw [if_neg h, if_neg (fun z => h z.1)] at q1
      by_cases h' : i = k
      · rw [if_pos h', if_pos ⟨h', hl⟩] at q2
        exact absurd q1 ((ho a q2).2.2.2 j (Ne.symm h))
      · rw [if_neg h', if_neg (fun z => h' z.1)] at q2
        exact S.dj j k a q1 q2
theorem Sd.storeD {i : Nat} {v : V} {d : PyData} (S : Sd K C F H σ ρ) (hi : i < σ.length) (h : Is K F v d) : Sd K C F H (σ.set i (some v)) (put ρ i (.data d)) :=
  S.store hi ⟨v, rfl, h⟩ fun a ⟨_, ho⟩ => by
    rcases ho with ⟨_, e⟩ | ⟨_, e⟩ <;> cases e
/-- a still part that holds at the start and the end -/
theorem Sd.rebase {F1 : Hp} (S : Sd K { C with F0 := F1 } F H σ ρ) (h0 : Same C.F0 F1) (hs : ∀ a, C.H0 a ≠ none → C.F0 a = none → F1 a = none) : Sd K C F H σ ρ :=
  ⟨h0.trans S.le0, S.le, S.frame, fun a h1 h2 => S.still a h1 (hs a h1 h2), S.bag, S.len, S.ok, S.own, S.dj⟩
theorem Sd.toBase (S : Sd K C F H σ ρ) : Sd K { C with F0 := F } F H σ ρ :=
  ⟨Same.refl _, S.le, S.frame, fun a _ h2 => h2, S.bag, S.len, S.ok, S.own, S.dj⟩
/-- within a block nothing that stands is changed -/
theorem Sd.nest (S : Sd K C F H σ ρ) : Sd K ⟨H, F, C.bg, false⟩ F H σ ρ :=
  ⟨Same.refl _, S.le, fun _ _ e _ => e, fun _ _ h => h, S.bag, S.len, S.ok, fun i a q => ⟨(S.own i a q).1, fun z => (nomatch z), (S.own i a q).2.2⟩, S.dj⟩
theorem Sd.unnest (S0 : Sd K C F H σ ρ) (S : Sd K ⟨H, F, C.bg, false⟩ F' H' σ ρ) : Sd K C F' H' σ ρ := by
  refine ⟨S0.le0.trans S.le0, S.le, fun a o e hb => S.frame a o (S0.frame a o e hb) hb, fun a h1 h2 => ?_, S.bag, S.len, S.ok, fun i a q => ⟨(S.own i a q).1, (S0.own i a q).2.1, (S.own i a q).2.2⟩, S.dj⟩
  by_cases z : ∀ p, C.bg = some p → a ≠ p.1 ∧ a ≠ p.2
  · refine S.still a (fun e => ?_) (S0.still a h1 h2)
    cases q : C.H0 a with
    | none => exact h1 q
    | some u =>
      have e : H a = none := e
      rw [S0.frame a u q z] at e; cases e
  · refine Classical.byContradiction fun hn => z fun p hp => ?_
    obtain ⟨b1, b2, _⟩ := S.bag p hp
    exact ⟨fun e => hn (by rw [e]; exact b1), fun e => hn (by rw [e]; exact b2)⟩
/-- a list, a dict that a slot alone holds is changed -/
theorem Sd.mut {i : Nat} {a : Addr} {o : HO} {t : DSlot} (S : Sd K C F H σ ρ) (hm : C.mu = true) (hv : val σ i = some (.ref a)) (hw : Owns (val σ i) (look ρ i) a)
    (ht : SlotOk K F (upd H a o) C.bg (some (.ref a)) t) (hto : Owns (some (.ref a)) t a) : Sd K C F (upd H a o) σ (put ρ i t) := by
  obtain ⟨f1, f2, f3⟩ := S.own i a hw
  have keep : ∀ b u, b ≠ a → H b = some u → upd H a o b = some u := fun b u h e => by rw [upd_ne h]; exact e
  have hl : i < ρ.length := by rw [S.len]; exact val_lt hv
  have ow1 : ∀ b, Owns (some (.ref a)) t b → b = a := fun b q => by have := q.1; injection this with z; injection z with z; exact z.symm
  refine ⟨S.le0, fun b u e => keep b u (fun h => by subst h; rw [f1] at e; cases e) (S.le _ _ e), fun b u e hb => keep b u (fun h => by subst h; rw [f2 hm] at e; cases e) (S.frame b u e hb), S.still, fun q hq => ?_, by rw [put_length]; exact S.len, fun j => ?_, fun j b q => ?_, fun j k b q1 q2 => ?_⟩
  · obtain ⟨n1, n2⟩ := f3 q hq
    exact (S.bag q hq).next (Same.refl _) (S.bag q hq).1 (S.bag q hq).2.1 (fun _ e => keep _ _ (Ne.symm n1) e) fun _ e => keep _ _ (Ne.symm n2) e
  · rw [look_put]
    by_cases h : i = j
    · subst h; rw [if_pos ⟨rfl, hl⟩, hv]; exact ht
    · rw [if_neg (fun z => h z.1)]
      have q := S.ok j
      have no : ¬ Owns (val σ j) (look ρ j) a := fun w => h (S.dj i j a hw w)
      cases e : look ρ j with
      | undef => trivial
      | data d => rw [e] at q; exact q
      | ownL ds =>
        rw [e] at q no; obtain ⟨b, xs, h1, h2, h3, h4⟩ := q
        exact ⟨b, xs, h1, keep _ _ (fun z => no (by rw [z] at h1; exact ⟨h1, .inl ⟨_, rfl⟩⟩)) h2, h3, h4⟩
      | ownD kvs =>
        rw [e] at q no; obtain ⟨b, ks, h1, h2, h3, h4, h5⟩ := q
        exact ⟨b, ks, h1, keep _ _ (fun z => no (by rw [z] at h1; exact ⟨h1, .inr ⟨_, rfl⟩⟩)) h2, h3, h4, h5⟩
      | bag => rw [e] at q; exact q
  · rw [look_put] at q
    by_cases h : i = j
    · subst h; rw [if_pos ⟨rfl, hl⟩, hv] at q; rw [ow1 b q]; exact ⟨f1, f2, f3⟩
    · rw [if_neg (fun z => h z.1)] at q; exact S.own j b q
  · rw [look_put] at q1 q2
    by_cases h : i = j
    · by_cases h' : i = k
      · rw [← h, ← h']
      · subst h
        rw [if_pos ⟨rfl, hl⟩, hv] at q1
        rw [if_neg (fun z => h' z.1)] at q2
        rw [ow1 b q1] at q2
        exact S.dj i k a hw q2
    · rw [if_neg (fun z => h z.1)] at q1
      by_cases h' : i = k
      · subst h'
        rw [if_pos ⟨rfl, hl⟩, hv] at q2
        rw [ow1 b q2] at q1
        exact S.dj j i a q1 hw
      · rw [if_neg (fun z => h' z.1)] at q2; exact S.dj j k b q1 q2
/-- what a slot alone holds becomes still -/
theorem Sd.fz {i : Nat} {a : Addr} {o : HO} {d : PyData} (S : Sd K C F H σ ρ) (hmu : C.mu = true) (hw : Owns (val σ i) (look ρ i) a) (ho : H a = some o) (hd : Is K (upd F a o) (.ref a) d) : Sd K C (upd F a o) H σ (put ρ i (.data d)) := by
  obtain ⟨f1, f2, f3⟩ := S.own i a hw
  have fs : Same F (upd F a o) := fun b u e => by rw [upd_ne (ne_of_none e f1)]; exact e
  have hv : val σ i = some (.ref a) := hw.1
  have hl : i < ρ.length := by rw [S.len]; exact val_lt hv
  have now : ∀ b, ¬ Owns (val σ i) (DSlot.data d) b := fun b ⟨_, q⟩ => by rcases q with ⟨_, e⟩ | ⟨_, e⟩ <;> cases e
  refine ⟨S.le0.trans fs, fun b u e => ?_, S.frame, fun b h1 h2 => ?_, fun q hq => ?_, by rw [put_length]; exact S.len, fun j => ?_, fun j b q => ?_, fun j k b q1 q2 => ?_⟩
  · by_cases h : b = a
    · subst h; rw [upd_same] at e; rw [ho]; exact e
    · rw [upd_ne h] at e; exact S.le _ _ e
  · by_cases h : b = a
    · subst h
      exact absurd (f2 hmu) h1
    · rw [upd_ne h]; exact S.still b h1 h2
  · obtain ⟨n1, n2⟩ := f3 q hq
    exact (S.bag q hq).next fs (by rw [upd_ne (Ne.symm n1)]; exact (S.bag q hq).1) (by rw [upd_ne (Ne.symm n2)]; exact (S.bag q hq).2.1) (fun _ e => e) fun _ e => e
  · rw [look_put]
    by_cases h : i = j
    · subst h; rw [if_pos ⟨rfl, hl⟩]; exact ⟨_, hv, hd⟩
    · rw [if_neg (fun z => h z.1)]
      have q := S.ok j
      cases e : look ρ j with
      | undef => trivial
      | data d => rw [e] at q; obtain ⟨u, h1, h2⟩ := q; exact ⟨u, h1, h2.up fs⟩
      | ownL ds => rw [e] at q; obtain ⟨a, xs, h1, h2, h3, h4⟩ := q; exact ⟨a, xs, h1, h2, h3, h4.up fs⟩
      | ownD kvs => rw [e] at q; obtain ⟨a, ks, h1, h2, h3, h4, h5⟩ := q; exact ⟨a, ks, h1, h2, h3, h4, h5.up fs⟩
      | bag => rw [e] at q; exact q
  · rw [look_put] at q
    by_cases h : i = j
    · subst h; rw [if_pos ⟨rfl, hl⟩] at q; exact absurd q (now b)
    · rw [if_neg (fun z => h z.1)] at q
      obtain ⟨g1, g2, g3⟩ := S.own j b q
      exact ⟨by rw [upd_ne (fun z => h (S.dj i j a hw (by rw [z] at q; exact q)))]; exact g1, g2, g3⟩
  · rw [look_put] at q1 q2
    by_cases h : i = j
    · subst h; rw [if_pos ⟨rfl, hl⟩] at q1; exact absurd q1 (now b)
    · by_cases h' : i = k
      · subst h'; rw [if_pos ⟨rfl, hl⟩] at q2; exact absurd q2 (now b)
      · rw [if_neg (fun z => h z.1)] at q1; rw [if_neg (fun z => h' z.1)] at q2; exact S.dj j k b q1 q2
/-- less is known of slots -/
theorem Sd.forget {ρ' : DEnv} (S : Sd K C F H σ ρ) (hl : ρ'.length = ρ.length) (h : ∀ i, look ρ' i = look ρ i ∨ look ρ' i = .undef) : Sd K C F H σ ρ' := by
  refine ⟨S.le0, S.le, S.frame, S.still, S.bag, by rw [hl]; exact S.len, fun i => ?_, fun i a q => ?_, fun i j a q1 q2 => ?_⟩
  · rcases h i with e | e
    · rw [e]; exact S.ok i
    · rw [e]; trivial
  · rcases h i with e | e
    · rw [e] at q; exact S.own i a q
    · rw [e] at q; obtain ⟨_, ⟨_, z⟩ | ⟨_, z⟩⟩ := q <;> cases z
  · rcases h i with e | e
    · rcases h j with e' | e'
      · rw [e] at q1; rw [e'] at q2; exact S.dj i j a q1 q2
      · rw [e'] at q2; obtain ⟨_, ⟨_, z⟩ | ⟨_, z⟩⟩ := q2 <;> cases z
    · rw [e] at q1; obtain ⟨_, ⟨_, z⟩ | ⟨_, z⟩⟩ := q1 <;> cases z
end

/-! ### exceptions as data: the class, the fields -/
structure ExcD where
  cls : Addr
  fs : List (Str × PyData)
def ExcIs (K : PySem.W.Frag) (F H : Hp) (c : Value) (dd : Option Addr) (x : ExcD) : Prop :=
  c = .ref x.cls ∧ ((dd = none ∧ x.fs = []) ∨ ∃ d fs, dd = some d ∧ H d = some (.xd fs) ∧ Paired (fun (p : Str × V) (q : Str × PyData) => p.1 = q.1 ∧ Is K F p.2 q.2) fs x.fs)
end DL
set_option Elab.async false
set_option linter.all false
set_option maxRecDepth 100000
set_option maxHeartbeats 4000000
/-! DL, the data layer (2): readings of expressions -/
namespace DL
open PySem PySem.Spec PyProof.Rows L2

/-- a reading: from the frame's data, to the value wanted, to the exception wanted -/
abbrev DE := DEnv → (PyData → Prop) → (ExcD → Prop) → Prop
abbrev DT := DEnv → (Bool → Prop) → (ExcD → Prop) → Prop
abbrev DL' := DEnv → (List PyData → Prop) → (ExcD → Prop) → Prop
abbrev DK := DEnv → (List (PyData × PyData) → Prop) → (ExcD → Prop) → Prop
abbrev DA := DEnv → (List DSlot → Prop) → (ExcD → Prop) → Prop

/-- readable now: still data, or a list, a dict that a slot alone holds -/
def IsO (K : PySem.W.Frag) (F H : Hp) (v : V) (d : PyData) : Prop :=
  Is K F v d ∨ (∃ a xs ds, v = .ref a ∧ d = .list ds ∧ H a = some (.lst xs) ∧ xs.length ≤ sizeLine ∧ IsAll K F xs ds) ∨
    ∃ a ks kvs, v = .ref a ∧ d = .dict kvs ∧ H a = some (.dK ks) ∧ ks.length ≤ sizeLine ∧ (ks.map (·.1)).Nodup ∧ IsKv K F ks kvs
inductive AllO (K : PySem.W.Frag) (F H : Hp) : List V → List PyData → Prop
  | nil : AllO K F H [] []
  | cons {v : V} {vs : List V} {d : PyData} {ds : List PyData} : IsO K F H v d → AllO K F H vs ds → AllO K F H (v :: vs) (d :: ds)
def ArgOk (K : PySem.W.Frag) (F : Hp) (bg : Option (Addr × Addr)) (v : V) : DSlot → Prop
  | .data d => Is K F v d
  | .bag => ∃ p, bg = some p ∧ v = .ref p.1
  | _ => False
abbrev ArgsOk (K : PySem.W.Frag) (F : Hp) (bg : Option (Addr × Addr)) : List V → List DSlot → Prop := Paired (ArgOk K F bg)

/-- what is wanted of exceptions -/
def Exits (K : PySem.W.Frag) (W : WX) (C : Ctx) (σ : L2.St) (ρ : DEnv) (Ed : ExcD → Prop) : Prop :=
  ∀ F' H' c dd x, Sd K C F' H' σ ρ → ExcIs K F' H' c dd x → Ed x → W c dd σ H'

def tD (K : PySem.W.Frag) (W : WX) (f : DE) : TE := fun σ H Q => ∃ C F ρ Qd Ed, Sd K C F H σ ρ ∧ f ρ Qd Ed ∧
  (∀ F' H' v d, Sd K C F' H' σ ρ → Same F F' → Is K F' v d → Qd d → Q v H') ∧ Exits K W C σ ρ Ed
/-- an operand: its value may be read as long as the frame stands -/
def tO (K : PySem.W.Frag) (W : WX) (f : DE) : TE := fun σ H Q => ∃ C F ρ Qd Ed, Sd K C F H σ ρ ∧ f ρ Qd Ed ∧
  (∀ F' H' v d, Sd K C F' H' σ ρ → Same F F' → (∀ F2 H2, Sd K C F2 H2 σ ρ → Same F' F2 → IsO K F2 H2 v d) → Qd d → Q v H') ∧ Exits K W C σ ρ Ed
/-- a new list, apart -/
def tF (K : PySem.W.Frag) (W : WX) (f : DL') : TE := fun σ H Q => ∃ C F ρ Qd Ed, Sd K C F H σ ρ ∧ f ρ Qd Ed ∧
  (∀ F' H' a xs ds, Sd K C F' H' σ ρ → Same F F' → Apart C F' H' σ ρ a → H' a = some (.lst xs) → xs.length ≤ sizeLine → IsAll K F' xs ds → Qd ds → Q (.ref a) H') ∧ Exits K W C σ ρ Ed
/-- a new dict, apart -/
def tG (K : PySem.W.Frag) (W : WX) (f : DK) : TE := fun σ H Q => ∃ C F ρ Qd Ed, Sd K C F H σ ρ ∧ f ρ Qd Ed ∧
  (∀ F' H' a ks kvs, Sd K C F' H' σ ρ → Same F F' → Apart C F' H' σ ρ a → H' a = some (.dK ks) → ks.length ≤ sizeLine → (ks.map (·.1)).Nodup → IsKv K F' ks kvs → Qd kvs → Q (.ref a) H') ∧ Exits K W C σ ρ Ed
def tT (K : PySem.W.Frag) (W : WX) (f : DT) : TT := fun σ H Q => ∃ C F ρ Qd Ed, Sd K C F H σ ρ ∧ f ρ Qd Ed ∧
  (∀ F' H' b, Sd K C F' H' σ ρ → Same F F' → Qd b → Q b H') ∧ Exits K W C σ ρ Ed
/-- arguments of defs -/
def tA (K : PySem.W.Frag) (W : WX) (f : DA) : TA := fun σ H Q => ∃ C F ρ Qd Ed, Sd K C F H σ ρ ∧ f ρ Qd Ed ∧
  (∀ F' H' vs ss, Sd K C F' H' σ ρ → Same F F' → ArgsOk K F' C.bg vs ss → Qd ss → Q vs H') ∧ Exits K W C σ ρ Ed
/-- arguments of built-ins -/
def tB' (K : PySem.W.Frag) (W : WX) (f : DL') : TA := fun σ H Q => ∃ C F ρ Qd Ed, Sd K C F H σ ρ ∧ f ρ Qd Ed ∧
  (∀ F' H' vs ds, Sd K C F' H' σ ρ → Same F F' → (∀ F2 H2, Sd K C F2 H2 σ ρ → Same F' F2 → AllO K F2 H2 vs ds) → Qd ds → Q vs H') ∧ Exits K W C σ ρ Ed

section
variable {K : PySem.W.Frag} {C : Ctx} {F F' H H' : Hp} {σ : L2.St} {ρ : DEnv} {W : WX}
theorem Is.o {v : V} {d : PyData} (h : Is K F v d) : IsO K F H v d := .inl h
/-- what an own slot holds -/
theorem Sd.peek {i : Nat} {v : V} (S : Sd K C F H σ ρ) (hv : val σ i = some v) : (∀ d, look ρ i = .data d → IsO K F H v d) ∧ (∀ ds, look ρ i = .ownL ds → IsO K F H v (.list ds)) ∧ ∀ kvs, look ρ i = .ownD kvs → IsO K F H v (.dict kvs) := by
  have q := S.ok i
  refine ⟨fun d e => ?_, fun ds e => ?_, fun kvs e => ?_⟩
  · rw [e] at q; obtain ⟨u, h1, h2⟩ := q
    rw [hv] at h1; cases h1; exact h2.o
  · rw [e] at q; obtain ⟨a, xs, h1, h2, h3, h4⟩ := q
    rw [hv] at h1; cases h1; exact .inr (.inl ⟨a, xs, ds, rfl, rfl, h2, h3, h4⟩)
  · rw [e] at q; obtain ⟨a, ks, h1, h2, h3, h4, h5⟩ := q
    rw [hv] at h1; cases h1; exact .inr (.inr ⟨a, ks, kvs, rfl, rfl, h2, h3, h4, h5⟩)
end

/-! ### constants, names -/
def dC (d : PyData) : DE := fun _ Q _ => Q d
def dVar (i : Nat) : DE := fun ρ Q _ => match look ρ i with | .data d => Q d | _ => False
def dPeek (i : Nat) : DE := fun ρ Q _ => match look ρ i with | .data d => Q d | .ownL ds => Q (.list ds) | .ownD kvs => Q (.dict kvs) | _ => False
section
variable {X : Cx} {W : WX} {pos : Pos} {e : Expr} {es : List Expr}
theorem PE.weak {t t' : TE} (h : PE X e t) (k : ∀ σ H Q, t' σ H Q → t σ H Q) : PE X e t' := ⟨fun pins s σ H Q I q => h.run pins s σ H Q I (k σ H Q q)⟩
theorem PT.weak {t t' : TT} (h : PT X e t) (k : ∀ σ H Q, t' σ H Q → t σ H Q) : PT X e t' := ⟨fun pins s σ H Q I q => h.run pins s σ H Q I (k σ H Q q)⟩
theorem PW.weak {t t' : TT} (h : PW X e t) (k : ∀ σ H Q, t' σ H Q → t σ H Q) : PW X e t' := ⟨fun wh pins s σ H Q I q => h.run wh pins s σ H Q I (k σ H Q q)⟩
theorem PA.weak {t t' : TA} (h : PA X es t) (k : ∀ σ H Q, t' σ H Q → t σ H Q) : PA X es t' := ⟨fun pos pins s σ H Q I q => h.run pos pins s σ H Q I (k σ H Q q)⟩
theorem pd_int {i j} : PE X (.Constant (.int i) j pos) (tD X.K W (dC (.int i))) := PE.weak pe_int fun σ H Q ⟨C, F, ρ, Qd, Ed, S, h, k, _⟩ => k F H _ _ S (Same.refl _) (.int i) h
theorem pd_bl {b j} : PE X (.Constant (.bool b) j pos) (tD X.K W (dC (.bool b))) := PE.weak pe_bl fun σ H Q ⟨C, F, ρ, Qd, Ed, S, h, k, _⟩ => k F H _ _ S (Same.refl _) (.bl b) h
theorem pd_non {j} : PE X (.Constant .none j pos) (tD X.K W (dC .none)) := PE.weak pe_non fun σ H Q ⟨C, F, ρ, Qd, Ed, S, h, k, _⟩ => k F H _ _ S (Same.refl _) .non h
theorem pd_str {x : Str} {j} (hz : x.length ≤ sizeLine := by size_fits) : PE X (.Constant (.str x) j pos) (tD X.K W (dC (.str x))) := PE.weak pe_str fun σ H Q ⟨C, F, ρ, Qd, Ed, S, h, k, _⟩ => k F H _ _ S (Same.refl _) (.str x hz) h
theorem pd_name {i : Nat} (h : PE X e (tVar i)) : PE X e (tD X.K W (dVar i)) := PE.weak h fun σ H Q ⟨C, F, ρ, Qd, Ed, S, h, k, _⟩ => by
  have q := S.ok i
  unfold dVar at h
  split at h
  · rename_i d e
    rw [e] at q
    obtain ⟨u, h1, h2⟩ := q
    exact ⟨u, val_some h1, k F H u d S (Same.refl _) h2 h⟩
  · exact h.elim
theorem po_name {i : Nat} (h : PE X e (tVar i)) : PE X e (tO X.K W (dPeek i)) := PE.weak h fun σ H Q ⟨C, F, ρ, Qd, Ed, S, h, k, _⟩ => by
  have q := S.ok i
  unfold dPeek at h
  split at h
  · rename_i d e
    rw [e] at q
    obtain ⟨u, h1, h2⟩ := q
    exact ⟨u, val_some h1, k F H u d S (Same.refl _) (fun F2 H2 S2 _ => (S2.peek h1).1 d e) h⟩
  · rename_i ds e
    rw [e] at q
    obtain ⟨a, xs, h1, h2, h3, h4⟩ := q
    exact ⟨_, val_some h1, k F H _ _ S (Same.refl _) (fun F2 H2 S2 _ => (S2.peek h1).2.1 ds e) h⟩
  · rename_i kvs e
    rw [e] at q
    obtain ⟨a, ks, h1, h2, h3, h4, h5⟩ := q
    exact ⟨_, val_some h1, k F H _ _ S (Same.refl _) (fun F2 H2 S2 _ => (S2.peek h1).2.2 kvs e) h⟩
  · exact h.elim
/-- the name in slot i -/
theorem dv (i : Nat) {x : Str} {pos : Pos} (hN : X.N[i]? = some x := by rfl) (hv : Vis X.env.scope x := by first | exact Or.inl rfl | exact Or.inr (Or.inl rfl) | exact Or.inr (Or.inr rfl)) (hd : (x == ("__debug__" : Str)) = false := by decide)
    (hcd : (x == ("__classdict__" : Str)) = false := by decide) : PE X (.Name x pos) (tD X.K W (dVar i)) := pd_name (pe_var hN hv hd hcd)
theorem dp (i : Nat) {x : Str} {pos : Pos} (hN : X.N[i]? = some x := by rfl) (hv : Vis X.env.scope x := by first | exact Or.inl rfl | exact Or.inr (Or.inl rfl) | exact Or.inr (Or.inr rfl)) (hd : (x == ("__debug__" : Str)) = false := by decide)
    (hcd : (x == ("__classdict__" : Str)) = false := by decide) : PE X (.Name x pos) (tO X.K W (dPeek i)) := po_name (pe_var hN hv hd hcd)
/-- still data is an operand -/
theorem dO {f : DE} (h : PE X e (tD X.K W f)) : PE X e (tO X.K W f) := PE.weak h fun σ H Q ⟨C, F, ρ, Qd, Ed, S, h, k, x⟩ =>
  ⟨C, F, ρ, Qd, Ed, S, h, fun F' H' v d S' s' i' q => k F' H' v d S' s' (fun F2 H2 _ s2 => (i'.up s2).o) q, x⟩
/-- a new list becomes still -/
def dFrz (f : DL') : DE := fun ρ Q E => f ρ (fun ds => Q (.list ds)) E
theorem dF {f : DL'} (h : PE X e (tF X.K W f)) : PE X e (tD X.K W (dFrz f)) := PE.weak h fun σ H Q ⟨C, F, ρ, Qd, Ed, S, h, k, x⟩ =>
  ⟨C, F, ρ, _, Ed, S, h, fun F' H' a xs ds S' s' ap e z i' q => k (upd F' a (.lst xs)) H' (.ref a) (.list ds) (S'.freeze ap e) (s'.trans fun b u q => by rw [upd_ne (ne_of_none q ap.f)]; exact q)
    (.lst upd_same z (i'.up fun b u q => by rw [upd_ne (ne_of_none q ap.f)]; exact q)) q, x⟩
def dFrzD (f : DK) : DE := fun ρ Q E => f ρ (fun kvs => Q (.dict kvs)) E
theorem dG {f : DK} (h : PE X e (tG X.K W f)) : PE X e (tD X.K W (dFrzD f)) := PE.weak h fun σ H Q ⟨C, F, ρ, Qd, Ed, S, h, k, x⟩ =>
  ⟨C, F, ρ, _, Ed, S, h, fun F' H' a ks kvs S' s' ap e z nd i' q => k (upd F' a (.dK ks)) H' (.ref a) (.dict kvs) (S'.freeze ap e) (s'.trans fun b u q => by rw [upd_ne (ne_of_none q ap.f)]; exact q)
    (.dic upd_same z nd (i'.up fun b u q => by rw [upd_ne (ne_of_none q ap.f)]; exact q)) q, x⟩
/-- a module's constant -/
theorem pd_glob {x : Str} {d : PyData} {v : V} {u : Value} (hg : Gl X x) (hm : X.mg x = some u) (r : RelV v u) (hi : ∀ F : Hp, Is X.K F v d) (hd : (x == ("__debug__" : Str)) = false := by decide) : PE X (.Name x pos) (tD X.K W (dC d)) :=
  PE.weak (pe_glob hg hm r hd) fun σ H Q ⟨C, F, ρ, Qd, Ed, S, h, k, _⟩ => k F H v d S (Same.refl _) (hi F) h
end

/-! ### operators -/
def OpD (X : Cx) (r : R2) (g : PyData → PyData → (PyData → Prop) → Prop) : Prop :=
  ∀ C F H σ ρ v u x y Qz Q, Sd X.K C F H σ ρ → IsO X.K F H v x → IsO X.K F H u y → g x y Qz → (∀ F' H' w z, Sd X.K C F' H' σ ρ → Same F F' → Is X.K F' w z → Qz z → Q w H') → r v u H Q
def UnD (X : Cx) (r : V → Hp → VK → Prop) (g : PyData → (PyData → Prop) → Prop) : Prop :=
  ∀ C F H σ ρ v x Qz Q, Sd X.K C F H σ ρ → IsO X.K F H v x → g x Qz → (∀ F' H' w z, Sd X.K C F' H' σ ρ → Same F F' → Is X.K F' w z → Qz z → Q w H') → r v H Q
/-- .. that gives a new list -/
def OpF (X : Cx) (r : R2) (g : PyData → PyData → (List PyData → Prop) → Prop) : Prop :=
  ∀ C F H σ ρ v u x y Qz Q, Sd X.K C F H σ ρ → IsO X.K F H v x → IsO X.K F H u y → g x y Qz →
    (∀ F' H' a xs ds, Sd X.K C F' H' σ ρ → Same F F' → Apart C F' H' σ ρ a → H' a = some (.lst xs) → xs.length ≤ sizeLine → IsAll X.K F' xs ds → Qz ds → Q (.ref a) H') → r v u H Q
def CallD (X : Cx) (r : List V → Hp → VK → Prop) (g : List PyData → (PyData → Prop) → Prop) : Prop :=
  ∀ C F H σ ρ vs ds Qz Q, Sd X.K C F H σ ρ → AllO X.K F H vs ds → g ds Qz → (∀ F' H' w z, Sd X.K C F' H' σ ρ → Same F F' → Is X.K F' w z → Qz z → Q w H') → r vs H Q
def CallF (X : Cx) (r : List V → Hp → VK → Prop) (g : List PyData → (List PyData → Prop) → Prop) : Prop :=
  ∀ C F H σ ρ vs ds Qz Q, Sd X.K C F H σ ρ → AllO X.K F H vs ds → g ds Qz →
    (∀ F' H' a xs es, Sd X.K C F' H' σ ρ → Same F F' → Apart C F' H' σ ρ a → H' a = some (.lst xs) → xs.length ≤ sizeLine → IsAll X.K F' xs es → Qz es → Q (.ref a) H') → r vs H Q
def MtD (X : Cx) (r : V → List V → Hp → VK → Prop) (g : PyData → List PyData → (PyData → Prop) → Prop) : Prop :=
  ∀ C F H σ ρ v x vs ds Qz Q, Sd X.K C F H σ ρ → IsO X.K F H v x → AllO X.K F H vs ds → g x ds Qz → (∀ F' H' w z, Sd X.K C F' H' σ ρ → Same F F' → Is X.K F' w z → Qz z → Q w H') → r v vs H Q

def dOp (g : PyData → PyData → (PyData → Prop) → Prop) (fa fb : DE) : DE := fun ρ Q E => fa ρ (fun x => fb ρ (fun y => g x y Q) E) E
def dOpF (g : PyData → PyData → (List PyData → Prop) → Prop) (fa fb : DE) : DL' := fun ρ Q E => fa ρ (fun x => fb ρ (fun y => g x y Q) E) E
def dUn (g : PyData → (PyData → Prop) → Prop) (fa : DE) : DE := fun ρ Q E => fa ρ (fun x => g x Q) E
section
variable {X : Cx} {W : WX} {pos : Pos} {a b c e : Expr} {es : List Expr} {fa fb fc : DE} {r : R2} {g : PyData → PyData → (PyData → Prop) → Prop}
theorem op_read (hd : OpD X r g) : ∀ σ H Q, tD X.K W (dOp g fa fb) σ H Q → tOp r (tO X.K W fa) (tO X.K W fb) σ H Q := fun σ H Q ⟨C, F, ρ, Qd, Ed, S, h, k, x⟩ =>
  ⟨C, F, ρ, _, Ed, S, h, fun F1 H1 v1 d1 S1 s1 i1 q1 => ⟨C, F1, ρ, _, Ed, S1, q1, fun F2 H2 v2 d2 S2 s2 i2 q2 =>
    hd C F2 H2 σ ρ v1 v2 d1 d2 Qd Q S2 (i1 F2 H2 S2 s2) (i2 F2 H2 S2 (Same.refl _)) q2 fun F3 H3 w z S3 s3 i3 q3 => k F3 H3 w z S3 (s1.trans (s2.trans s3)) i3 q3, x⟩, x⟩
theorem pd_op {op : Operator} (ho : OpR X (binaryOp op) r) (hd : OpD X r g) (ha : PE X a (tO X.K W fa)) (hb : PE X b (tO X.K W fb)) : PE X (.BinOp a op b pos) (tD X.K W (dOp g fa fb)) :=
  PE.weak (pe_op ho ha hb) (op_read hd)
theorem pf_op {op : Operator} {g : PyData → PyData → (List PyData → Prop) → Prop} (ho : OpR X (binaryOp op) r) (hd : OpF X r g) (ha : PE X a (tO X.K W fa)) (hb : PE X b (tO X.K W fb)) : PE X (.BinOp a op b pos) (tF X.K W (dOpF g fa fb)) :=
  PE.weak (pe_op ho ha hb) fun σ H Q ⟨C, F, ρ, Qd, Ed, S, h, k, x⟩ =>
    ⟨C, F, ρ, _, Ed, S, h, fun F1 H1 v1 d1 S1 s1 i1 q1 => ⟨C, F1, ρ, _, Ed, S1, q1, fun F2 H2 v2 d2 S2 s2 i2 q2 =>
      hd C F2 H2 σ ρ v1 v2 d1 d2 Qd Q S2 (i1 F2 H2 S2 s2) (i2 F2 H2 S2 (Same.refl _)) q2 fun F3 H3 w xs ds S3 s3 ap e z i3 q3 => k F3 H3 w xs ds S3 (s1.trans (s2.trans s3)) ap e z i3 q3, x⟩, x⟩
theorem pd_un {op : UnaryOp} {r : V → Hp → VK → Prop} {g : PyData → (PyData → Prop) → Prop} (ho : UnR X (unaryOp op) r) (hd : UnD X r g) (ha : PE X a (tO X.K W fa)) : PE X (.UnaryOp op a pos) (tD X.K W (dUn g fa)) :=
  PE.weak (pe_un ho ha) fun σ H Q ⟨C, F, ρ, Qd, Ed, S, h, k, x⟩ =>
    ⟨C, F, ρ, _, Ed, S, h, fun F1 H1 v1 d1 S1 s1 i1 q1 => hd C F1 H1 σ ρ v1 d1 Qd Q S1 (i1 F1 H1 S1 (Same.refl _)) q1 fun F2 H2 w z S2 s2 i2 q2 => k F2 H2 w z S2 (s1.trans s2) i2 q2, x⟩
theorem pd_cmp {op : CmpOp} (ho : OpR X (compareOp op) r) (hd : OpD X r g) (ha : PE X a (tO X.K W fa)) (hb : PE X b (tO X.K W fb)) (hm : behindInMarks op b = false := by first | exact nomark _ | rfl) : PE X (.Compare a [op] [b] pos) (tD X.K W (dOp g fa fb)) :=
  PE.weak (pe_cmpR ho ha hb hm) (op_read hd)
/-- a value as a test: it is a truth -/
def dTest (f : DE) : DT := fun ρ Q E => f ρ (fun d => ∃ k, d = .bool k ∧ Q k) E
theorem test_read {f : DE} {t : TE} (h : ∀ σ H Q, tD X.K W f σ H Q → t σ H Q) : ∀ σ H Q, tT X.K W (dTest f) σ H Q → tTest t σ H Q := fun σ H Q ⟨C, F, ρ, Qd, Ed, S, q, k, x⟩ =>
  h σ H _ ⟨C, F, ρ, _, Ed, S, q, fun F' H' v d S' s' i' q' => by
    obtain ⟨c, rfl, q'⟩ := q'
    cases i'
    exact ⟨c, rfl, k F' H' c S' s' q'⟩, x⟩
theorem pt_cmpD {op : CmpOp} (ho : OpR X (compareOp op) r) (hd : OpD X r g) (ha : PE X a (tO X.K W fa)) (hb : PE X b (tO X.K W fb)) (hm : behindInMarks op b = false := by first | exact nomark _ | rfl) : PT X (.Compare a [op] [b] pos) (tT X.K W (dTest (dOp g fa fb))) :=
  PT.weak (pt_cmpR ho ha hb hm) (test_read (op_read hd))
theorem pt_valD {f : DE} (h : PE X e (tD X.K W f)) (he : ∀ whole, isTrue e X.env whole = (do let v ← whole; standAt e.pos; holding [v] (truthy v)) := by intro _; rfl) : PT X e (tT X.K W (dTest f)) :=
  PT.weak (pt_val h he) (test_read fun _ _ _ q => q)
/-- a op b op' c -/
def dChain (g g' : PyData → PyData → (PyData → Prop) → Prop) (fa fb fc : DE) : DE := fun ρ Q E => fa ρ (fun x => fb ρ (fun y => g x y fun z => ∃ k, z = .bool k ∧ if k = true then fc ρ (fun w => g' y w Q) E else Q (.bool false)) E) E
theorem chain_read {r' : R2} {g' : PyData → PyData → (PyData → Prop) → Prop} (hd : OpD X r g) (hd' : OpD X r' g') : ∀ σ H Q, tD X.K W (dChain g g' fa fb fc) σ H Q → tChain r r' (tO X.K W fa) (tO X.K W fb) (tO X.K W fc) σ H Q := fun σ H Q ⟨C, F, ρ, Qd, Ed, S, h, k, x⟩ =>
  ⟨C, F, ρ, _, Ed, S, h, fun F1 H1 v1 d1 S1 s1 i1 q1 => ⟨C, F1, ρ, _, Ed, S1, q1, fun F2 H2 v2 d2 S2 s2 i2 q2 =>
    hd C F2 H2 σ ρ v1 v2 d1 d2 _ _ S2 (i1 F2 H2 S2 s2) (i2 F2 H2 S2 (Same.refl _)) q2 fun F3 H3 w z S3 s3 i3 q3 => by
      obtain ⟨c, rfl, q3⟩ := q3
      cases i3
      refine ⟨c, rfl, ?_⟩
      cases c with
      | false => exact iteF (k F3 H3 _ _ S3 (s1.trans (s2.trans s3)) (.bl false) (by simpa using q3))
      | true => exact iteT ⟨C, F3, ρ, _, Ed, S3, (by simpa using q3), fun F4 H4 v4 d4 S4 s4 i4 q4 =>
          hd' C F4 H4 σ ρ v2 v4 d2 d4 Qd Q S4 (i2 F4 H4 S4 (s3.trans s4)) (i4 F4 H4 S4 (Same.refl _)) q4 fun F5 H5 w z S5 s5 i5 q5 => k F5 H5 w z S5 (s1.trans (s2.trans (s3.trans (s4.trans s5)))) i5 q5, x⟩, x⟩, x⟩
end
end DL
set_option Elab.async false
set_option linter.all false
set_option maxRecDepth 100000
set_option maxHeartbeats 4000000
/-! DL, the data layer (3): chains, truths, displays, calls, subscripts, comprehensions -/
namespace DL
open PySem PySem.Spec PyProof.Rows L2
section
variable {X : Cx} {W : WX} {pos : Pos} {a b c e : Expr} {es : List Expr} {fa fb fc : DE} {r r' : R2} {g g' : PyData → PyData → (PyData → Prop) → Prop}
theorem pd_chain {op op' : CmpOp} (ho : OpR X (compareOp op) r) (hd : OpD X r g) (ho' : OpR X (compareOp op') r') (hd' : OpD X r' g') (ha : PE X a (tO X.K W fa)) (hb : PE X b (tO X.K W fb)) (hc : PE X c (tO X.K W fc))
    (hm : lastMarks [op, op'] [b, c] = false := by with_unfolding_all rfl) : PE X (.Compare a [op, op'] [b, c] pos) (tD X.K W (dChain g g' fa fb fc)) := PE.weak (pe_chain ho ho' ha hb hc hm) (chain_read hd hd')
theorem pt_chainD {op op' : CmpOp} (ho : OpR X (compareOp op) r) (hd : OpD X r g) (ho' : OpR X (compareOp op') r') (hd' : OpD X r' g') (ha : PE X a (tO X.K W fa)) (hb : PE X b (tO X.K W fb)) (hc : PE X c (tO X.K W fc))
    (hm : lastMarks [op, op'] [b, c] = false := by with_unfolding_all rfl) : PT X (.Compare a [op, op'] [b, c] pos) (tT X.K W (dTest (dChain g g' fa fb fc))) := PT.weak (pt_chain ho ho' ha hb hc hm) (test_read (chain_read hd hd'))

/-! ### and, or, not -/
variable {ta tb tc : DT} {rest : List Expr}
def dAnd (t u : DT) : DT := fun ρ Q E => t ρ (fun c => if c = true then u ρ Q E else Q false) E
def dOr (t u : DT) : DT := fun ρ Q E => t ρ (fun c => if c = true then Q true else u ρ Q E) E
def dNot (t : DT) : DT := fun ρ Q E => t ρ (fun c => Q (!c)) E
theorem pw_andD1 (ha : PT X a (tT X.K W ta)) : PW X (.BoolOp .And [a] pos) (tT X.K W ta) := pw_and1 ha
theorem pw_orD1 (ha : PT X a (tT X.K W ta)) : PW X (.BoolOp .Or [a] pos) (tT X.K W ta) := pw_or1 ha
theorem pw_andD (ha : PT X a (tT X.K W ta)) (hb : PW X (.BoolOp .And (b :: rest) pos) (tT X.K W tb)) : PW X (.BoolOp .And (a :: b :: rest) pos) (tT X.K W (dAnd ta tb)) :=
  PW.weak (pw_and ha hb) fun σ H Q ⟨C, F, ρ, Qd, Ed, S, h, k, x⟩ => ⟨C, F, ρ, _, Ed, S, h, fun F1 H1 c S1 s1 q1 => by
    cases c with
    | true => exact iteT ⟨C, F1, ρ, _, Ed, S1, (by simpa using q1), fun F2 H2 d S2 s2 q2 => k F2 H2 d S2 (s1.trans s2) q2, x⟩
    | false => exact iteF (k F1 H1 false S1 s1 (by simpa using q1)), x⟩
theorem pw_orD (ha : PT X a (tT X.K W ta)) (hb : PW X (.BoolOp .Or (b :: rest) pos) (tT X.K W tb)) : PW X (.BoolOp .Or (a :: b :: rest) pos) (tT X.K W (dOr ta tb)) :=
  PW.weak (pw_or ha hb) fun σ H Q ⟨C, F, ρ, Qd, Ed, S, h, k, x⟩ => ⟨C, F, ρ, _, Ed, S, h, fun F1 H1 c S1 s1 q1 => by
    cases c with
    | true => exact iteT (k F1 H1 true S1 s1 (by simpa using q1))
    | false => exact iteF ⟨C, F1, ρ, _, Ed, S1, (by simpa using q1), fun F2 H2 d S2 s2 q2 => k F2 H2 d S2 (s1.trans s2) q2, x⟩, x⟩
theorem pt_notD (ha : PT X a (tT X.K W ta)) : PT X (.UnaryOp .Not a pos) (tT X.K W (dNot ta)) :=
  PT.weak (pt_not ha) fun σ H Q ⟨C, F, ρ, Qd, Ed, S, h, k, x⟩ => ⟨C, F, ρ, _, Ed, S, h, fun F1 H1 c S1 s1 q1 => k F1 H1 (!c) S1 s1 q1, x⟩
/-- .. as values: all but the last are truths -/
def dAndV (fa fb : DE) : DE := fun ρ Q E => fa ρ (fun d => ∃ k, d = .bool k ∧ if k = true then fb ρ Q E else Q (.bool false)) E
def dOrV (fa fb : DE) : DE := fun ρ Q E => fa ρ (fun d => ∃ k, d = .bool k ∧ if k = true then Q (.bool true) else fb ρ Q E) E
def dNotV (fa : DE) : DE := fun ρ Q E => fa ρ (fun d => ∃ k, d = .bool k ∧ Q (.bool (!k))) E
theorem pd_one {op} (ha : PE X a (tD X.K W fa)) : PE X (.BoolOp op [a] pos) (tD X.K W fa) := pe_one ha
theorem pd_and (ha : PE X a (tD X.K W fa)) (hb : PE X (.BoolOp .And (b :: rest) pos) (tD X.K W fb)) : PE X (.BoolOp .And (a :: b :: rest) pos) (tD X.K W (dAndV fa fb)) :=
  PE.weak (pe_and ha hb) fun σ H Q ⟨C, F, ρ, Qd, Ed, S, h, k, x⟩ => ⟨C, F, ρ, _, Ed, S, h, fun F1 H1 v d S1 s1 i1 q1 => by
    obtain ⟨c, rfl, q1⟩ := q1
    cases i1
    refine ⟨c, rfl, ?_⟩
    cases c with
    | true => exact iteT ⟨C, F1, ρ, _, Ed, S1, (by simpa using q1), fun F2 H2 v d S2 s2 i2 q2 => k F2 H2 v d S2 (s1.trans s2) i2 q2, x⟩
    | false => exact iteF (k F1 H1 _ _ S1 s1 (.bl false) (by simpa using q1)), x⟩
theorem pd_or (ha : PE X a (tD X.K W fa)) (hb : PE X (.BoolOp .Or (b :: rest) pos) (tD X.K W fb)) : PE X (.BoolOp .Or (a :: b :: rest) pos) (tD X.K W (dOrV fa fb)) :=
  PE.weak (pe_or ha hb) fun σ H Q ⟨C, F, ρ, Qd, Ed, S, h, k, x⟩ => ⟨C, F, ρ, _, Ed, S, h, fun F1 H1 v d S1 s1 i1 q1 => by
    obtain ⟨c, rfl, q1⟩ := q1
    cases i1
    refine ⟨c, rfl, ?_⟩
    cases c with
    | true => exact iteT (k F1 H1 _ _ S1 s1 (.bl true) (by simpa using q1))
    | false => exact iteF ⟨C, F1, ρ, _, Ed, S1, (by simpa using q1), fun F2 H2 v d S2 s2 i2 q2 => k F2 H2 v d S2 (s1.trans s2) i2 q2, x⟩, x⟩
theorem pd_not (ha : PE X a (tD X.K W fa)) : PE X (.UnaryOp .Not a pos) (tD X.K W (dNotV fa)) :=
  PE.weak (pe_not ha) fun σ H Q ⟨C, F, ρ, Qd, Ed, S, h, k, x⟩ => ⟨C, F, ρ, _, Ed, S, h, fun F1 H1 v d S1 s1 i1 q1 => by
    obtain ⟨c, rfl, q1⟩ := q1
    cases i1
    exact ⟨c, rfl, k F1 H1 _ _ S1 s1 (.bl _) q1⟩, x⟩
def dIf (t : DT) (fa fb : DE) : DE := fun ρ Q E => t ρ (fun c => if c = true then fa ρ Q E else fb ρ Q E) E
theorem pd_if (hc : PT X c (tT X.K W tc)) (ha : PE X a (tD X.K W fa)) (hb : PE X b (tD X.K W fb)) : PE X (.IfExp c a b pos) (tD X.K W (dIf tc fa fb)) :=
  PE.weak (pe_ifExp hc ha hb) fun σ H Q ⟨C, F, ρ, Qd, Ed, S, h, k, x⟩ => ⟨C, F, ρ, _, Ed, S, h, fun F1 H1 c S1 s1 q1 => by
    cases c with
    | true => exact iteT ⟨C, F1, ρ, _, Ed, S1, (by simpa using q1), fun F2 H2 v d S2 s2 i2 q2 => k F2 H2 v d S2 (s1.trans s2) i2 q2, x⟩
    | false => exact iteF ⟨C, F1, ρ, _, Ed, S1, (by simpa using q1), fun F2 H2 v d S2 s2 i2 q2 => k F2 H2 v d S2 (s1.trans s2) i2 q2, x⟩, x⟩

/-! ### arguments of built-ins, displays -/
variable {f : DE} {fs : DL'}
def dNil : DL' := fun _ Q _ => Q []
def dCons (f : DE) (fs : DL') : DL' := fun ρ Q E => f ρ (fun d => fs ρ (fun ds => Q (d :: ds)) E) E
theorem pb_nil : PA X [] (tB' X.K W dNil) := PA.weak pa_nil fun σ H Q ⟨C, F, ρ, Qd, Ed, S, h, k, _⟩ => k F H _ _ S (Same.refl _) (fun _ _ _ _ => .nil) h
theorem pb_cons (ha : PE X e (tO X.K W f)) (hr : PA X es (tB' X.K W fs)) (hs : starEach (e :: es) X.env = (false, eval e X.env) :: starEach es X.env := by rfl) : PA X (e :: es) (tB' X.K W (dCons f fs)) :=
  PA.weak (pa_cons ha hr hs) fun σ H Q ⟨C, F, ρ, Qd, Ed, S, h, k, x⟩ => ⟨C, F, ρ, _, Ed, S, h, fun F1 H1 v d S1 s1 i1 q1 => ⟨C, F1, ρ, _, Ed, S1, q1, fun F2 H2 vs ds S2 s2 i2 q2 =>
    k F2 H2 _ _ S2 (s1.trans s2) (fun F3 H3 S3 s3 => .cons (i1 F3 H3 S3 (s2.trans s3)) (i2 F3 H3 S3 s3)) q2, x⟩, x⟩
/-- items of displays: still data -/
def tS (K : PySem.W.Frag) (W : WX) (f : DL') : TA := fun σ H Q => ∃ C F ρ Qd Ed, Sd K C F H σ ρ ∧ f ρ Qd Ed ∧
  (∀ F' H' vs ds, Sd K C F' H' σ ρ → Same F F' → IsAll K F' vs ds → Qd ds → Q vs H') ∧ Exits K W C σ ρ Ed
theorem ps_nil' : PA X [] (tS X.K W dNil) := PA.weak pa_nil fun σ H Q ⟨C, F, ρ, Qd, Ed, S, h, k, _⟩ => k F H _ _ S (Same.refl _) .nil h
theorem ps_cons' (ha : PE X e (tD X.K W f)) (hr : PA X es (tS X.K W fs)) (hs : starEach (e :: es) X.env = (false, eval e X.env) :: starEach es X.env := by rfl) : PA X (e :: es) (tS X.K W (dCons f fs)) :=
  PA.weak (pa_cons ha hr hs) fun σ H Q ⟨C, F, ρ, Qd, Ed, S, h, k, x⟩ => ⟨C, F, ρ, _, Ed, S, h, fun F1 H1 v d S1 s1 i1 q1 => ⟨C, F1, ρ, _, Ed, S1, q1, fun F2 H2 vs ds S2 s2 i2 q2 =>
    k F2 H2 _ _ S2 (s1.trans s2) (.cons (i1.up s2) i2) q2, x⟩, x⟩
/-- (a, b, ..) -/
def dTup (fs : DL') : DE := fun ρ Q E => fs ρ (fun ds => ds.length ≤ sizeLine ∧ Q (.tuple ds)) E
theorem pd_tup {x1} (h : PA X es (tS X.K W fs)) : PE X (.Tuple es x1 pos) (tD X.K W (dTup fs)) := PE.weak (pe_tup h) fun σ H Q ⟨C, F, ρ, Qd, Ed, S, h, k, x⟩ =>
  ⟨C, F, ρ, _, Ed, S, h, fun F1 H1 vs ds S1 s1 i1 q1 => ⟨by rw [i1.length]; exact q1.1, fun p hp => by
    have s2 : Same F1 (upd F1 p (.tup vs)) := fun b u q => by rw [upd_ne (ne_of_none q (S1.le.free hp))]; exact q
    exact k (upd F1 p (.tup vs)) _ (.ref p) (.tuple ds) (S1.laid hp) (s1.trans s2) (.tup (.of upd_same) (by rw [i1.length]; exact q1.1) (i1.up s2)) q1.2⟩, x⟩
/-- [a, b, ..], new -/
def dLst (fs : DL') : DL' := fun ρ Q E => fs ρ (fun ds => ds.length ≤ sizeLine ∧ Q ds) E
theorem pf_lst (h : PA X es (tS X.K W fs)) : PE X (.List es pos) (tF X.K W (dLst fs)) := PE.weak (pe_lst h) fun σ H Q ⟨C, F, ρ, Qd, Ed, S, h, k, x⟩ =>
  ⟨C, F, ρ, _, Ed, S, h, fun F1 H1 vs ds S1 s1 i1 q1 => ⟨by rw [i1.length]; exact q1.1, fun p hp =>
    let ap := S1.new hp
    k F1 _ p vs ds (S1.fresh hp) s1 ⟨ap.f, ap.h0, ap.bg, ap.no⟩ upd_same (by rw [i1.length]; exact q1.1) i1 q1.2⟩, x⟩

/-! ### calls of built-ins -/
def dCall (g : List PyData → (PyData → Prop) → Prop) (fs : DL') : DE := fun ρ Q E => fs ρ (fun ds => g ds Q) E
def dCallF (g : List PyData → (List PyData → Prop) → Prop) (fs : DL') : DL' := fun ρ Q E => fs ρ (fun ds => g ds Q) E
variable {x : Str} {p : Pos} {id T : String} {rc : List V → Hp → VK → Prop} {gc : List PyData → (PyData → Prop) → Prop} {gf : List PyData → (List PyData → Prop) → Prop}
theorem call_read (hd : CallD X rc gc) : ∀ σ H Q, tD X.K W (dCall gc fs) σ H Q → tCB rc (tB' X.K W fs) σ H Q := fun σ H Q ⟨C, F, ρ, Qd, Ed, S, h, k, x⟩ =>
  ⟨C, F, ρ, _, Ed, S, h, fun F1 H1 vs ds S1 s1 i1 q1 => hd C F1 H1 σ ρ vs ds Qd Q S1 (i1 F1 H1 S1 (Same.refl _)) q1 fun F2 H2 w z S2 s2 i2 q2 => k F2 H2 w z S2 (s1.trans s2) i2 q2, x⟩
theorem callF_read (hd : CallF X rc gf) : ∀ σ H Q, tF X.K W (dCallF gf fs) σ H Q → tCB rc (tB' X.K W fs) σ H Q := fun σ H Q ⟨C, F, ρ, Qd, Ed, S, h, k, x⟩ =>
  ⟨C, F, ρ, _, Ed, S, h, fun F1 H1 vs ds S1 s1 i1 q1 => hd C F1 H1 σ ρ vs ds Qd Q S1 (i1 F1 H1 S1 (Same.refl _)) q1 fun F2 H2 a xs es S2 s2 ap e z i2 q2 => k F2 H2 a xs es S2 (s1.trans s2) ap e z i2 q2, x⟩
theorem pd_callB (hc : CallR X (.builtin id) rc) (hd : CallD X rc gc) (hm : X.mg x = none) (ha : PA X (e :: es) (tB' X.K W fs)) (hg : Gl X x := by rfl) (hv : bootBuiltins x = some (.builtin id) := by first | rfl | decide +kernel) (hn : x ≠ "__name__" := by decide) (hdb : (x == ("__debug__" : Str)) = false := by decide)
    (he : starEach (e :: es) X.env = (false, eval e X.env) :: starEach es X.env := by rfl) (hpl : (backTo pos (starEach es X.env)).any (·.1) = false := by rfl) : PE X (.Call (.Name x p) (e :: es) [] pos) (tD X.K W (dCall gc fs)) :=
  PE.weak (pe_callB hc hg hm hv ha hn hdb he hpl) (call_read hd)
theorem pd_callTy (hc : CallR X (.type T) rc) (hd : CallD X rc gc) (hm : X.mg x = none) (ha : PA X (e :: es) (tB' X.K W fs)) (hg : Gl X x := by rfl) (hv : bootBuiltins x = some (.type T) := by first | rfl | decide +kernel) (hn : x ≠ "__name__" := by decide) (hdb : (x == ("__debug__" : Str)) = false := by decide)
    (he : starEach (e :: es) X.env = (false, eval e X.env) :: starEach es X.env := by rfl) (hpl : (backTo pos (starEach es X.env)).any (·.1) = false := by rfl) : PE X (.Call (.Name x p) (e :: es) [] pos) (tD X.K W (dCall gc fs)) :=
  PE.weak (pe_callTy hc hg hm hv ha hn hdb he hpl) (call_read hd)
theorem pf_callB (hc : CallR X (.builtin id) rc) (hd : CallF X rc gf) (hm : X.mg x = none) (ha : PA X (e :: es) (tB' X.K W fs)) (hg : Gl X x := by rfl) (hv : bootBuiltins x = some (.builtin id) := by first | rfl | decide +kernel) (hn : x ≠ "__name__" := by decide) (hdb : (x == ("__debug__" : Str)) = false := by decide)
    (he : starEach (e :: es) X.env = (false, eval e X.env) :: starEach es X.env := by rfl) (hpl : (backTo pos (starEach es X.env)).any (·.1) = false := by rfl) : PE X (.Call (.Name x p) (e :: es) [] pos) (tF X.K W (dCallF gf fs)) :=
  PE.weak (pe_callB hc hg hm hv ha hn hdb he hpl) (callF_read hd)
theorem pf_callTy (hc : CallR X (.type T) rc) (hd : CallF X rc gf) (hm : X.mg x = none) (ha : PA X (e :: es) (tB' X.K W fs)) (hg : Gl X x := by rfl) (hv : bootBuiltins x = some (.type T) := by first | rfl | decide +kernel) (hn : x ≠ "__name__" := by decide) (hdb : (x == ("__debug__" : Str)) = false := by decide)
    (he : starEach (e :: es) X.env = (false, eval e X.env) :: starEach es X.env := by rfl) (hpl : (backTo pos (starEach es X.env)).any (·.1) = false := by rfl) : PE X (.Call (.Name x p) (e :: es) [] pos) (tF X.K W (dCallF gf fs)) :=
  PE.weak (pe_callTy hc hg hm hv ha hn hdb he hpl) (callF_read hd)

/-! ### calls of defs -/
/-- what a def is worth: arguments, value wanted, exception wanted -/
abbrev DFn := List DSlot → (PyData → Prop) → (ExcD → Prop) → Prop
/-- behind a call -/
structure Post (F F' H H' : Hp) (bg : Option (Addr × Addr)) : Prop where
  f : Same F F'
  le : Same F' H'
  keep : ∀ a o, H a = some o → (∀ p, bg = some p → a ≠ p.1 ∧ a ≠ p.2) → H' a = some o
  still : ∀ a, H a ≠ none → F a = none → F' a = none
/-- the promise of a def that is worth fn: the source of draws is handed in as an argument, or not at all -/
def spD (K : PySem.W.Frag) (fn : DFn) : Sp := fun vs H Q E => ∃ F bg ss Qd Ed, Same F H ∧ (∀ p, bg = some p → BagOk K F H p) ∧ ArgsOk K F bg vs ss ∧ fn ss Qd Ed ∧
  (∀ F' H' v d, Post F F' H H' bg → (∀ p, bg = some p → BagOk K F' H' p) → Is K F' v d → Qd d → Q v H') ∧
  (∀ F' H' c dd x, Post F F' H H' bg → (∀ p, bg = some p → BagOk K F' H' p) → ExcIs K F' H' c dd x → Ed x → E c dd H')
/-- the frame stands behind a call -/
theorem Sd.post {K : PySem.W.Frag} {C : Ctx} {F F' H H' : Hp} {σ : L2.St} {ρ : DEnv} (S : Sd K C F H σ ρ) (P : Post F F' H H' C.bg) (hb : ∀ p, C.bg = some p → BagOk K F' H' p) : Sd K C F' H' σ ρ := by
  refine ⟨S.le0.trans P.f, P.le, fun a o e hb => P.keep a o (S.frame a o e hb) hb, fun a h1 h2 => ?_, hb, S.len, fun i => ?_, fun i a ho => ?_, S.dj⟩
  · by_cases z : ∀ p, C.bg = some p → a ≠ p.1 ∧ a ≠ p.2
    · refine P.still a (fun e => ?_) (S.still a h1 h2)
      cases q : C.H0 a with
      | none => exact h1 q
      | some u => rw [S.frame a u q z] at e; cases e
    · -- an address of the source of draws
      refine Classical.byContradiction fun hn => z fun p hp => ?_
      obtain ⟨b1, b2, _⟩ := hb p hp
      exact ⟨fun e => hn (by rw [e]; exact b1), fun e => hn (by rw [e]; exact b2)⟩
  · have q := S.ok i
    have own := S.own i
    cases e : look ρ i with
    | undef => trivial
    | data d => rw [e] at q; obtain ⟨u, h1, h2⟩ := q; exact ⟨u, h1, h2.up P.f⟩
    | ownL ds =>
      rw [e] at q own; obtain ⟨a, xs, h1, h2, h3, h4⟩ := q
      exact ⟨a, xs, h1, P.keep _ _ h2 (own a ⟨h1, .inl ⟨_, rfl⟩⟩).2.2, h3, h4.up P.f⟩
    | ownD kvs =>
      rw [e] at q own; obtain ⟨a, ks, h1, h2, h3, h4, h5⟩ := q
      exact ⟨a, ks, h1, P.keep _ _ h2 (own a ⟨h1, .inr ⟨_, rfl⟩⟩).2.2, h3, h4, h5.up P.f⟩
    | bag => rw [e] at q; exact q
  · obtain ⟨h1, h2, h3⟩ := S.own i a ho
    refine ⟨P.still a ?_ h1, h2, h3⟩
    have q := S.ok i
    obtain ⟨hv, ⟨ds, hs'⟩ | ⟨kvs, hs'⟩⟩ := ho
    · rw [hs'] at q; obtain ⟨b, xs, e1, e2, _⟩ := q
      rw [hv] at e1; cases e1; rw [e2]; simp
    · rw [hs'] at q; obtain ⟨b, xs, e1, e2, _⟩ := q
      rw [hv] at e1; cases e1; rw [e2]; simp
/-- .. that of another source: none is handed over -/
theorem Post.less {F F' H H' : Hp} {bg : Option (Addr × Addr)} (P : Post F F' H H' none) : Post F F' H H' bg := ⟨P.f, P.le, fun a o e _ => P.keep a o e (fun _ z => nomatch z), P.still⟩
variable {fas : DA}
def aNil : DA := fun _ Q _ => Q []
def aCons (f : DE) (fs : DA) : DA := fun ρ Q E => f ρ (fun d => fs ρ (fun ss => Q (.data d :: ss)) E) E
/-- the source of draws, from slot i -/
def aBag (i : Nat) (fs : DA) : DA := fun ρ Q E => match look ρ i with | .bag => fs ρ (fun ss => Q (.bag :: ss)) E | _ => False
theorem ArgsOk.up {K : PySem.W.Frag} {F F' : Hp} {bg : Option (Addr × Addr)} (s : Same F F') {vs : List V} {ss : List DSlot} (h : ArgsOk K F bg vs ss) : ArgsOk K F' bg vs ss := by
  refine Paired.mapP h fun v t q => ?_
  cases t with
  | data d => exact Is.up (show Is K F v d from q) s
  | bag => exact q
  | undef => exact q
  | ownL _ => exact q
  | ownD _ => exact q
theorem qa_nil : PA X [] (tA X.K W aNil) := PA.weak pa_nil fun σ H Q ⟨C, F, ρ, Qd, Ed, S, h, k, _⟩ => k F H _ _ S (Same.refl _) .nil h
theorem qa_cons (ha : PE X e (tD X.K W f)) (hr : PA X es (tA X.K W fas)) (hs : starEach (e :: es) X.env = (false, eval e X.env) :: starEach es X.env := by rfl) : PA X (e :: es) (tA X.K W (aCons f fas)) :=
  PA.weak (pa_cons ha hr hs) fun σ H Q ⟨C, F, ρ, Qd, Ed, S, h, k, x⟩ => ⟨C, F, ρ, _, Ed, S, h, fun F1 H1 v d S1 s1 i1 q1 => ⟨C, F1, ρ, _, Ed, S1, q1, fun F2 H2 vs ss S2 s2 i2 q2 =>
    k F2 H2 (v :: vs) (.data d :: ss) S2 (s1.trans s2) (.cons (show ArgOk X.K F2 C.bg v (.data d) from i1.up s2) i2) q2, x⟩, x⟩
theorem qa_bag' {i : Nat} (ha : PE X e (tVar i)) (hr : PA X es (tA X.K W fas)) (hs : starEach (e :: es) X.env = (false, eval e X.env) :: starEach es X.env := by rfl) : PA X (e :: es) (tA X.K W (aBag i fas)) :=
  PA.weak (pa_cons ha hr hs) fun σ H Q ⟨C, F, ρ, Qd, Ed, S, h, k, x⟩ => by
    have q := S.ok i
    unfold aBag at h
    split at h
    · rename_i e
      rw [e] at q
      obtain ⟨p, h1, h2⟩ := q
      exact ⟨_, val_some h2, C, F, ρ, _, Ed, S, h, fun F2 H2 vs ss S2 s2 i2 q2 => k F2 H2 (.ref p.1 :: vs) (.bag :: ss) S2 s2 (.cons (show ArgOk X.K F2 C.bg (.ref p.1) .bag from ⟨p, h1, rfl⟩) i2) q2, x⟩
    · exact h.elim
theorem qa_bag (i : Nat) {x : Str} {pos : Pos} (hr : PA X es (tA X.K W fas)) (hN : X.N[i]? = some x := by rfl) (hv : Vis X.env.scope x := by first | exact Or.inl rfl | exact Or.inr (Or.inl rfl) | exact Or.inr (Or.inr rfl)) (hd : (x == ("__debug__" : Str)) = false := by decide)
    (hcd : (x == ("__classdict__" : Str)) = false := by decide) (hs : starEach (.Name x pos :: es) X.env = (false, eval (.Name x pos) X.env) :: starEach es X.env := by rfl) : PA X (.Name x pos :: es) (tA X.K W (aBag i fas)) := qa_bag' (pe_var hN hv hd hcd) hr hs
/-- the source that a call hands over -/
theorem bag_in {K : PySem.W.Frag} {F : Hp} {bg : Option (Addr × Addr)} : ∀ {vs : List V} {ss : List DSlot}, ArgsOk K F bg vs ss → (∃ bg', (bg' = bg ∨ bg' = none) ∧ ArgsOk K F bg' vs ss ∧ (bg' = none → ∀ s ∈ ss, s ≠ DSlot.bag)) := by
  intro vs ss h
  by_cases z : ∃ s ∈ ss, s = DSlot.bag
  · refine ⟨bg, .inl rfl, h, fun e s hs q => ?_⟩
    subst q
    clear z
    induction h with
    | nil => cases hs
    | cons r t ih =>
      rcases List.mem_cons.mp hs with q | q
      · subst q
        obtain ⟨p, hp, _⟩ := r
        rw [e] at hp; cases hp
      · exact ih q
  · refine ⟨none, .inr rfl, ?_, fun _ s hs q => z ⟨s, hs, q⟩⟩
    induction h with
    | nil => exact .nil
    | @cons v t vs ss r tl ih =>
      refine .cons ?_ (ih fun ⟨s, hs, q⟩ => z ⟨s, List.mem_cons_of_mem _ hs, q⟩)
      cases t with
      | bag => exact absurd ⟨_, List.mem_cons_self, rfl⟩ z
      | data d => exact r
      | undef => exact r
      | ownL _ => exact r
      | ownD _ => exact r
def dFn (fn : DFn) (fas : DA) : DE := fun ρ Q E => fas ρ (fun ss => fn ss Q E) E
/-- .. of a def that lets no exception out -/
def dFn0 (fn : DFn) (fas : DA) : DE := fun ρ Q E => fas ρ (fun ss => fn ss Q fun _ => False) E
variable {fn : DFn}
theorem fn0_read : ∀ σ H Q, tD X.K W (dFn0 fn fas) σ H Q → tCall (spD X.K fn) [] E0 (tA X.K W fas) σ H Q := fun σ H Q ⟨C, F, ρ, Qd, Ed, S, h, k, x⟩ => ⟨C, F, ρ, _, Ed, S, h, fun F1 H1 vs ss S1 s1 i1 q1 => by
    obtain ⟨bg, hbg, i1, _⟩ := bag_in i1
    show spD X.K fn (vs ++ []) H1 Q E0
    rw [List.append_nil]
    refine ⟨F1, bg, ss, Qd, _, S1.le, fun p hp => ?_, i1, q1, fun F2 H2 v d P B i2 q2 => ?_, fun _ _ _ _ _ _ _ _ z => z.elim⟩
    · rcases hbg with e | e
      · subst e; exact S1.bag p hp
      · subst e; cases hp
    · rcases hbg with e | e
      · subst e; exact k F2 H2 v d (S1.post P B) (s1.trans P.f) i2 q2
      · subst e
        refine k F2 H2 v d (S1.post P.less fun p hp => ?_) (s1.trans P.f) i2 q2
        have B := S1.bag p hp
        exact B.next P.f (P.still _ B.there.1 B.1) (P.still _ B.there.2 B.2.1) (fun _ e => P.keep _ _ e (fun _ z => nomatch z)) fun _ e => P.keep _ _ e (fun _ z => nomatch z), x⟩
end
end DL
set_option Elab.async false
set_option linter.all false
set_option maxRecDepth 100000
set_option maxHeartbeats 4000000
/-! DL, the data layer (4): subscripts, slices, methods, what is walked, comprehensions -/
namespace DL
open PySem PySem.Spec PyProof.Rows L2
section
variable {X : Cx} {W : WX} {pos : Pos} {a b c e : Expr} {es : List Expr} {fa fb fc f : DE} {fs : DL'} {r : R2} {g : PyData → PyData → (PyData → Prop) → Prop}
theorem pd_ix (hr : IxR X r) (hd : OpD X r g) (ha : PE X a (tO X.K W fa)) (hb : PE X b (tO X.K W fb)) (hs : PlainIx b := by exact fun _ _ => rfl) : PE X (.Subscript a b pos) (tD X.K W (dOp g fa fb)) :=
  PE.weak (pe_ix hr ha hb hs) (op_read hd)

/-! ### slices -/
abbrev DP := DEnv → (Option Int → Prop) → (ExcD → Prop) → Prop
def tPt (K : PySem.W.Frag) (W : WX) (f : DP) : TO := fun σ H Q => ∃ C F ρ Qd Ed, Sd K C F H σ ρ ∧ f ρ Qd Ed ∧ (∀ F' H' o, Sd K C F' H' σ ρ → Same F F' → Qd o → Q o H') ∧ Exits K W C σ ρ Ed
def dNoPt : DP := fun _ Q _ => Q none
def dPt (f : DE) : DP := fun ρ Q E => f ρ (fun d => ∃ i, d = .int i ∧ Q (some i)) E
theorem PO.weak {o : Option Expr} {t t' : TO} (h : PO X o t) (k : ∀ σ H Q, t' σ H Q → t σ H Q) : PO X o t' := ⟨fun pins s σ H Q I q => h.run pins s σ H Q I (k σ H Q q)⟩
theorem po_noneD : PO X none (tPt X.K W dNoPt) := PO.weak po_none fun σ H Q ⟨C, F, ρ, Qd, Ed, S, h, k, _⟩ => k F H none S (Same.refl _) h
theorem po_someD (h : PE X e (tD X.K W f)) : PO X (some e) (tPt X.K W (dPt f)) := PO.weak (po_some h) fun σ H Q ⟨C, F, ρ, Qd, Ed, S, h, k, x⟩ =>
  ⟨C, F, ρ, _, Ed, S, h, fun F1 H1 v d S1 s1 i1 ⟨i, e, q⟩ => by subst e; cases i1; exact ⟨i, rfl, k F1 H1 _ S1 s1 q⟩, x⟩
def SlD (X : Cx) (r : V → Option Int → Option Int → Hp → VK → Prop) (g : PyData → Option Int → Option Int → (PyData → Prop) → Prop) : Prop :=
  ∀ C F H σ ρ v x lo hi Qz Q, Sd X.K C F H σ ρ → IsO X.K F H v x → g x lo hi Qz → (∀ F' H' w z, Sd X.K C F' H' σ ρ → Same F F' → Is X.K F' w z → Qz z → Q w H') → r v lo hi H Q
def dSl (g : PyData → Option Int → Option Int → (PyData → Prop) → Prop) (f : DE) (l h : DP) : DE := fun ρ Q E => f ρ (fun x => l ρ (fun lo => h ρ (fun hi => g x lo hi Q) E) E) E
theorem pd_slice {r : V → Option Int → Option Int → Hp → VK → Prop} {g : PyData → Option Int → Option Int → (PyData → Prop) → Prop} {lo hi : Option Expr} {fl fh : DP} {p2 : Pos} (hr : SlR X r) (hd : SlD X r g) (he : PE X e (tO X.K W f)) (hl : PO X lo (tPt X.K W fl)) (hh : PO X hi (tPt X.K W fh)) :
    PE X (.Subscript e (.Slice lo hi none p2) pos) (tD X.K W (dSl g f fl fh)) := PE.weak (pe_slice hr he hl hh) fun σ H Q ⟨C, F, ρ, Qd, Ed, S, h, k, x⟩ =>
  ⟨C, F, ρ, _, Ed, S, h, fun F1 H1 v1 d1 S1 s1 i1 q1 => ⟨C, F1, ρ, _, Ed, S1, q1, fun F2 H2 o2 S2 s2 q2 => ⟨C, F2, ρ, _, Ed, S2, q2, fun F3 H3 o3 S3 s3 q3 =>
    hd C F3 H3 σ ρ v1 d1 o2 o3 Qd Q S3 (i1 F3 H3 S3 (s2.trans s3)) q3 fun F4 H4 w z S4 s4 i4 q4 => k F4 H4 w z S4 (s1.trans (s2.trans (s3.trans s4))) i4 q4, x⟩, x⟩, x⟩

/-! ### methods of built-in types -/
def tyD (T : String) : PyData → Prop
  | .str _ => T = "str"
  | .list _ => T = "list"
  | .dict _ => T = "dict"
  | _ => False
theorem tyV_of {K : PySem.W.Frag} {F H : Hp} {T : String} {v : V} {d : PyData} (le : Same F H) (h : IsO K F H v d) (t : tyD T d) : tyV K T v H := by
  rcases h with h | ⟨a, xs, ds, rfl, rfl, h, _, _⟩ | ⟨a, ks, kvs, rfl, rfl, h, _, _, _⟩
  · cases h with
    | str x _ => exact t
    | lst e _ _ => exact .inl ⟨t, _, .of (le _ _ e)⟩
    | dic e _ _ _ => exact .inr (.inr (.inl ⟨t, .inl ⟨_, le _ _ e⟩⟩))
    | _ => exact (show False from t).elim
  · exact .inl ⟨t, _, .of h⟩
  · exact .inr (.inr (.inl ⟨t, .inl ⟨_, h⟩⟩))
def dMt (T : String) (g : PyData → List PyData → (PyData → Prop) → Prop) (f : DE) (fs : DL') : DE := fun ρ Q E => f ρ (fun x => tyD T x ∧ fs ρ (fun ds => g x ds Q) E) E
variable {o : Expr} {name : Str} {apos cpos : Pos} {T id : String} {rm : V → List V → Hp → VK → Prop} {gm : PyData → List PyData → (PyData → Prop) → Prop}
theorem pd_bm0 (pa : PlainAttrs T) (slot : Slot T name id) (hty : typeOf (.builtin id) = pure (.type "method_descriptor")) (hm : MtR X id rm) (hd : MtD X rm gm) (ho : PE X o (tO X.K W f))
    (hbase : attributeBase o name X.env (eval o X.env) = eval o X.env := by rfl) (hline : (apos.endLine == cpos.line) = true := by rfl) : PE X (.Call (.Attribute o name apos) [] [] cpos) (tD X.K W (dMt T gm f dNil)) :=
  PE.weak (pe_bm0 pa slot hty hm ho hbase hline) fun σ H Q ⟨C, F, ρ, Qd, Ed, S, h, k, x⟩ => ⟨C, F, ρ, _, Ed, S, h, fun F1 H1 v d S1 s1 i1 q1 =>
    ⟨tyV_of S1.le (i1 F1 H1 S1 (Same.refl _)) q1.1, hd C F1 H1 σ ρ v d [] [] Qd Q S1 (i1 F1 H1 S1 (Same.refl _)) .nil q1.2 fun F2 H2 w z S2 s2 i2 q2 => k F2 H2 w z S2 (s1.trans s2) i2 q2⟩, x⟩
theorem pd_bm (pa : PlainAttrs T) (slot : Slot T name id) (hty : typeOf (.builtin id) = pure (.type "method_descriptor")) (hm : MtR X id rm) (hd : MtD X rm gm) (ho : PE X o (tO X.K W f)) (ha : PA X (e :: es) (tB' X.K W fs))
    (hbase : attributeBase o name X.env (eval o X.env) = eval o X.env := by rfl)
    (hfew : ((backTo cpos (starEach (e :: es) X.env)).all (fun x => !x.1) && (backToKw cpos (keywordEach [] X.env)).all (fun x => x.1.isSome)
      && decide ((e :: es).length + ([] : List Keyword).length + (if ([] : List Keyword).isEmpty then 0 else 1) < 30)) = true := by rfl)
    (hline : (apos.endLine == cpos.line) = true := by rfl) (hs : starEach (e :: es) X.env = (false, eval e X.env) :: starEach es X.env := by rfl) (hplain : (backTo cpos (starEach es X.env)).any (·.1) = false := by rfl) :
    PE X (.Call (.Attribute o name apos) (e :: es) [] cpos) (tD X.K W (dMt T gm f fs)) :=
  PE.weak (pe_bm pa slot hty hm ho ha hbase hfew hline hs hplain) fun σ H Q ⟨C, F, ρ, Qd, Ed, S, h, k, x⟩ => ⟨C, F, ρ, _, Ed, S, h, fun F1 H1 v d S1 s1 i1 q1 =>
    ⟨tyV_of S1.le (i1 F1 H1 S1 (Same.refl _)) q1.1, C, F1, ρ, _, Ed, S1, q1.2, fun F2 H2 vs ds S2 s2 i2 q2 =>
      hd C F2 H2 σ ρ v d vs ds Qd Q S2 (i1 F2 H2 S2 s2) (i2 F2 H2 S2 (Same.refl _)) q2 fun F3 H3 w z S3 s3 i3 q3 => k F3 H3 w z S3 (s1.trans (s2.trans s3)) i3 q3, x⟩, x⟩

/-! ### what is walked -/
/-- what a turn hands out: still data, or a new pair of such -/
def YD (K : PySem.W.Frag) (F : Hp) (ds : List PyData) : Nat → Hp → V → Hp → Prop := fun i H x H' => ∃ d, ds[i]? = some d ∧
  ((H' = H ∧ Is K F x d) ∨ ∃ T a b da db, x = .ref T ∧ H T = none ∧ H' = upd H T (.tup [a, b]) ∧ Is K F a da ∧ Is K F b db ∧ d = .tuple [da, db])
def tI (K : PySem.W.Frag) (W : WX) (f : DL') : TI := fun σ H R => ∃ C F ρ Qd Ed, Sd K C F H σ ρ ∧ f ρ Qd Ed ∧
  (∀ F' H' J ds, Sd K C F' H' σ ρ → Same F F' → ds.length ≤ sizeLine → Walk J ds.length (fun H => Same F' H) (YD K F' ds) → Qd ds → R J H') ∧ Exits K W C σ ρ Ed
variable {tg : Expr}
theorem PI.weak {t t' : TI} (h : PI X tg e t) (k : ∀ σ H Q, t' σ H Q → t σ H Q) : PI X tg e t' := ⟨fun pins s σ H Q I q => h.run pins s σ H Q I (k σ H Q q)⟩
/-- a list -/
def iL (f : DE) : DL' := fun ρ Q E => f ρ (fun d => ∃ ds, d = .list ds ∧ Q ds) E
def iT (f : DE) : DL' := fun ρ Q E => f ρ (fun d => ∃ ds, d = .tuple ds ∧ Q ds) E
def iS' (f : DE) : DL' := fun ρ Q E => f ρ (fun d => ∃ x : Str, d = .str x ∧ Q (x.cps.toList.map fun c => PyData.str ⟨#[c]⟩)) E
theorem walk_lst {K : PySem.W.Frag} {F : Hp} {a : Addr} {xs : List V} {ds : List PyData} (e : F a = some (.lst xs)) (t : IsAll K F xs ds) : Walk (Itl K a) ds.length (fun H => Same F H) (YD K F ds) := by
  rw [← t.length]
  refine Walk.mono (walk_list (K := K) (a := a) (xs := xs)) (fun H h => .of (h _ _ e)) fun i H x H' hi hG y => ?_
  obtain ⟨rfl, y⟩ := y
  obtain ⟨d, h1, h2⟩ := t.get y
  exact ⟨d, h1, .inl ⟨rfl, h2⟩⟩
theorem walk_tupD {K : PySem.W.Frag} {F : Hp} {a : Addr} {xs : List V} {ds : List PyData} (e : SqT K F a xs) (t : IsAll K F xs ds) : Walk (Itt K a) ds.length (fun H => Same F H) (YD K F ds) := by
  rw [← t.length]
  refine Walk.mono (walk_tup (K := K) (a := a) (xs := xs)) (fun H h => sqT_mono h e) fun i H x H' hi hG y => ?_
  obtain ⟨rfl, y⟩ := y
  obtain ⟨d, h1, h2⟩ := t.get y
  exact ⟨d, h1, .inl ⟨rfl, h2⟩⟩
theorem pi_listD (h : PE X e (tD X.K W f)) : PI X tg e (tI X.K W (iL f)) := PI.weak (pi_list h) fun σ H R ⟨C, F, ρ, Qd, Ed, S, h, k, x⟩ =>
  ⟨C, F, ρ, _, Ed, S, h, fun F1 H1 v d S1 s1 i1 ⟨ds, e, q⟩ => by
    subst e
    cases i1 with
    | lst e z t => exact ⟨_, rfl, ⟨_, .of (S1.le _ _ e)⟩, k F1 H1 _ ds S1 s1 (by rw [← t.length]; exact z) (walk_lst e t) q⟩, x⟩
theorem pi_tupD (h : PE X e (tD X.K W f)) : PI X tg e (tI X.K W (iT f)) := PI.weak (pi_tup h) fun σ H R ⟨C, F, ρ, Qd, Ed, S, h, k, x⟩ =>
  ⟨C, F, ρ, _, Ed, S, h, fun F1 H1 v d S1 s1 i1 ⟨ds, e, q⟩ => by
    subst e
    cases i1 with
    | tup e z t => exact ⟨_, rfl, ⟨_, sqT_mono S1.le e⟩, k F1 H1 _ ds S1 s1 (by rw [← t.length]; exact z) (walk_tupD e t) q⟩, x⟩
theorem pi_strD (h : PE X e (tD X.K W f)) : PI X tg e (tI X.K W (iS' f)) := PI.weak (pi_str h) fun σ H R ⟨C, F, ρ, Qd, Ed, S, h, k, x⟩ =>
  ⟨C, F, ρ, _, Ed, S, h, fun F1 H1 v d S1 s1 i1 ⟨y, e, q⟩ => by
    subst e
    cases i1 with
    | str y z =>
      refine ⟨y, rfl, k F1 H1 _ _ S1 s1 (by rw [List.length_map, Array.length_toList]; exact z) ?_ q⟩
      rw [List.length_map, Array.length_toList]
      refine Walk.mono (walk_str (z := y)) (fun _ _ => trivial) fun i H x H' hi hG yy => ?_
      obtain ⟨rfl, c, h1, h2⟩ := yy
      subst h2
      exact ⟨.str ⟨#[c]⟩, by rw [List.getElem?_map, Array.getElem?_toList, h1]; rfl, .inl ⟨rfl, .str _ (by show 1 ≤ sizeLine; decide)⟩⟩, x⟩
/-- any of the three -/
def iSeq (f : DE) : DL' := fun ρ Q E => f ρ (fun d => match d with | .list ds => Q ds | .tuple ds => Q ds | _ => False) E
def iSeqK (K : PySem.W.Frag) (tl : TE) : TI := fun σ H R => tl σ H fun x H1 => ∃ a, x = .ref a ∧ (((∃ xs, SqL K H1 a xs) ∧ R (Itl K a) H1) ∨ ((∃ xs, SqT K H1 a xs) ∧ R (Itt K a) H1))
theorem pi_seqK {tl : TE} (hl : PE X e tl) : PI X tg e (iSeqK X.K tl) := by
  refine ⟨fun pins s σ H R I h => ?_⟩
  refine thn (hl.run pins s σ H _ I h) fun v s1 ⟨x, H1, I1, r1, q1⟩ => ?_
  obtain ⟨a, e, ⟨⟨xs, hq⟩, q⟩ | ⟨⟨xs, hq⟩, q⟩⟩ := q1
  · subst e
    cases r1
    obtain ⟨its, rv, p, hz⟩ := I1.list hq
    refine wpAny_pyIter_list p.isList ?_
    refine ⟨s1.heap.objs.size, [s1.heap.objs.size], _, _, H1, rfl, I1.kept (t' := s1.toks) fun b o e => Heap.get?_push_of_some _ e, turn_list a _, ⟨_, Heap.get?_push_size _ rfl, rfl, rfl⟩, fun b hb => ?_, q⟩
    have e : b = s1.heap.objs.size := by simpa using hb
    subst e
    exact I1.fpOk (Nat.le_refl _) (I1.hok.fresh (Nat.le_refl _))
  · subst e
    cases r1
    obtain ⟨its, rv, p, hz⟩ := I1.tuple hq
    refine wpAny_pyIter_tuple (show s1.heap.IsTuple a its.toArray from p) ?_
    refine ⟨s1.heap.objs.size, [s1.heap.objs.size], _, _, H1, rfl, I1.kept (t' := s1.toks) fun b o e => Heap.get?_push_of_some _ e, turn_tuple a _, ⟨_, Heap.get?_push_size _ rfl, rfl, rfl⟩, fun b hb => ?_, q⟩
    have e : b = s1.heap.objs.size := by simpa using hb
    subst e
    exact I1.fpOk (Nat.le_refl _) (I1.hok.fresh (Nat.le_refl _))
theorem pi_seqD (h : PE X e (tD X.K W f)) : PI X tg e (tI X.K W (iSeq f)) := PI.weak (pi_seqK h) fun σ H R ⟨C, F, ρ, Qd, Ed, S, h, k, x⟩ =>
  ⟨C, F, ρ, _, Ed, S, h, fun F1 H1 v d S1 s1 i1 q => by
    cases i1 with
    | lst e z t => exact ⟨_, rfl, .inl ⟨⟨_, .of (S1.le _ _ e)⟩, k F1 H1 _ _ S1 s1 (by rw [← t.length]; exact z) (walk_lst e t) q⟩⟩
    | tup e z t => exact ⟨_, rfl, .inr ⟨⟨_, sqT_mono S1.le e⟩, k F1 H1 _ _ S1 s1 (by rw [← t.length]; exact z) (walk_tupD e t) q⟩⟩
    | _ => exact (show False from q).elim, x⟩
/-- range(n), n written or not -/
def iR1 (fs : DL') : DL' := fun ρ Q E => fs ρ (fun ds => ∃ j : Int, ds = [.int j] ∧ -1000000 ≤ j ∧ j ≤ 1000000 ∧ Q ((List.range j.toNat).map fun i => PyData.int (i : Nat))) E
theorem isO_int {K : PySem.W.Frag} {F H : Hp} {v : V} {i : Int} (h : IsO K F H v (.int i)) : v = .int i := by
  rcases h with h | ⟨_, _, _, _, z, _⟩ | ⟨_, _, _, _, z, _⟩
  · cases h; rfl
  · cases z
  · cases z
theorem isO_str {K : PySem.W.Frag} {F H : Hp} {v : V} {x : Str} (h : IsO K F H v (.str x)) : v = .str x ∧ x.length ≤ sizeLine := by
  rcases h with h | ⟨_, _, _, _, z, _⟩ | ⟨_, _, _, _, z, _⟩
  · cases h with | str _ z => exact ⟨rfl, z⟩
  · cases z
  · cases z
theorem isO_bool {K : PySem.W.Frag} {F H : Hp} {v : V} {b : Bool} (h : IsO K F H v (.bool b)) : v = .bl b := by
  rcases h with h | ⟨_, _, _, _, z, _⟩ | ⟨_, _, _, _, z, _⟩
  · cases h; rfl
  · cases z
  · cases z
theorem isO_none {K : PySem.W.Frag} {F H : Hp} {v : V} (h : IsO K F H v .none) : v = .non := by
  rcases h with h | ⟨_, _, _, _, z, _⟩ | ⟨_, _, _, _, z, _⟩
  · cases h; rfl
  · cases z
  · cases z
theorem isO_list {K : PySem.W.Frag} {F H : Hp} {v : V} {ds : List PyData} (le : Same F H) (h : IsO K F H v (.list ds)) : ∃ a xs, v = .ref a ∧ H a = some (.lst xs) ∧ xs.length ≤ sizeLine ∧ IsAll K F xs ds := by
  rcases h with h | ⟨a, xs, ds', rfl, z, h1, h2, h3⟩ | ⟨_, _, _, _, z, _⟩
  · cases h with | lst e z t => exact ⟨_, _, rfl, le _ _ e, z, t⟩
  · cases z; exact ⟨a, xs, rfl, h1, h2, h3⟩
  · cases z
theorem isO_tup {K : PySem.W.Frag} {F H : Hp} {v : V} {ds : List PyData} (h : IsO K F H v (.tuple ds)) : ∃ a xs, v = .ref a ∧ SqT K F a xs ∧ xs.length ≤ sizeLine ∧ IsAll K F xs ds := by
  rcases h with h | ⟨_, _, _, _, z, _⟩ | ⟨_, _, _, _, z, _⟩
  · cases h with | tup e z t => exact ⟨_, _, rfl, e, z, t⟩
  · cases z
  · cases z
theorem isO_dict {K : PySem.W.Frag} {F H : Hp} {v : V} {kvs : List (PyData × PyData)} (le : Same F H) (h : IsO K F H v (.dict kvs)) : ∃ a ks, v = .ref a ∧ H a = some (.dK ks) ∧ ks.length ≤ sizeLine ∧ (ks.map (·.1)).Nodup ∧ IsKv K F ks kvs := by
  rcases h with h | ⟨_, _, _, _, z, _⟩ | ⟨a, ks, kvs', rfl, z, h1, h2, h3, h4⟩
  · cases h with | dic e z n t => exact ⟨_, _, rfl, le _ _ e, z, n, t⟩
  · cases z
  · cases z; exact ⟨a, ks, rfl, h1, h2, h3, h4⟩
theorem allO_1 {K : PySem.W.Frag} {F H : Hp} {vs : List V} {d : PyData} (h : AllO K F H vs [d]) : ∃ v, vs = [v] ∧ IsO K F H v d := by
  cases h with | cons a t => cases t; exact ⟨_, rfl, a⟩
theorem allO_2 {K : PySem.W.Frag} {F H : Hp} {vs : List V} {d e : PyData} (h : AllO K F H vs [d, e]) : ∃ v u, vs = [v, u] ∧ IsO K F H v d ∧ IsO K F H u e := by
  cases h with | cons a t => cases t with | cons b t => cases t; exact ⟨_, _, rfl, a, b⟩
theorem pi_range1D {n : Expr} {p pos : Pos} (hm : X.mg "range" = none) (ha : PA X [n] (tB' X.K W fs)) (hg : Gl X "range" := by rfl) (hs : starEach [n] X.env = [(false, eval n X.env)] := by rfl) : PI X tg (.Call (.Name "range" p) [n] [] pos) (tI X.K W (iR1 fs)) :=
  PI.weak (pi_range1 hg hm ha hs) fun σ H R ⟨C, F, ρ, Qd, Ed, S, h, k, x⟩ => ⟨C, F, ρ, _, Ed, S, h, fun F1 H1 vs ds S1 s1 i1 ⟨j, e, hj, hj', q⟩ => by
    subst e
    obtain ⟨v, rfl, o⟩ := allO_1 (i1 F1 H1 S1 (Same.refl _))
    have e := isO_int o
    subst e
    refine ⟨j, rfl, by omega, by omega, k F1 H1 _ _ S1 s1 (by rw [List.length_map, List.length_range, sizeLine_eq]; omega) ?_ q⟩
    rw [List.length_map, List.length_range]
    refine Walk.mono (walk_range (lo := 0) (n := j.toNat)) (fun _ _ => trivial) fun i H x H' hi hG y => ?_
    obtain ⟨rfl, rfl⟩ := y
    have z : (0 : Int) + (i : Int) = i := Int.zero_add _
    exact ⟨.int (i : Nat), by rw [List.getElem?_map, List.getElem?_range hi]; rfl, .inl ⟨rfl, by show Is X.K F1 (.int (0 + (i : Int))) (.int (i : Int)); rw [z]; exact .int _⟩⟩, x⟩
/-- zip(xs, ys): two lists or two tuples -/
def zipD : List PyData → List PyData → List PyData
  | x :: xs, y :: ys => .tuple [x, y] :: zipD xs ys
  | _, _ => []
theorem zipD_length : ∀ xs ys : List PyData, (zipD xs ys).length = min xs.length ys.length
  | x :: xs, y :: ys => by simp [zipD, zipD_length xs ys]
  | [], _ => by simp [zipD]
  | _ :: _, [] => by simp [zipD]
theorem zipD_get : ∀ {xs ys : List PyData} {i : Nat} {x y : PyData}, xs[i]? = some x → ys[i]? = some y → (zipD xs ys)[i]? = some (.tuple [x, y])
  | [], _, _, _, _, h, _ => by simp at h
  | _ :: _, [], _, _, _, _, h => by simp at h
  | a :: xs, b :: ys, 0, x, y, h1, h2 => by simp at h1 h2; subst h1 h2; simp [zipD]
  | a :: xs, b :: ys, i + 1, x, y, h1, h2 => by
    simp only [zipD, List.getElem?_cons_succ]
    exact zipD_get (by simpa using h1) (by simpa using h2)
theorem walk_pair {K : PySem.W.Frag} {F : Hp} {J : It} {n : Nat} {G : Hp → Prop} {f g : Nat → Option V} {ds : List PyData} (w : Walk J n G (YPair f g)) (hG : ∀ H, Same F H → G H)
    (h : ∀ i x y, f i = some x → g i = some y → ∃ dx dy, Is K F x dx ∧ Is K F y dy ∧ ds[i]? = some (.tuple [dx, dy])) : Walk J n (fun H => Same F H) (YD K F ds) :=
  Walk.mono w hG fun i H x H' hi hH y => by
    obtain ⟨T, u, v, h1, h2, h3, h4, h5⟩ := y
    obtain ⟨dx, dy, i1, i2, e⟩ := h i u v h4 h5
    exact ⟨_, e, .inr ⟨T, u, v, dx, dy, h1, h2, h3, i1, i2, rfl⟩⟩
theorem walk_zipTt {K : PySem.W.Frag} {a b : Addr} {xs ys : List V} {n : Nat} (hn : n = min xs.length ys.length) : Walk (RZ.ItzT K a b) n (fun H => SqT K H a xs ∧ SqT K H b ys) (YPair (fun i => xs[i]?) (fun i => ys[i]?)) := by
  subst hn
  refine ⟨fun i _ hi q => ?_, fun _ q => ⟨xs, ys, q.1, q.2, by omega⟩, fun i H v H' _ q y => ?_⟩
  · have h1 : i < xs.length := by omega
    have h2 : i < ys.length := by omega
    exact ⟨xs, ys, xs[i], ys[i], q.1, q.2, by simp [h1], by simp [h2]⟩
  · obtain ⟨T, x, z, h1, h2, h3, h4, h5⟩ := y
    exact ⟨T, x, z, h1, h2, h3, h4 xs q.1, h5 ys q.2⟩
def iZ (fs : DL') : DL' := fun ρ Q E => fs ρ (fun ds => match ds with | [.list xs, .list ys] => Q (zipD xs ys) | [.tuple xs, .tuple ys] => Q (zipD xs ys) | _ => False) E
variable {e2 : Expr} {p tpos : Pos} {elts : List Expr} {kk : Nat}
theorem pi_zipD (hm : X.mg "zip" = none) (ha : PA X [e, e2] (tS X.K W fs)) (hg : Gl X "zip" := by rfl)
    (hs : starEach [e, e2] X.env = (false, eval e X.env) :: starEach [e2] X.env := by rfl) (hpl : (backTo pos (starEach [e2] X.env)).any (·.1) = false := by rfl) :
    PI X (.Tuple elts kk tpos) (.Call (.Name "zip" p) [e, e2] [] pos) (tI X.K W (iZ fs)) :=
  PI.weak (RZ.pi_zipA hg hm ha hs hpl) fun σ H R ⟨C, F, ρ, Qd, Ed, S, h, k, x⟩ => ⟨C, F, ρ, _, Ed, S, h, fun F1 H1 vs ds S1 s1 i1 q => by
    split at q
    · rename_i xs ys
      cases i1 with | cons a t => cases t with | cons b t => cases t; cases a with | lst e1 z1 t1 => cases b with | lst e2 z2 t2 =>
        refine ⟨_, _, _, _, rfl, .inl ⟨.of (S1.le _ _ e1), .of (S1.le _ _ e2), k F1 H1 _ _ S1 s1 ?_ ?_ q⟩⟩
        · rw [zipD_length, ← t1.length]; omega
        · rw [zipD_length, ← t1.length, ← t2.length]
          refine walk_pair (walk_zip rfl) (fun H hH => ⟨.of (hH _ _ e1), .of (hH _ _ e2)⟩) fun i u v h1 h2 => ?_
          obtain ⟨dx, g1, i1⟩ := t1.get h1
          obtain ⟨dy, g2, i2⟩ := t2.get h2
          exact ⟨dx, dy, i1, i2, zipD_get g1 g2⟩
    · rename_i xs ys
      cases i1 with | cons a t => cases t with | cons b t => cases t; cases a with | tup e1 z1 t1 => cases b with | tup e2 z2 t2 =>
        refine ⟨_, _, _, _, rfl, .inr ⟨sqT_mono S1.le e1, sqT_mono S1.le e2, k F1 H1 _ _ S1 s1 ?_ ?_ q⟩⟩
        · rw [zipD_length, ← t1.length]; omega
        · rw [zipD_length, ← t1.length, ← t2.length]
          refine walk_pair (walk_zipTt rfl) (fun H hH => ⟨sqT_mono hH e1, sqT_mono hH e2⟩) fun i u v h1 h2 => ?_
          obtain ⟨dx, g1, i1⟩ := t1.get h1
          obtain ⟨dy, g2, i2⟩ := t2.get h2
          exact ⟨dx, dy, i1, i2, zipD_get g1 g2⟩
    · exact q.elim, x⟩
/-- enumerate(xs), a list -/
def enumD : Nat → List PyData → List PyData
  | _, [] => []
  | n, x :: xs => .tuple [.int (n : Nat), x] :: enumD (n + 1) xs
theorem enumD_length : ∀ (n : Nat) (xs : List PyData), (enumD n xs).length = xs.length
  | _, [] => rfl
  | n, x :: xs => by simp [enumD, enumD_length (n + 1) xs]
theorem enumD_get : ∀ {n : Nat} {xs : List PyData} {i : Nat} {x : PyData}, xs[i]? = some x → (enumD n xs)[i]? = some (.tuple [.int ((n + i : Nat) : Int), x])
  | n, [], _, _, h => by simp at h
  | n, y :: ys, 0, x, h => by simp at h; subst h; simp [enumD]
  | n, y :: ys, i + 1, x, h => by
    simp only [enumD, List.getElem?_cons_succ]
    rw [enumD_get (n := n + 1) (xs := ys) (i := i) (x := x) (by simpa using h)]
    rw [show n + 1 + i = n + (i + 1) by omega]
def iEn (fs : DL') : DL' := fun ρ Q E => fs ρ (fun ds => match ds with | [.list xs] => Q (enumD 0 xs) | _ => False) E
theorem pi_enumD (hm : X.mg "enumerate" = none) (ha : PA X [e] (tS X.K W fs)) (hg : Gl X "enumerate" := by rfl) (hs : starEach [e] X.env = [(false, eval e X.env)] := by rfl) :
    PI X (.Tuple elts kk tpos) (.Call (.Name "enumerate" p) [e] [] pos) (tI X.K W (iEn fs)) :=
  PI.weak (pi_enum hg hm ha hs) fun σ H R ⟨C, F, ρ, Qd, Ed, S, h, k, x⟩ => ⟨C, F, ρ, _, Ed, S, h, fun F1 H1 vs ds S1 s1 i1 q => by
    split at q
    · rename_i xs
      cases i1 with | cons a t => cases t; cases a with | lst e1 z1 t1 =>
        refine ⟨_, _, rfl, .of (S1.le _ _ e1), k F1 H1 _ _ S1 s1 ?_ ?_ q⟩
        · rw [enumD_length, ← t1.length]; exact z1
        · rw [enumD_length, ← t1.length]
          refine walk_pair walk_enum (fun H hH => .of (hH _ _ e1)) fun i u v h1 h2 => ?_
          obtain ⟨dy, g2, i2⟩ := t1.get h2
          cases h1
          exact ⟨_, dy, .int _, i2, by rw [enumD_get g2]; simp⟩
    · exact q.elim, x⟩

/-! ### targets -/
def wipeD (ρ : DEnv) : List Nat → DEnv
  | [] => ρ
  | v :: vs => put (wipeD ρ vs) v .undef
theorem wipeD_length (ρ : DEnv) : ∀ vs, (wipeD ρ vs).length = ρ.length
  | [] => rfl
  | v :: vs => by rw [wipeD, put_length, wipeD_length ρ vs]
theorem look_wipeD (ρ : DEnv) (j : Nat) : ∀ vs, look (wipeD ρ vs) j = if j ∈ vs then .undef else look ρ j
  | [] => by simp [wipeD]
  | v :: vs => by
    rw [wipeD, look_put, look_wipeD ρ j vs, wipeD_length]
    by_cases e : v = j
    · subst e
      by_cases hl : v < ρ.length
      · rw [if_pos ⟨rfl, hl⟩, if_pos (by simp)]
      · rw [if_neg (fun z => hl z.2), if_pos (by simp : v ∈ v :: vs), look_out ρ v (by omega)]
        split <;> rfl
    · rw [if_neg (fun z => e z.1)]
      have : (j ∈ v :: vs) ↔ j ∈ vs := by simp [Ne.symm e]
      simp only [this]
theorem look_ext : ∀ {ρ ρ' : DEnv}, ρ.length = ρ'.length → (∀ i, look ρ i = look ρ' i) → ρ = ρ'
  | [], [], _, _ => rfl
  | [], _ :: _, h, _ => by simp at h
  | _ :: _, [], h, _ => by simp at h
  | a :: r, b :: r', h, k => by
    have e : a = b := k 0
    rw [e, look_ext (ρ := r) (ρ' := r') (by simpa using h) fun i => k (i + 1)]
theorem wipeD_put {ρ : DEnv} {i : Nat} {t : DSlot} {vs : List Nat} (h : i ∈ vs) : wipeD (put ρ i t) vs = wipeD ρ vs := by
  refine look_ext (by rw [wipeD_length, wipeD_length, put_length]) fun j => ?_
  rw [look_wipeD, look_wipeD, look_put]
  by_cases hj : j ∈ vs
  · rw [if_pos hj, if_pos hj]
  · rw [if_neg hj, if_neg hj, if_neg (show ¬ (i = j ∧ i < ρ.length) from fun z => hj (z.1 ▸ h))]

abbrev DG := PyData → DEnv → (DEnv → Prop) → Prop
abbrev DGs := List PyData → DEnv → (DEnv → Prop) → Prop
def tGD (K : PySem.W.Frag) (vs : List Nat) (g : DG) : TG := fun v σ H Q => ∃ C F ρ d Qd, Sd K C F H σ ρ ∧ Is K F v d ∧ g d ρ Qd ∧ ∀ σ' ρ', Sd K C F H σ' ρ' → wipe σ' vs = wipe σ vs → wipeD ρ' vs = wipeD ρ vs → Qd ρ' → Q σ' H
def tGDs (K : PySem.W.Frag) (vs : List Nat) (g : DGs) : TGs := fun us σ H Q => ∃ C F ρ ds Qd, Sd K C F H σ ρ ∧ IsAll K F us ds ∧ g ds ρ Qd ∧ ∀ σ' ρ', Sd K C F H σ' ρ' → wipe σ' vs = wipe σ vs → wipeD ρ' vs = wipeD ρ vs → Qd ρ' → Q σ' H
theorem PG.weak {t t' : TG} (h : PG X tg t) (k : ∀ v σ H Q, t' v σ H Q → t v σ H Q) : PG X tg t' := ⟨fun pins s σ H v u Q I r q => h.run pins s σ H v u Q I r (k v σ H Q q)⟩
theorem PGs.weak {ts : List Expr} {t t' : TGs} (h : PGs X ts t) (k : ∀ v σ H Q, t' v σ H Q → t v σ H Q) : PGs X ts t' := ⟨fun pins s σ H vs us Q I r q => h.run pins s σ H vs us Q I r (k vs σ H Q q)⟩
theorem wipe_set {σ : L2.St} {i : Nat} {o : Option V} : ∀ {vs : List Nat}, i ∈ vs → wipe (σ.set i o) vs = wipe σ vs := by
  intro vs h
  apply List.ext_getElem?
  intro j
  have get : ∀ (τ : L2.St) (ws : List Nat), (wipe τ ws)[j]? = if j ∈ ws ∧ j < τ.length then some none else τ[j]? := by
    intro τ ws
    induction ws with
    | nil => simp [wipe]
    | cons w ws ih =>
      unfold wipe
      by_cases e : w = j
      · subst e
        by_cases hl : w < τ.length
        · rw [List.getElem?_set_self (by rw [wipe_length]; exact hl), if_pos ⟨by simp, hl⟩]
        · rw [List.getElem?_eq_none (by rw [List.length_set, wipe_length]; omega), if_neg (fun z => hl z.2), List.getElem?_eq_none (by omega)]
      · rw [List.getElem?_set_ne e, ih]
        have : (j ∈ w :: ws) ↔ j ∈ ws := by simp [Ne.symm e]
        simp only [this]
  rw [get, get, List.length_set]
  by_cases hj : j ∈ vs ∧ j < σ.length
  · rw [if_pos hj, if_pos hj]
  · rw [if_neg hj, if_neg hj]
    by_cases e : i = j
    · subst e
      rw [List.getElem?_eq_none (by rw [List.length_set]; exact Nat.le_of_not_lt fun z => hj ⟨h, z⟩), List.getElem?_eq_none (Nat.le_of_not_lt fun z => hj ⟨h, z⟩)]
    · rw [List.getElem?_set_ne e]
/-- a name, slot i -/
def gN (i : Nat) : DG := fun d ρ Q => i < ρ.length ∧ Q (put ρ i (.data d))
theorem pg_nameD (vs : List Nat) (i : Nat) {x : Str} {pos : Pos} (hN : X.N.Nodup) (hi : X.N[i]? = some x := by rfl) (hx : Loc X.env.scope x := by first | exact Or.inl rfl | exact Or.inr rfl) (hv : i ∈ vs := by decide)
    (hf : X.fn x = true ∨ X.env.scope.names.lookup x = some .local := by first | exact .inl rfl | exact .inr rfl | assumption) : PG X (.Name x pos) (tGD X.K vs (gN i)) :=
  PG.weak (pg_name hN hi hx hf) fun v σ H Q ⟨C, F, ρ, d, Qd, S, h, q, k⟩ => k _ _ (S.storeD (by rw [← S.len]; exact q.1) h) (wipe_set hv) (wipeD_put hv) q.2
def gsNil : DGs := fun ds ρ Q => ds = [] ∧ Q ρ
def gsCons (g : DG) (h : DGs) : DGs := fun ds ρ Q => match ds with | d :: r => g d ρ (fun ρ' => h r ρ' Q) | [] => False
theorem pgs_nilD {vs : List Nat} : PGs X [] (tGDs X.K vs gsNil) := PGs.weak pgs_nil fun v σ H Q ⟨C, F, ρ, ds, Qd, S, h, q, k⟩ => by
  obtain ⟨rfl, q⟩ := q
  cases h
  exact ⟨rfl, k σ ρ S rfl rfl q⟩
theorem pgs_consD {vs : List Nat} {g : DG} {h : DGs} {ts : List Expr} (h1 : PG X e (tGD X.K vs g)) (h2 : PGs X ts (tGDs X.K vs h)) (hs : (assignEach (e :: ts) X.env).map (·.2) = assign e X.env :: (assignEach ts X.env).map (·.2) := by rfl) :
    PGs X (e :: ts) (tGDs X.K vs (gsCons g h)) := PGs.weak (pgs_cons h1 h2 hs) fun v σ H Q ⟨C, F, ρ, ds, Qd, S, h, q, k⟩ => by
  cases ds with
  | nil => exact q.elim
  | cons d r =>
    cases h with
    | cons a t => exact ⟨_, _, rfl, C, F, ρ, d, _, S, a, q, fun σ1 ρ1 S1 w1 y1 q1 => ⟨C, F, ρ1, r, Qd, S1, t, q1, fun σ2 ρ2 S2 w2 y2 q2 => k σ2 ρ2 S2 (w2.trans w1) (y2.trans y1) q2⟩⟩
def gT (n : Nat) (gs : DGs) : DG := fun d ρ Q => match d with | .tuple ds => ds.length = n ∧ gs ds ρ Q | _ => False
theorem pg_tupD {vs : List Nat} {gs : DGs} {ts : List Expr} {n k : Nat} (hc : X.calm = true) (h : PGs X ts (tGDs X.K vs gs)) (hn : (assignEach ts X.env).length = n := by rfl) (hst : (assignEach ts X.env).findIdx? (·.1) = none := by rfl) :
    PG X (.Tuple ts k pos) (tGD X.K vs (gT n gs)) := PG.weak (pg_tup hc h hn hst) fun v σ H Q ⟨C, F, ρ, d, Qd, S, h, q, k⟩ => by
  unfold gT at q
  split at q
  · rename_i ds
    cases h with
    | tup e z t => exact ⟨_, _, rfl, sqT_mono S.le e, by rw [t.length]; exact q.1, C, F, ρ, ds, Qd, S, t, q.2, k⟩
  · exact q.elim

/-! ### list comprehensions -/
theorem val_wipe (σ : L2.St) (j : Nat) : ∀ vs : List Nat, val (wipe σ vs) j = if j ∈ vs then none else val σ j := by
  intro vs
  induction vs with
  | nil => simp [wipe]
  | cons v vs ih =>
    unfold wipe
    by_cases e : v = j
    · subst e
      rw [if_pos (by simp)]
      unfold val
      by_cases hl : v < (wipe σ vs).length
      · rw [List.getElem?_set_self hl]; rfl
      · rw [List.getElem?_eq_none (by simpa using hl)]; rfl
    · have : (j ∈ v :: vs) ↔ j ∈ vs := by simp [Ne.symm e]
      simp only [this]
      rw [← ih]
      unfold val
      rw [List.getElem?_set_ne e]
def plainS : DSlot → Bool
  | .data _ => true
  | .undef => true
  | _ => false
section
variable {K : PySem.W.Frag} {C : Ctx} {F F' H H' : Hp} {σ : L2.St} {ρ : DEnv} {vs : List Nat}
theorem Sd.wiped (S : Sd K C F H σ ρ) : Sd K C F H (wipe σ vs) (wipeD ρ vs) := by
  refine ⟨S.le0, S.le, S.frame, S.still, S.bag, by rw [wipeD_length, wipe_length]; exact S.len, fun i => ?_, fun i a q => ?_, fun i j a q1 q2 => ?_⟩
  · rw [val_wipe, look_wipeD]
    by_cases h : i ∈ vs
    · rw [if_pos h, if_pos h]; trivial
    · rw [if_neg h, if_neg h]; exact S.ok i
  · rw [val_wipe, look_wipeD] at q
    by_cases h : i ∈ vs
    · rw [if_pos h] at q; cases q.1
    · rw [if_neg h, if_neg h] at q; exact S.own i a q
  · rw [val_wipe, look_wipeD] at q1 q2
    by_cases h : i ∈ vs
    · rw [if_pos h] at q1; cases q1.1
    · by_cases h' : j ∈ vs
      · rw [if_pos h'] at q2; cases q2.1
      · rw [if_neg h, if_neg h] at q1; rw [if_neg h', if_neg h'] at q2; exact S.dj i j a q1 q2
theorem Sd.unwipe (S0 : Sd K C F H σ ρ) (pl : (vs.all fun i => plainS (look ρ i)) = true) (s : Same F F') (S : Sd K C F' H' (wipe σ vs) (wipeD ρ vs)) : Sd K C F' H' σ ρ := by
  have pv : ∀ i, i ∈ vs → plainS (look ρ i) = true := fun i hi => List.all_eq_true.mp pl i hi
  have nown : ∀ i a, i ∈ vs → ¬ Owns (val σ i) (look ρ i) a := fun i a hi ⟨_, q⟩ => by
    have := pv i hi
    rcases q with ⟨_, e⟩ | ⟨_, e⟩ <;> (rw [e] at this; cases this)
  refine ⟨S.le0, S.le, S.frame, S.still, S.bag, S0.len, fun i => ?_, fun i a q => ?_, fun i j a q1 q2 => ?_⟩
  · by_cases h : i ∈ vs
    · have q := S0.ok i
      have p := pv i h
      cases e : look ρ i with
      | undef => trivial
      | data d => rw [e] at q; obtain ⟨u, h1, h2⟩ := q; exact ⟨u, h1, h2.up s⟩
      | ownL _ => rw [e] at p; cases p
      | ownD _ => rw [e] at p; cases p
      | bag => rw [e] at p; cases p
    · have q := S.ok i
      rw [val_wipe, look_wipeD, if_neg h, if_neg h] at q
      exact q
  · by_cases h : i ∈ vs
    · exact absurd q (nown i a h)
    · refine S.own i a ?_
      rw [val_wipe, look_wipeD, if_neg h, if_neg h]; exact q
  · by_cases h : i ∈ vs
    · exact absurd q1 (nown i a h)
    · by_cases h' : j ∈ vs
      · exact absurd q2 (nown j a h')
      · refine S.dj i j a ?_ ?_
        · rw [val_wipe, look_wipeD, if_neg h, if_neg h]; exact q1
        · rw [val_wipe, look_wipeD, if_neg h', if_neg h']; exact q2
/-- what lies apart stays apart -/
theorem Apart.keep {p : Addr} {o : HO} (ap : Apart C F H σ ρ p) (hp : H p = some o) (hf : F' p = none) : Apart C F' H' σ ρ p := ⟨hf, ap.h0, ap.bg, ap.no⟩
end
end
end DL
set_option Elab.async false
set_option linter.all false
set_option maxRecDepth 100000
set_option maxHeartbeats 4000000
/-! DL, the data layer (5): comprehensions, statements, defs -/
namespace DL
open PySem PySem.Spec PyProof.Rows L2
def W0 : WX := fun _ _ _ _ => False
def lcD (g : DG) (t : DT) (fe : DE) (ρw : DEnv) : List PyData → List PyData → (List PyData → Prop) → Prop
  | [], acc, Q => Q acc
  | d :: ds, acc, Q => g d ρw fun ρ2 => t ρ2 (fun b => if b = true then fe ρ2 (fun y => lcD g t fe ρw ds (acc ++ [y]) Q) (fun _ => False) else lcD g t fe ρw ds acc Q) (fun _ => False)
/-- [elt for target in iter if test] -/
def dLc (fi : DL') (g : DG) (t : DT) (fe : DE) (vs : List Nat) : DL' := fun ρ Q E => (vs.all fun i => plainS (look ρ i)) = true ∧ fi ρ (fun ds => lcD g t fe (wipeD ρ vs) ds [] Q) E
def dYes : DT := fun _ Q _ => Q true
theorem exits0 {K : PySem.W.Frag} {C : Ctx} {σ : L2.St} {ρ : DEnv} : Exits K W0 C σ ρ fun _ => False := fun _ _ _ _ _ _ _ z => z.elim
theorem wipe_wipe (σ : L2.St) (vs : List Nat) : wipe (wipe σ vs) vs = wipe σ vs := by
  have all : ∀ (τ : L2.St) (ws : List Nat) (j : Nat), (wipe τ ws)[j]? = if j ∈ ws ∧ j < τ.length then some none else τ[j]? := by
    intro τ ws j
    induction ws with
    | nil => simp [wipe]
    | cons w ws ih =>
      unfold wipe
      by_cases e : w = j
      · subst e
        by_cases hl : w < τ.length
        · rw [List.getElem?_set_self (by rw [wipe_length]; exact hl), if_pos ⟨by simp, hl⟩]
        · rw [List.getElem?_eq_none (by rw [List.length_set, wipe_length]; omega), if_neg (fun z => hl z.2), List.getElem?_eq_none (by omega)]
      · rw [List.getElem?_set_ne e, ih]
        have : (j ∈ w :: ws) ↔ j ∈ ws := by simp [Ne.symm e]
        simp only [this]
  apply List.ext_getElem?
  intro j
  rw [all, all, wipe_length]
  split <;> rfl
theorem wipeD_wipeD (ρ : DEnv) (vs : List Nat) : wipeD (wipeD ρ vs) vs = wipeD ρ vs := by
  refine look_ext (by rw [wipeD_length]) fun j => ?_
  rw [look_wipeD, look_wipeD]
  split <;> rfl
section
variable {X : Cx} {W : WX} {pos : Pos} {e elt tg iter : Expr} {ifs : List Expr} {scope : Scope} {own : List (Str × Nat)} {fi : DL'} {g : DG} {t : DT} {fe : DE}
theorem PTs.weak {t t' : TT} (h : PTs X ifs t) (k : ∀ σ H Q, t' σ H Q → t σ H Q) : PTs X ifs t' := ⟨fun pins s σ H Q I q => h.run pins s σ H Q I (k σ H Q q)⟩
theorem pts_nilD : PTs X [] (tT X.K W dYes) := PTs.weak pts_nil fun σ H Q ⟨C, F, ρ, Qd, Ed, S, h, k, _⟩ => k F H true S (Same.refl _) h
theorem pts_oneD {c : Expr} (h : PT X c (tT X.K W t)) : PTs X [c] (tT X.K W t) := pts_one h
theorem lc_read : ∀ σ H Q, tF X.K W (dLc fi g t fe (own.map (·.2))) σ H Q → tLc (tI X.K W fi) (tGD X.K (own.map (·.2)) g) (tT X.K W0 t) (tD X.K W0 fe) (own.map (·.2)) σ H Q := by
  intro σ H Q ⟨C, F, ρ, Qd, Ed, S, ⟨pl, h⟩, k, x⟩
  generalize own.map (·.2) = vs at *
  refine ⟨C, F, ρ, _, Ed, S, h, fun F1 H1 J ds S1 s1 hz hw q => fun D hD => ?_, x⟩
  refine lc_it hw (fun i H => ∃ F2 acc accd, Sd X.K C F2 H σ ρ ∧ Same F1 F2 ∧ Apart C F2 H σ ρ D ∧ H D = some (.lst acc) ∧ acc.length ≤ i ∧ IsAll X.K F2 acc accd ∧ lcD g t fe (wipeD ρ vs) (ds.drop i) accd Qd) ?_ ?_ ?_ ?_
  · have ap := S1.new hD
    exact ⟨F1, [], [], S1.fresh hD, Same.refl _, ⟨ap.f, ap.h0, ap.bg, ap.no⟩, upd_same, Nat.le_refl _, .nil, q⟩
  · intro i H _ ⟨F2, acc, accd, S2, s2, _⟩
    exact s2.trans S2.le
  · intro i v H H' hi ⟨F2, acc, accd, S2, s2, ap, hDa, hac, ia, q⟩ ⟨d, hd, y⟩
    -- what is yielded becomes still
    obtain ⟨F3, S3, s3, iv, n3, hD3⟩ : ∃ F3, Sd X.K C F3 H' σ ρ ∧ Same F2 F3 ∧ Is X.K F3 v d ∧ F3 D = none ∧ H' D = some (.lst acc) := by
      rcases y with ⟨rfl, iv⟩ | ⟨T, a, b, da, db, rfl, hT, rfl, ia', ib', rfl⟩
      · exact ⟨F2, S2, Same.refl _, iv.up s2, ap.f, hDa⟩
      · have hne : D ≠ T := ne_of_none hDa hT
        have fs : Same F2 (upd F2 T (.tup [a, b])) := fun c u e => by rw [upd_ne (ne_of_none e (S2.le.free hT))]; exact e
        exact ⟨_, S2.laid hT, fs, .tup (.of upd_same) (by show 2 ≤ sizeLine; decide) (.cons (ia'.up (s2.trans fs)) (.cons (ib'.up (s2.trans fs)) .nil)), by rw [upd_ne hne]; exact ap.f, by rw [upd_ne hne]; exact hDa⟩
    have ap3 : Apart C F3 H' σ ρ D := ⟨n3, ap.h0, ap.bg, ap.no⟩
    have hdrop : ds.drop i = d :: ds.drop (i + 1) := by
      rw [List.drop_eq_getElem_cons hi]
      congr 1
      rw [List.getElem?_eq_getElem hi] at hd
      exact Option.some.inj hd
    rw [hdrop] at q
    have N3 := S3.nest
    -- behind the block all stands again
    have back : ∀ {F5 H5 : Hp} {σ2 : L2.St} {ρ2 : DEnv}, wipe σ2 vs = wipe (wipe σ vs) vs → wipeD ρ2 vs = wipeD (wipeD ρ vs) vs → Sd X.K ⟨H', F3, C.bg, false⟩ F5 H5 σ2 ρ2 →
        Sd X.K C F5 H5 σ ρ ∧ Same F3 F5 ∧ F5 D = none ∧ H5 D = some (.lst acc) := by
      intro F5 H5 σ2 ρ2 e1 e2 S5
      have S6 : Sd X.K ⟨H', F3, C.bg, false⟩ F5 H5 (wipe σ vs) (wipeD ρ vs) := by
        have := S5.wiped (vs := vs)
        rw [e1, e2, wipe_wipe, wipeD_wipeD] at this
        exact this
      have S7 := N3.unwipe pl S6.le0 S6
      exact ⟨S3.unnest S7, S7.le0, S7.still D (by show H' D ≠ none; rw [hD3]; simp) n3, S7.frame D _ hD3 ap3.bg⟩
    refine ⟨⟨H', F3, C.bg, false⟩, F3, wipeD ρ vs, d, _, N3.wiped, iv, q, fun σ2 ρ2 S4 w4 y4 q4 => ⟨w4.trans (wipe_wipe σ vs), ⟨H', F3, C.bg, false⟩, F3, ρ2, _, _, S4, q4, fun F5 H5 b S5 s5 q5 => ?_, exits0⟩⟩
    cases b with
    | false =>
      refine iteF ?_
      obtain ⟨S7, s7, n7, h7⟩ := back w4 y4 S5
      exact ⟨F5, acc, accd, S7, s2.trans (s3.trans s7), ⟨n7, ap.h0, ap.bg, ap.no⟩, h7, by omega, ia.up (s3.trans s7), by simpa using q5⟩
    | true =>
      refine iteT ⟨⟨H', F3, C.bg, false⟩, F5, ρ2, _, _, S5, (by simpa using q5), fun F6 H6 w z S6 s6 i6 q6 => ?_, exits0⟩
      obtain ⟨S7, s7, n7, h7⟩ := back w4 y4 S6
      have ap7 : Apart C F6 H6 σ ρ D := ⟨n7, ap.h0, ap.bg, ap.no⟩
      have lt : acc.length < sizeLine := by omega
      exact ⟨acc, h7, lt, F6, acc ++ [w], accd ++ [z], S7.write ap7, s2.trans (s3.trans s7), ⟨n7, ap.h0, ap.bg, ap.no⟩, upd_same, by rw [List.length_append]; show acc.length + 1 ≤ i + 1; omega, (ia.up (s3.trans s7)).append (.cons i6 .nil), q6⟩
  · intro H ⟨F2, acc, accd, S2, s2, ap, hDa, hac, ia, q⟩
    rw [List.drop_length] at q
    exact k F2 H D acc accd S2 (s1.trans s2) ap hDa (by omega) ia q
/-- [elt for target in iter if ..], new -/
theorem pf_lc (hc : X.calm = true) (hN : X.N.Nodup) (ok : BlkOk X.N X.env.scope scope own) (hi : PI X tg iter (tI X.K W fi))
    (hg : ∀ (s : Shared) (H : Hp) (C : Addr) (cl : List (Str × Addr)) (fp : List Addr), PG (X.blk s H scope (compEnvC scope cl C X.env) fp) tg (tGD X.K (own.map (·.2)) g)) (ht : ∀ (s : Shared) (H : Hp) (C : Addr) (cl : List (Str × Addr)) (fp : List Addr), PTs (X.blk s H scope (compEnvC scope cl C X.env) fp) ifs (tT X.K W0 t))
    (he : ∀ (s : Shared) (H : Hp) (C : Addr) (cl : List (Str × Addr)) (fp : List Addr), PE (X.blk s H scope (compEnvC scope cl C X.env) fp) elt (tD X.K W0 fe)) (hs : ∀ x, foldedSetIterable iter X.env x = pure x := by intro _; rfl) :
    PE X (.ListComp elt [⟨tg, iter, ifs, 0⟩] scope pos) (tF X.K W (dLc fi g t fe (own.map (·.2)))) := PE.weak (pe_lc hc hN hi ok hg ht he hs) lc_read

/-! ### statements -/
structure DEnds where
  nx : DEnv → Prop
  rt : PyData → Prop
  bk : DEnv → Prop := fun _ => False
  ct : DEnv → Prop := fun _ => False
  ex : ExcD → Prop := fun _ => False
abbrev DS := DEnds → DEnv → Prop
structure SEnds (K : PySem.W.Frag) (W : WX) (C : Ctx) (D : Ends) (Dd : DEnds) : Prop where
  nx : ∀ F H σ ρ, Sd K C F H σ ρ → Dd.nx ρ → D.nx σ H
  bk : ∀ F H σ ρ, Sd K C F H σ ρ → Dd.bk ρ → D.bk σ H
  ct : ∀ F H σ ρ, Sd K C F H σ ρ → Dd.ct ρ → D.ct σ H
  rt : ∀ F H σ ρ v d, Sd K C F H σ ρ → Is K F v d → Dd.rt d → D.rt v H
  ex : ∀ F H σ ρ c dd x, Sd K C F H σ ρ → ExcIs K F H c dd x → Dd.ex x → W c dd σ H
def tDS (K : PySem.W.Frag) (W : WX) (g : DS) : TS := fun D σ H => ∃ C F ρ Dd, C.mu = true ∧ Sd K C F H σ ρ ∧ g Dd ρ ∧ SEnds K W C D Dd
theorem SEnds.exits {K : PySem.W.Frag} {C : Ctx} {D : Ends} {Dd : DEnds} {σ : L2.St} {ρ : DEnv} (s : SEnds K W C D Dd) : Exits K W C σ ρ Dd.ex := fun F' H' c dd x S e q => s.ex F' H' σ ρ c dd x S e q
variable {st : Stmt} {sts : List Stmt} {gs hs' : DS} {f : DE}
theorem PS.weak {t t' : TS} (h : PS X st t) (k : ∀ D σ H, t' D σ H → t D σ H) : PS X st t' := ⟨fun pins s σ H D I q => h.run pins s σ H D I (k D σ H q)⟩
theorem PSs.weak {t t' : TS} (h : PSs X sts t) (k : ∀ D σ H, t' D σ H → t D σ H) : PSs X sts t' := ⟨fun pins s σ H D I q => h.run pins s σ H D I (k D σ H q)⟩
def dNext : DS := fun D ρ => D.nx ρ
def dSeq (g h : DS) : DS := fun D ρ => g { D with nx := h D } ρ
theorem ds_nil : PSs X [] (tDS X.K W dNext) := PSs.weak pss_nil fun D σ H ⟨C, F, ρ, Dd, m, S, h, E⟩ => E.nx F H σ ρ S h
theorem ds_cons (h1 : PS X st (tDS X.K W gs)) (h2 : PSs X sts (tDS X.K W hs')) : PSs X (st :: sts) (tDS X.K W (dSeq gs hs')) :=
  PSs.weak (pss_cons h1 h2) fun D σ H ⟨C, F, ρ, Dd, m, S, h, E⟩ => ⟨C, F, ρ, _, m, S, h, ⟨fun F' H' σ' ρ' S' q => ⟨C, F', ρ', Dd, m, S', q, E⟩, E.bk, E.ct, E.rt, E.ex⟩⟩
theorem ds_one (h1 : PS X st (tDS X.K W gs)) : PSs X [st] (tDS X.K W gs) := pss_one h1
theorem dpass : PS X (.Pass pos) (tDS X.K W dNext) := PS.weak ps_pass fun D σ H ⟨C, F, ρ, Dd, m, S, h, E⟩ => E.nx F H σ ρ S h
def dBreak : DS := fun D ρ => D.bk ρ
def dCont : DS := fun D ρ => D.ct ρ
theorem dbreak : PS X (.Break pos) (tDS X.K W dBreak) := PS.weak ps_break fun D σ H ⟨C, F, ρ, Dd, m, S, h, E⟩ => E.bk F H σ ρ S h
theorem dcont : PS X (.Continue pos) (tDS X.K W dCont) := PS.weak ps_continue fun D σ H ⟨C, F, ρ, Dd, m, S, h, E⟩ => E.ct F H σ ρ S h
theorem ddoc {x j pos'} : PS X (.Expr (.Constant (.str x) j pos) pos') (tDS X.K W dNext) := PS.weak ps_doc fun D σ H ⟨C, F, ρ, Dd, m, S, h, E⟩ => E.nx F H σ ρ S h
def dNever : DS := fun _ _ => False
theorem dnever : PS X st (tDS X.K W dNever) := PS.weak ps_never fun D σ H ⟨C, F, ρ, Dd, m, S, h, E⟩ => h.elim
theorem dnevers : PSs X sts (tDS X.K W dNever) := PSs.weak pss_never fun D σ H ⟨C, F, ρ, Dd, m, S, h, E⟩ => h.elim
def dRet (f : DE) : DS := fun D ρ => f ρ D.rt D.ex
theorem dret (h : PE X e (tD X.K W f)) : PS X (.Return (some e) pos) (tDS X.K W (dRet f)) := PS.weak (ps_ret h) fun D σ H ⟨C, F, ρ, Dd, m, S, h, E⟩ =>
  ⟨C, F, ρ, Dd.rt, Dd.ex, S, h, fun F' H' v d S' s' i q => E.rt F' H' σ ρ v d S' i q, E.exits⟩
def dRetN : DS := fun D _ => D.rt .none
theorem dretN : PS X (.Return none pos) (tDS X.K W dRetN) := PS.weak ps_retN fun D σ H ⟨C, F, ρ, Dd, m, S, h, E⟩ => E.rt F H σ ρ _ _ S .non h
def dDrop (f : DE) : DS := fun D ρ => f ρ (fun _ => D.nx ρ) D.ex
theorem dexpr (h : PE X e (tD X.K W f)) (hs : swapsWith e none pos.line X.env = pure false := by rfl) : PS X (.Expr e pos) (tDS X.K W (dDrop f)) := PS.weak (ps_expr h hs) fun D σ H ⟨C, F, ρ, Dd, m, S, h, E⟩ =>
  ⟨C, F, ρ, _, Dd.ex, S, h, fun F' H' v d S' s' i q => E.nx F' H' σ ρ S' q, E.exits⟩
def dIfS (t : DT) (g h : DS) : DS := fun D ρ => t ρ (fun c => if c = true then g D ρ else h D ρ) D.ex
variable {c : Expr} {sa sb : List Stmt} {ga gb : DS}
theorem difs (hc : PT X c (tT X.K W t)) (ha : PSs X sa (tDS X.K W ga)) (hb : PSs X sb (tDS X.K W gb)) : PS X (.If c sa sb pos) (tDS X.K W (dIfS t ga gb)) := PS.weak (ps_if hc ha hb) fun D σ H ⟨C, F, ρ, Dd, m, S, h, E⟩ =>
  ⟨C, F, ρ, _, Dd.ex, S, h, fun F' H' b S' s' q => by
    cases b with
    | true => exact iteT ⟨C, F', ρ, Dd, m, S', (by simpa using q), E⟩
    | false => exact iteF ⟨C, F', ρ, Dd, m, S', (by simpa using q), E⟩, E.exits⟩
/-- x = e -/
def dSet (i : Nat) (f : DE) : DS := fun D ρ => i < ρ.length ∧ f ρ (fun d => D.nx (put ρ i (.data d))) D.ex
theorem dset (i : Nat) {x : Str} {pos' : Pos} (hN : X.N.Nodup) (he : PE X e (tD X.K W f)) (hi : X.N[i]? = some x := by rfl) (hx : Loc X.env.scope x := by first | exact Or.inl rfl | exact Or.inr rfl) (hs : swapsWith e (some (.Name x pos')) pos.line X.env = pure false := by rfl)
    (hf : X.fn x = true ∨ X.env.scope.names.lookup x = some .local := by first | exact .inl rfl | exact .inr rfl) : PS X (.Assign [.Name x pos'] e pos) (tDS X.K W (dSet i f)) :=
  PS.weak (ps_set hN hi hx he hs hf) fun D σ H ⟨C, F, ρ, Dd, m, S, h, E⟩ => ⟨C, F, ρ, _, Dd.ex, S, h.2, fun F' H' v d S' s' i' q => E.nx F' H' _ _ (S'.storeD (by rw [← S.len]; exact h.1) i') q, E.exits⟩
/-- .. a list that the name alone holds -/
def dSetL (i : Nat) (f : DL') : DS := fun D ρ => i < ρ.length ∧ f ρ (fun ds => D.nx (put ρ i (.ownL ds))) D.ex
theorem Sd.storeL {K : PySem.W.Frag} {C : Ctx} {F H : Hp} {σ : L2.St} {ρ : DEnv} {i : Nat} {a : Addr} {xs : List V} {ds : List PyData} (S : Sd K C F H σ ρ) (hi : i < σ.length) (ap : Apart C F H σ ρ a) (h : H a = some (.lst xs)) (z : xs.length ≤ sizeLine) (t : IsAll K F xs ds) :
    Sd K C F H (σ.set i (some (.ref a))) (put ρ i (.ownL ds)) := S.store hi ⟨a, xs, rfl, h, z, t⟩ fun b q => by
  have e : a = b := by have := q.1; injection this with z; injection z
  subst e
  exact ⟨ap.f, fun _ => ap.h0, ap.bg, fun j _ => ap.no j⟩
theorem Sd.storeK {K : PySem.W.Frag} {C : Ctx} {F H : Hp} {σ : L2.St} {ρ : DEnv} {i : Nat} {a : Addr} {ks : List (Key × V)} {kvs : List (PyData × PyData)} (S : Sd K C F H σ ρ) (hi : i < σ.length) (ap : Apart C F H σ ρ a) (h : H a = some (.dK ks)) (z : ks.length ≤ sizeLine) (nd : (ks.map (·.1)).Nodup) (t : IsKv K F ks kvs) :
    Sd K C F H (σ.set i (some (.ref a))) (put ρ i (.ownD kvs)) := S.store hi ⟨a, ks, rfl, h, z, nd, t⟩ fun b q => by
  have e : a = b := by have := q.1; injection this with z; injection z
  subst e
  exact ⟨ap.f, fun _ => ap.h0, ap.bg, fun j _ => ap.no j⟩
variable {fl : DL'} {fk : DK}
theorem dsetL (i : Nat) {x : Str} {pos' : Pos} (hN : X.N.Nodup) (he : PE X e (tF X.K W fl)) (hi : X.N[i]? = some x := by rfl) (hx : Loc X.env.scope x := by first | exact Or.inl rfl | exact Or.inr rfl) (hs : swapsWith e (some (.Name x pos')) pos.line X.env = pure false := by rfl)
    (hf : X.fn x = true ∨ X.env.scope.names.lookup x = some .local := by first | exact .inl rfl | exact .inr rfl) : PS X (.Assign [.Name x pos'] e pos) (tDS X.K W (dSetL i fl)) :=
  PS.weak (ps_set hN hi hx he hs hf) fun D σ H ⟨C, F, ρ, Dd, m, S, h, E⟩ => ⟨C, F, ρ, _, Dd.ex, S, h.2, fun F' H' a xs ds S' s' ap e z i' q => E.nx F' H' _ _ (S'.storeL (by rw [← S.len]; exact h.1) ap e z i') q, E.exits⟩
def dSetK (i : Nat) (f : DK) : DS := fun D ρ => i < ρ.length ∧ f ρ (fun kvs => D.nx (put ρ i (.ownD kvs))) D.ex
theorem dsetK (i : Nat) {x : Str} {pos' : Pos} (hN : X.N.Nodup) (he : PE X e (tG X.K W fk)) (hi : X.N[i]? = some x := by rfl) (hx : Loc X.env.scope x := by first | exact Or.inl rfl | exact Or.inr rfl) (hs : swapsWith e (some (.Name x pos')) pos.line X.env = pure false := by rfl)
    (hf : X.fn x = true ∨ X.env.scope.names.lookup x = some .local := by first | exact .inl rfl | exact .inr rfl) : PS X (.Assign [.Name x pos'] e pos) (tDS X.K W (dSetK i fk)) :=
  PS.weak (ps_set hN hi hx he hs hf) fun D σ H ⟨C, F, ρ, Dd, m, S, h, E⟩ => ⟨C, F, ρ, _, Dd.ex, S, h.2, fun F' H' a ks kvs S' s' ap e z nd i' q => E.nx F' H' _ _ (S'.storeK (by rw [← S.len]; exact h.1) ap e z nd i') q, E.exits⟩
/-- name = [..] on one line -/
theorem dsetLc (own? : Bool) (i : Nat) {y : Str} {py spos : Pos} (hc : X.calm = true) (hN : X.N.Nodup) (ok : BlkOk X.N X.env.scope scope own) (hi : PI X tg iter (tI X.K W fi))
    (hg : ∀ (s : Shared) (H : Hp) (C : Addr) (cl : List (Str × Addr)) (fp : List Addr), PG (X.blk s H scope (compEnvC scope cl C X.env) fp) tg (tGD X.K (own.map (·.2)) g)) (ht : ∀ (s : Shared) (H : Hp) (C : Addr) (cl : List (Str × Addr)) (fp : List Addr), PTs (X.blk s H scope (compEnvC scope cl C X.env) fp) ifs (tT X.K W0 t))
    (he : ∀ (s : Shared) (H : Hp) (C : Addr) (cl : List (Str × Addr)) (fp : List Addr), PE (X.blk s H scope (compEnvC scope cl C X.env) fp) elt (tD X.K W0 fe)) (hs : ∀ x, foldedSetIterable iter X.env x = pure x := by intro _; rfl)
    (hy : X.N[i]? = some y := by rfl) (hyl : X.env.scope.names.lookup y = some .local := by rfl) (hsw : swapsWith (.ListComp elt [⟨tg, iter, ifs, 0⟩] scope pos) (some (.Name y py)) spos.line X.env = pure true := by exact sw_true rfl rfl rfl (by decide +kernel)) :
    PS X (.Assign [.Name y py] (.ListComp elt [⟨tg, iter, ifs, 0⟩] scope pos) spos) (tDS X.K W (if own? = true then dSetL i (dLc fi g t fe (own.map (·.2))) else dSet i (dFrz (dLc fi g t fe (own.map (·.2)))))) :=
  PS.weak (ps_setLc hc hN hy hyl hsw hi ok hg ht he hs) fun D σ H ⟨C, F, ρ, Dd, m, S, h, E⟩ => by
    cases own? with
    | true =>
      have h : dSetL i (dLc fi g t fe (own.map (·.2))) Dd ρ := by simpa using h
      exact lc_read σ H _ ⟨C, F, ρ, _, Dd.ex, S, h.2, fun F' H' a xs ds S' s' ap e z i' q => E.nx F' H' _ _ (S'.storeL (by rw [← S.len]; exact h.1) ap e z i') q, E.exits⟩
    | false =>
      have h : dSet i (dFrz (dLc fi g t fe (own.map (·.2)))) Dd ρ := by simpa using h
      exact lc_read σ H _ ⟨C, F, ρ, _, Dd.ex, S, h.2, fun F' H' a xs ds S' s' ap e z i' q => E.nx (upd F' a (.lst xs)) H' _ _ ((S'.freeze ap e).storeD (by rw [← S.len]; exact h.1) (.lst upd_same z (i'.up fun b u q => by rw [upd_ne (ne_of_none q ap.f)]; exact q))) q, E.exits⟩
/-- target = e -/
def dAsg (f : DE) (g : DG) : DS := fun D ρ => f ρ (fun d => g d ρ D.nx) D.ex
theorem dasg {vs : List Nat} {tg : Expr} (he : PE X e (tD X.K W f)) (hg : PG X tg (tGD X.K vs g)) (hs : swapsWithSole [tg] e pos.line X.env = pure false := by rfl) (hw : swappedStores [tg] e X.env = pure none := by rfl)
    (h1 : (assignEach [tg] X.env).map (·.2) = [assign tg X.env] := by rfl) : PS X (.Assign [tg] e pos) (tDS X.K W (dAsg f g)) :=
  PS.weak (ps_asg he hg hs hw h1) fun D σ H ⟨C, F, ρ, Dd, m, S, h, E⟩ => ⟨C, F, ρ, _, Dd.ex, S, h, fun F' H' v d S' s' i' q => ⟨C, F', ρ, d, _, S', i', q, fun σ' ρ' S2 _ _ q2 => E.nx F' H' σ' ρ' S2 q2⟩, E.exits⟩

/-! ### for -/
def forD (g : DG) (body : DS) (D : DEnds) : List PyData → DEnv → Prop
  | [], ρ => D.nx ρ
  | d :: ds, ρ => g d ρ fun ρ2 => body { D with nx := forD g body D ds, ct := forD g body D ds, bk := D.nx } ρ2
def dFor (fi : DL') (g : DG) (body : DS) : DS := fun D ρ => fi ρ (fun ds => forD g body D ds ρ) D.ex
variable {vs : List Nat} {body : List Stmt}
theorem dfor (hp : PassesOwn (model X.prog X.w) X.A X.env X.xe) (hc : X.calm = true) (hi : PI X tg iter (tI X.K W fi)) (hg : PG X tg (tGD X.K vs g)) (hb : PSs X body (tDS X.K W gs)) (hs : ∀ x, foldedSetIterable iter X.env x = pure x := by intro _; rfl) :
    PS X (.For tg iter body [] pos) (tDS X.K W (dFor fi g gs)) := PS.weak (ps_for hp hc hi hg hb hs) fun D σ H ⟨C, F, ρ, Dd, m, S, h, E⟩ =>
  ⟨C, F, ρ, _, Dd.ex, S, h, fun F1 H1 J ds S1 s1 hz hw q => by
    have E' : ∀ {F : Hp} {σ : L2.St} {H : Hp} {ρ : DEnv}, Sd X.K { C with F0 := F1 } F H σ ρ → Sd X.K C F H σ ρ := fun S => S.rebase S1.le0 S1.still
    refine for_it hw (fun i σ H => ∃ F2 ρ2, Sd X.K { C with F0 := F1 } F2 H σ ρ2 ∧ forD g gs Dd (ds.drop i) ρ2) ⟨F1, ρ, S1.toBase, q⟩ (fun i σ H _ ⟨F2, ρ2, S2, _⟩ => S2.le0.trans S2.le) ?_ ?_
    · intro i v σ H H' hi' ⟨F2, ρ2, S2, q2⟩ ⟨d, hd, y⟩
      obtain ⟨F3, S3, iv⟩ : ∃ F3, Sd X.K { C with F0 := F1 } F3 H' σ ρ2 ∧ Is X.K F3 v d := by
        rcases y with ⟨rfl, iv⟩ | ⟨T, a, b, da, db, rfl, hT, rfl, ia', ib', rfl⟩
        · exact ⟨F2, S2, iv.up S2.le0⟩
        · have fs : Same F2 (upd F2 T (.tup [a, b])) := fun c u e => by rw [upd_ne (ne_of_none e (S2.le.free hT))]; exact e
          exact ⟨_, S2.laid hT, .tup (.of upd_same) (by show 2 ≤ sizeLine; decide) (.cons (ia'.up (S2.le0.trans fs)) (.cons (ib'.up (S2.le0.trans fs)) .nil))⟩
      have hdrop : ds.drop i = d :: ds.drop (i + 1) := by
        rw [List.drop_eq_getElem_cons hi']
        congr 1
        rw [List.getElem?_eq_getElem hi'] at hd
        exact Option.some.inj hd
      rw [hdrop] at q2
      exact ⟨{ C with F0 := F1 }, F3, ρ2, d, _, S3, iv, q2, fun σ' ρ' S4 _ _ q4 => ⟨{ C with F0 := F1 }, F3, ρ', _, m, S4, q4, ⟨fun F5 H5 σ5 ρ5 S5 q5 => ⟨F5, ρ5, S5, q5⟩, fun F5 H5 σ5 ρ5 S5 q5 => E.nx F5 H5 σ5 ρ5 (E' S5) q5, fun F5 H5 σ5 ρ5 S5 q5 => ⟨F5, ρ5, S5, q5⟩,
        fun F5 H5 σ5 ρ5 v d S5 i5 q5 => E.rt F5 H5 σ5 ρ5 v d (E' S5) i5 q5, fun F5 H5 σ5 ρ5 c dd x S5 x5 q5 => E.ex F5 H5 σ5 ρ5 c dd x (E' S5) x5 q5⟩⟩⟩
    · intro σ H ⟨F2, ρ2, S2, q2⟩
      rw [List.drop_length] at q2
      exact E.nx F2 H σ ρ2 (E' S2) q2, E.exits⟩

/-! ### what a name alone holds is changed, or becomes still -/
/-- (no code) -/
def dFz (i : Nat) (g : DS) : DS := fun D ρ => match look ρ i with
  | .ownL ds => g D (put ρ i (.data (.list ds)))
  | .ownD kvs => g D (put ρ i (.data (.dict kvs)))
  | _ => g D ρ
theorem dfz (i : Nat) (h : PSs X sts (tDS X.K W gs)) : PSs X sts (tDS X.K W (dFz i gs)) := PSs.weak h fun D σ H ⟨C, F, ρ, Dd, m, S, h, E⟩ => by
  have q := S.ok i
  unfold dFz at h
  split at h
  · rename_i ds e
    rw [e] at q
    obtain ⟨a, xs, h1, h2, h3, h4⟩ := q
    have hw : Owns (val σ i) (look ρ i) a := by rw [e]; exact ⟨h1, .inl ⟨_, rfl⟩⟩
    have fn := (S.own i a hw).1
    exact ⟨C, _, _, Dd, m, S.fz m hw h2 (.lst upd_same h3 (h4.up fun b u q => by rw [upd_ne (ne_of_none q fn)]; exact q)), h, E⟩
  · rename_i kvs e
    rw [e] at q
    obtain ⟨a, ks, h1, h2, h3, h4, h5⟩ := q
    have hw : Owns (val σ i) (look ρ i) a := by rw [e]; exact ⟨h1, .inr ⟨_, rfl⟩⟩
    have fn := (S.own i a hw).1
    exact ⟨C, _, _, Dd, m, S.fz m hw h2 (.dic upd_same h3 h4 (h5.up fun b u q => by rw [upd_ne (ne_of_none q fn)]; exact q)), h, E⟩
  · exact ⟨C, F, ρ, Dd, m, S, h, E⟩
/-- x.append(e) -/
def dApp (i : Nat) (f : DE) : DS := fun D ρ => match look ρ i with
  | .ownL ds => f ρ (fun d => ds.length < sizeLine ∧ D.nx (put ρ i (.ownL (ds ++ [d])))) D.ex
  | _ => False
theorem dapp' (i : Nat) {o : Expr} {apos cpos : Pos} (ho : PE X o (tVar i)) (he : PE X e (tD X.K W f)) (hst : starEach (e :: []) X.env = (false, eval e X.env) :: starEach [] X.env := by rfl)
    (hbase : attributeBase o "append" X.env (eval o X.env) = eval o X.env := by rfl)
    (hfew : ((backTo cpos (starEach (e :: []) X.env)).all (fun x => !x.1) && (backToKw cpos (keywordEach [] X.env)).all (fun x => x.1.isSome)
      && decide ((e :: []).length + ([] : List Keyword).length + (if ([] : List Keyword).isEmpty then 0 else 1) < 30)) = true := by rfl)
    (hline : (apos.endLine == cpos.line) = true := by rfl) (hplain : (backTo cpos (starEach [] X.env)).any (·.1) = false := by rfl)
    (hs : swapsWith (.Call (.Attribute o "append" apos) [e] [] cpos) none pos.line X.env = pure false := by rfl) :
    PS X (.Expr (.Call (.Attribute o "append" apos) [e] [] cpos) pos) (tDS X.K W (dApp i f)) :=
  PS.weak (ps_expr (pe_bm PySem.F.plainAttrs_list PySem.F.slot_list_append PySem.F.type_list_append mt_append ho (pa_cons he pa_nil hst) hbase hfew hline hst hplain) hs) fun D σ H ⟨C, F, ρ, Dd, m, S, h, E⟩ => by
    have q := S.ok i
    unfold dApp at h
    split at h
    · rename_i ds e
      rw [e] at q
      obtain ⟨a, xs, h1, h2, h3, h4⟩ := q
      refine ⟨_, val_some h1, .inl ⟨rfl, _, .of h2⟩, C, F, ρ, _, Dd.ex, S, h, fun F' H' v d S' s' i' q' => ?_, E.exits⟩
      have q2 := S'.ok i
      rw [e] at q2
      obtain ⟨a', xs', g1, g2, g3, g4⟩ := q2
      rw [h1] at g1; cases g1
      have hw : Owns (val σ i) (look ρ i) a := by rw [e]; exact ⟨h1, .inl ⟨_, rfl⟩⟩
      have lt : xs'.length < sizeLine := by rw [g4.length]; exact q'.1
      exact ⟨a, xs', v, rfl, rfl, g2, lt, E.nx F' _ σ _ (S'.mut (t := .ownL (ds ++ [d])) m h1 hw ⟨a, xs' ++ [v], rfl, upd_same, by rw [List.length_append]; exact lt, g4.append (.cons i' .nil)⟩ ⟨rfl, .inl ⟨_, rfl⟩⟩) q'.2⟩
    · exact h.elim
end
end DL
set_option Elab.async false
set_option linter.all false
set_option maxRecDepth 100000
set_option maxHeartbeats 4000000
/-! DL, the data layer (6): defs that stand where no repr is under way; the law's end -/
namespace DL
open PySem PySem.Spec PyProof.Rows L2

/-- room for k calls, and no repr is under way -/
structure RoomG (k : Nat) (A : Around) : Prop where
  r : Room k A
  g : A.guards = some []
theorem RoomG.mono {j k : Nat} {A : Around} (h : RoomG k A) (le : j ≤ k) : RoomG j A := ⟨h.r.mono le, h.g⟩
theorem RoomG.deeper {k : Nat} {A : Around} (h : RoomG (k + 1) A) (env : PySem.Env) : RoomG k (A.deeper env) := ⟨h.r.deeper env, h.g⟩
/-- a def keeps its promise wherever no repr is under way -/
structure FnG (P : Program) (w : World) (K : PySem.W.Frag) (mg : Str → Option Value) (base : Heap) (CX : CXT) (k : Nat) (f : Addr) (fd : FuncData) (ps : List Str) (sp : Sp) : Prop where
  len : ∀ vs H Q E, sp vs H Q E → vs.length = ps.length
  run : ∀ (A : Around) (outer : List PySem.Env) (s : Shared) (H : Hp) (args : Args) (us : List Value) (vs : List V) (Q : VK) (E : XK), RoomG k A → Env0 P w K mg base A outer s H → BindsTo s fd args (ps.zip us) → Vals vs us → sp vs H Q E →
    codeAny (model P w) A (.call (.ref f) args) (CR CX outer P w H s Q E) s
section
variable {P : Program} {w : World} {K : PySem.W.Frag} {mg : Str → Option Value} {base : Heap} {CX : CXT} {k j : Nat} {f : Addr} {fd : FuncData} {ps : List Str} {sp : Sp}
theorem FnG.mono (F : FnG P w K mg base CX j f fd ps sp) (h : j ≤ k) : FnG P w K mg base CX k f fd ps sp :=
  ⟨F.len, fun A outer s H args us vs Q E hr => F.run A outer s H args us vs Q E (hr.mono h)⟩
theorem FnG.imp {sp' : Sp} (F : FnG P w K mg base CX k f fd ps sp) (h : ∀ vs H Q E, sp' vs H Q E → sp vs H Q E) : FnG P w K mg base CX k f fd ps sp' :=
  ⟨fun vs H Q E q => F.len vs H Q E (h vs H Q E q), fun A outer s H args us vs Q E hr e0 hb hv q => F.run A outer s H args us vs Q E hr e0 hb hv (h vs H Q E q)⟩
/-- by a def's body -/
theorem fn_g {name qual : Str} {params : Arguments} {body : List Stmt} {scope : Scope} {dV kV doc pm cdv ct oc : Value} {an od : Option Addr} {osl : Array (Option Value)} {N : List Str}
    (lk : K.lookup f = some ⟨oc, od, .func (PySem.W.fnOf name qual params body scope dV kV doc pm an cdv ct), osl⟩) (hcd : PySem.W.codeIn K cdv qual = true) (S : FnScope N ps scope) (len : ∀ vs H Q E, sp vs H Q E → vs.length = ps.length)
    (hbody : ∀ (A : Around) (outer : List PySem.Env) (s : Shared) (H : Hp) (vs : List V) (Q : VK) (E : XK), RoomG k (A.deeper (envOfC qual scope s.heap.objs.size f cdv)) → sp vs H Q E →
      ∃ t, PSs (cxOf CX P w K mg base N qual scope f cdv A outer s H E) body t ∧ t { nx := fun _ H' => Q .non H', rt := Q } (start N vs) H) :
    FnG P w K mg base CX (k + 1) f (PySem.W.fnOf name qual params body scope dV kV doc pm an cdv ct) ps sp where
  len := len
  run := by
    intro A outer s H args us vs Q E hr e0 hb rv hsp
    have old : ∀ b o, base.get? b = some o → s.heap.get? b = some o := fun b o e => (e0.bs b o e).1
    have KX : K.In s.heap := e0.mod.kin.keeps old
    have par : ∀ y ∈ ps.zip us, scope.names.lookup y.1 = some .local ∨ (scope.names.lookup y.1 = some .cell ∧ ((cellsFrom (s.heap.objs.size + 1) scope.names []).lookup y.1).isSome = true) := by
      rintro ⟨n, v⟩ hy
      cases S.par n (List.of_mem_zip hy).1 with
      | inl q => exact .inl q
      | inr q => exact .inr ⟨q, PySem.W.cellsFrom_some _ _ _ (.inl q)⟩
    refine codeAny_call_function hr.r.depth (KX _ _ lk) rfl S.co S.gen rfl (PySem.W.codeRec_of KX hcd) (hb _ _ _ _ (wpAny_newFunctionEnv_cells S.kind par fun env he s1 x => ?_))
    subst he
    obtain ⟨t, ht, q⟩ := hbody A outer s H vs Q E (hr.deeper _) hsp
    have I : Inv (cxOf CX P w K mg base N qual scope f cdv A outer s H E) [] (start N vs) H s1 := inv_start S hr.r.hd e0 (len _ _ _ _ hsp) rv x
    refine ⟨(e0.mod.nolimit.keeps old).keeps x.toInCall.keep, codeAny_func (wpAny_mono (ht.run [] s1 (start N vs) H _ I q) ?_ fun e s' hs => hs)⟩
    intro fl s' hs
    match fl, hs with
    | .ret u, ⟨v, _, H', J, r, q⟩ => exact ⟨v, H', J.os, J.bare, J.base, J.hok, r, q⟩
    | .next, ⟨_, H', J, q⟩ => exact ⟨.non, H', J.os, J.bare, J.base, J.hok, rfl, q⟩
    | .brk, ⟨_, _, _, q⟩ => exact False.elim q
    | .cont, ⟨_, _, _, q⟩ => exact False.elim q
/-- .. that stands in the text, no exception leaving it -/
theorem fun_g {x qual : Str} {st : Stmt} {N : List Str} (F : Fun K x qual st f fd) (S : FnScope N ps (defScope st)) (len : ∀ vs H Q E, sp vs H Q E → vs.length = ps.length)
    (hbody : ∀ (cdv : Value) (A : Around) (outer : List PySem.Env) (s : Shared) (H : Hp) (vs : List V) (Q : VK) (E : XK), RoomG k (A.deeper (envOfC qual (defScope st) s.heap.objs.size f cdv)) → sp vs H Q E →
      ∃ t, PSs (cxOf CX0 P w K mg base N qual (defScope st) f cdv A outer s H E).nox (defBody st) t ∧ t { nx := fun _ H' => Q .non H', rt := Q } (start N vs) H) : FnG P w K mg base CX0 (k + 1) f fd ps sp := by
  obtain ⟨oc, od, kV, doc, pm, an, cdv, ct, osl, e, lk, hcd⟩ := F.ex
  subst e
  exact fn_g lk hcd S len fun A outer s H vs Q E hr hsp => let ⟨t, h, q⟩ := hbody cdv A outer s H vs Q E hr hsp; ⟨t, h.nox, q⟩
end

/-! ### calls -/
section
variable {X : Cx} {W : WX} {pos p : Pos} {e : Expr} {es : List Expr} {fas : DA} {x : Str} {k : Nat} {fa' : Addr} {fd : FuncData} {ps : List Str} {fn : DFn} {sp : Sp} {t : TA}
theorem pe_callG (F : FnG X.prog X.w X.K X.mg X.base CX0 k fa' fd ps sp) (hr : RoomG k X.A) (hg : Gl X x) (hm : X.mg x = some (.ref fa')) (hk : PySem.W.keepIn X.K (.ref fa') = true) (hb : Binds X.K fd ps [])
    (ha : PA X (e :: es) t) (hdb : (x == ("__debug__" : Str)) = false := by decide) (he : starEach (e :: es) X.env = (false, eval e X.env) :: starEach es X.env := by rfl) (hpl : (backTo pos (starEach es X.env)).any (·.1) = false := by rfl) :
    PE X (.Call (.Name x p) (e :: es) [] pos) (tCall sp [] E0 t) where
  run := by
    intro pins s σ H Q I h
    refine wpAny_Call_Name_kw (ld_glob I hg hm (PySem.W.callWith_K (h₀ := X.base) I.ok.mod.kin hk (thn (ha.run pos pins s σ H _ I h) ?_) he hpl) hdb)
    rintro us s1 ⟨vs, H1, I1, rv, q⟩
    refine ⟨I1.kIn, wpAny_call ?_⟩
    have q' : sp vs H1 Q E0 := by
      have q0 : sp (vs ++ []) H1 Q E0 := q
      rw [List.append_nil] at q0
      exact q0
    have bt := hb s1 us I1.kIn (by rw [List.append_nil, ← rv.length]; exact F.len _ _ _ _ q')
    rw [List.append_nil] at bt
    refine codeAny_mono (F.run X.A X.stack s1 H1 ⟨us, []⟩ us vs Q E0 hr I1.env0 bt rv q') fun r s' z => ?_
    match r, z with
    | .ok (.ret _), z => exact I1.after z
    | .ok .next, z => exact False.elim z
    | .ok .brk, z => exact False.elim z
    | .ok .cont, z => exact False.elim z
    | .error _, z => exact False.elim z
theorem pd_fn (F : FnG X.prog X.w X.K X.mg X.base CX0 k fa' fd ps (spD X.K fn)) (hr : RoomG k X.A) (hm : X.mg x = some (.ref fa')) (hk : PySem.W.keepIn X.K (.ref fa') = true) (hb : Binds X.K fd ps [])
    (ha : PA X (e :: es) (tA X.K W fas)) (hg : Gl X x := by rfl) (hdb : (x == ("__debug__" : Str)) = false := by decide) (he : starEach (e :: es) X.env = (false, eval e X.env) :: starEach es X.env := by rfl) (hpl : (backTo pos (starEach es X.env)).any (·.1) = false := by rfl) :
    PE X (.Call (.Name x p) (e :: es) [] pos) (tD X.K W (dFn0 fn fas)) :=
  PE.weak (pe_callG F hr hg hm hk hb ha hdb he hpl) (fn0_read (X := X))

/-! ### a def by its body's reading -/
def ends0 (Q : PyData → Prop) (E : ExcD → Prop) : DEnds := { nx := fun _ => Q .none, rt := Q, ex := E }
/-- the frame of data at the entry -/
def startD (n : Nat) (ss : List DSlot) : DEnv := ss ++ List.replicate (n - ss.length) .undef
theorem look_start {n : Nat} {ss : List DSlot} {i : Nat} : look (startD n ss) i = match ss[i]? with | some s => s | none => .undef := by
  have app : ∀ (a b : DEnv) (i : Nat), look (a ++ b) i = match a[i]? with | some s => s | none => look b (i - a.length) := by
    intro a b
    induction a with
    | nil => intro i; simp
    | cons x a ih =>
      intro i
      cases i with
      | zero => simp [look]
      | succ i =>
        rw [List.cons_append]
        show look (a ++ b) i = _
        rw [ih]
        simp
  have rep : ∀ (m i : Nat), look (List.replicate m .undef) i = .undef := by
    intro m
    induction m with
    | zero => intro i; rfl
    | succ m ih => intro i; cases i with
      | zero => rfl
      | succ i => exact ih i
  unfold startD
  rw [app]
  cases e : ss[i]? with
  | none => exact rep _ _
  | some s => rfl
theorem sd_start {K : PySem.W.Frag} {F H : Hp} {bg : Option (Addr × Addr)} {vs : List V} {ss : List DSlot} {N : List Str} (le : Same F H) (hb : ∀ p, bg = some p → BagOk K F H p) (ha : ArgsOk K F bg vs ss) (hn : vs.length ≤ N.length) :
    Sd K ⟨H, F, bg, true⟩ F H (start N vs) (startD N.length ss) := by
  have el : vs.length = ss.length := Paired.length ha
  have get : ∀ {us : List V} {ts : List DSlot}, ArgsOk K F bg us ts → ∀ (i : Nat), (us[i]? = none ∧ ts[i]? = none) ∨ ∃ v s, us[i]? = some v ∧ ts[i]? = some s ∧ ArgOk K F bg v s := by
    intro us ts h
    induction h with
    | nil => intro i; simp
    | cons r t ih =>
      intro i
      cases i with
      | zero => exact .inr ⟨_, _, by simp, by simp, r⟩
      | succ i => simpa using ih i
  have vl : ∀ (i : Nat), val (start N vs) i = vs[i]? := by
    intro i
    unfold val L2.start
    by_cases h : i < vs.length
    · rw [List.getElem?_append_left (by simpa using h), List.getElem?_map, List.getElem?_eq_getElem h]; rfl
    · rw [List.getElem?_append_right (by simpa using h), List.getElem?_eq_none (show vs.length ≤ i by omega), List.getElem?_replicate]
      split <;> rfl
  have now : ∀ (i : Nat) (a : Addr), ¬ Owns (val (start N vs) i) (look (startD N.length ss) i) a := by
    intro i a ⟨h1, h2⟩
    rw [vl] at h1
    rw [look_start] at h2
    rcases get ha i with ⟨e1, e2⟩ | ⟨v, s, e1, e2, r⟩
    · rw [e2] at h2; rcases h2 with ⟨_, z⟩ | ⟨_, z⟩ <;> cases z
    · rw [e2] at h2
      rcases h2 with ⟨_, z⟩ | ⟨_, z⟩ <;> (have z : s = _ := z; subst z; exact r)
  refine ⟨Same.refl _, le, fun _ _ e _ => e, fun _ _ h => h, hb, ?_, fun i => ?_, fun i a q => absurd q (now i a), fun i j a q _ => absurd q (now i a)⟩
  · unfold startD L2.start
    rw [List.length_append, List.length_append, List.length_replicate, List.length_replicate, List.length_map, el]
  · rw [vl, look_start]
    rcases get ha i with ⟨e1, e2⟩ | ⟨v, s, e1, e2, r⟩
    · rw [e2]; trivial
    · rw [e1, e2]
      show SlotOk K F H bg (some v) s
      cases s with
      | undef => trivial
      | data d => exact ⟨v, rfl, r⟩
      | bag => obtain ⟨p, h1, h2⟩ := r; exact ⟨p, h1, by rw [h2]⟩
      | ownL _ => exact (show False from r).elim
      | ownD _ => exact (show False from r).elim
variable {P : Program} {w : World} {K : PySem.W.Frag} {mg : Str → Option Value} {base : Heap}
/-- a def is worth fn, if its body's reading says so -/
theorem def_g {x qual : Str} {st : Stmt} {N : List Str} (F : Fun K x qual st fa' fd) (S : FnScope N ps (defScope st)) (hlen : ∀ ss Q E, fn ss Q E → ss.length = ps.length)
    (hbody : ∀ (cdv : Value) (A : Around) (outer : List PySem.Env) (s : Shared) (H : Hp) (E : XK), RoomG k (A.deeper (envOfC qual (defScope st) s.heap.objs.size fa' cdv)) →
      ∃ g, PSs (cxOf CX0 P w K mg base N qual (defScope st) fa' cdv A outer s H E).nox (defBody st) (tDS K W0 g) ∧ ∀ ss Q, fn ss Q (fun _ => False) → g (ends0 Q fun _ => False) (startD N.length ss)) :
    FnG P w K mg base CX0 (k + 1) fa' fd ps (spD K fun ss Q _ => fn ss Q fun _ => False) := by
  refine fun_g F S (fun vs H Q E ⟨F, bg, ss, Qd, Ed, _, _, ha, h, _⟩ => (Paired.length ha).trans (hlen ss _ _ h)) fun cdv A outer s H vs Q E hr ⟨F', bg, ss, Qd, Ed, le, hb, ha, h, k1, _⟩ => ?_
  obtain ⟨g, hg, q⟩ := hbody cdv A outer s H E hr
  have hl : ss.length = ps.length := hlen ss _ _ h
  have hN : vs.length ≤ N.length := by
    have e := congrArg List.length S.pre
    rw [List.length_take] at e
    have := Paired.length ha
    omega
  have post : ∀ {F2 H2 : Hp} {σ : L2.St} {ρ : DEnv}, Sd K ⟨H, F', bg, true⟩ F2 H2 σ ρ → Post F' F2 H H2 bg := fun S => ⟨S.le0, S.le, S.frame, S.still⟩
  refine ⟨_, hg, ⟨H, F', bg, true⟩, F', startD N.length ss, _, rfl, sd_start le hb ha hN, q ss Qd h, ⟨fun F2 H2 σ ρ S q => ?_, fun _ _ _ _ _ z => (show False from z).elim, fun _ _ _ _ _ z => (show False from z).elim, fun F2 H2 σ ρ v d S i q => ?_, fun _ _ _ _ _ _ _ _ _ z => (show False from z).elim⟩⟩
  · exact k1 F2 H2 _ _ (post S) S.bag .non q
  · exact k1 F2 H2 _ _ (post S) S.bag i q
end
end DL
set_option Elab.async false
set_option linter.all false
set_option maxRecDepth 100000
set_option maxHeartbeats 4000000
/-! DL, the data layer (7): what operators and built-ins are worth -/
namespace DL
open PySem PySem.Spec PyProof.Rows L2
section
variable {X : Cx}
theorem new_still {K : PySem.W.Frag} {C : Ctx} {F H : Hp} {σ : L2.St} {ρ : DEnv} (S : Sd K C F H σ ρ) {p : Addr} {o : HO} (hp : H p = none) : Sd K C (upd F p o) (upd H p o) σ ρ ∧ Same F (upd F p o) :=
  ⟨S.laid hp, fun b u q => by rw [upd_ne (ne_of_none q (S.le.free hp))]; exact q⟩
/-! ### + -/
def gAdd : PyData → PyData → (PyData → Prop) → Prop
  | .int i, .int j, Q => Q (.int (i + j))
  | .str x, .str y, Q => x.length + y.length ≤ sizeLine ∧ Q (.str (x ++ y))
  | .list xs, .list ys, Q => xs.length + ys.length ≤ sizeLine ∧ Q (.list (xs ++ ys))
  | .tuple xs, .tuple ys, Q => xs.length + ys.length ≤ sizeLine ∧ Q (.tuple (xs ++ ys))
  | _, _, _ => False
def rAddD (K : PySem.W.Frag) : R2 := fun x y H Q => (∃ i j, x = .int i ∧ y = .int j ∧ Q (.int (i + j)) H) ∨ (∃ i j, x = .str i ∧ y = .str j ∧ i.length + j.length ≤ sizeLine ∧ Q (.str (i ++ j)) H) ∨ rCat x y H Q ∨ rCatA K x y H Q
theorem op_addD : OpR X (binaryOp .Add) (rAddD X.K) := OpR.or op_add (OpR.or op_add_str (OpR.or op_cat op_catA))
theorem str_app_length (x y : Str) : (x ++ y).length = x.length + y.length := by
  show (x.cps ++ y.cps).size = x.cps.size + y.cps.size
  exact Array.size_append
theorem d_add : OpD X (rAddD X.K) gAdd := by
  intro C F H σ ρ v u x y Qz Q S hv hu q k
  unfold gAdd at q
  split at q
  · have := isO_int hv; have := isO_int hu; subst v u
    exact .inl ⟨_, _, rfl, rfl, k F H _ _ S (Same.refl _) (.int _) q⟩
  · obtain ⟨rfl, z1⟩ := isO_str hv; obtain ⟨rfl, z2⟩ := isO_str hu
    exact .inr (.inl ⟨_, _, rfl, rfl, q.1, k F H _ _ S (Same.refl _) (.str _ (by rw [str_app_length]; exact q.1)) q.2⟩)
  · obtain ⟨a, xs, rfl, e1, z1, t1⟩ := isO_list S.le hv; obtain ⟨b, ys, rfl, e2, z2, t2⟩ := isO_list S.le hu
    have z : xs.length + ys.length ≤ sizeLine := by rw [t1.length, t2.length]; exact q.1
    refine .inr (.inr (.inl ⟨a, b, xs, ys, rfl, rfl, e1, e2, z, fun p hp => ?_⟩))
    obtain ⟨S', s'⟩ := new_still S (o := .lst (xs ++ ys)) hp
    exact k _ _ _ _ S' s' (.lst upd_same (by rw [List.length_append]; exact z) ((t1.append t2).up s')) q.2
  · obtain ⟨a, xs, rfl, e1, z1, t1⟩ := isO_tup hv; obtain ⟨b, ys, rfl, e2, z2, t2⟩ := isO_tup hu
    have z : xs.length + ys.length ≤ sizeLine := by rw [t1.length, t2.length]; exact q.1
    refine .inr (.inr (.inr ⟨a, b, xs, ys, rfl, rfl, sqT_mono S.le e1, sqT_mono S.le e2, z, fun e => ?_, fun _ e => ?_, fun _ _ p hp => ?_⟩))
    · subst e; cases t1
      exact k F H _ _ S (Same.refl _) (.tup e2 z2 t2) q.2
    · subst e; cases t2
      rw [List.append_nil] at q
      exact k F H _ _ S (Same.refl _) (.tup e1 z1 t1) q.2
    · obtain ⟨S', s'⟩ := new_still S (o := .tup (xs ++ ys)) hp
      exact k _ _ _ _ S' s' (.tup (.of upd_same) (by rw [List.length_append]; exact z) ((t1.append t2).up s')) q.2
  · exact q.elim
/-! ### - * // % ** -/
def gInt (C : Int → Int → Prop) (f : Int → Int → Int) : PyData → PyData → (PyData → Prop) → Prop
  | .int i, .int j, Q => C i j ∧ Q (.int (f i j))
  | _, _, _ => False
theorem d_int {C0 : Int → Int → Prop} {f : Int → Int → Int} : OpD X (rI C0 fun i j => .int (f i j)) (gInt C0 f) := by
  intro C F H σ ρ v u x y Qz Q S hv hu q k
  unfold gInt at q
  split at q
  · have := isO_int hv; have := isO_int hu; subst v u
    exact ⟨_, _, rfl, rfl, q.1, k F H _ _ S (Same.refl _) (.int _) q.2⟩
  · exact q.elim
def gSub : PyData → PyData → (PyData → Prop) → Prop
  | .int i, .int j, Q => Q (.int (i - j))
  | _, _, _ => False
theorem d_sub : OpD X (rI0 fun i j => .int (i - j)) gSub := by
  intro C F H σ ρ v u x y Qz Q S hv hu q k
  unfold gSub at q
  split at q
  · have := isO_int hv; have := isO_int hu; subst v u
    exact ⟨_, _, rfl, rfl, k F H _ _ S (Same.refl _) (.int _) q⟩
  · exact q.elim
abbrev gMod := gInt (fun _ j => 0 < j) (fun i j => i % j)
abbrev gFdiv := gInt CDiv (fun i j => i / j)
abbrev gPow := gInt CPow (fun i j => i ^ j.toNat)
theorem txt_mul_len (x : Str) (n : Nat) : (Txt.mul x n).length = n * x.length := by
  have rep : ∀ (k : Nat) (acc : Array Nat), ((List.replicate k x.cps).foldl (· ++ ·) acc).size = acc.size + k * x.length := by
    intro k
    induction k with
    | zero => intro acc; simp
    | succ k ih =>
      intro acc
      rw [List.replicate_succ, List.foldl_cons, ih, Array.size_append, Nat.succ_mul]
      show acc.size + x.cps.size + k * x.length = acc.size + (k * x.length + x.cps.size)
      omega
  unfold Txt.mul
  by_cases h1 : (n : Int) < 1
  · rw [if_pos h1]
    have e : n = 0 := by omega
    subst e
    rw [Nat.zero_mul]
    rfl
  · rw [if_neg h1]
    by_cases h2 : (((n : Int) == 1) || (x.length == 0)) = true
    · rw [if_pos h2]
      rcases Bool.or_eq_true_iff.mp h2 with e | e
      · have e' : (n : Int) = 1 := by simpa using e
        have e2 : n = 1 := by omega
        subst e2; rw [Nat.one_mul]
      · have e' : x.length = 0 := by simpa using e
        rw [e', Nat.mul_zero]
    · rw [if_neg h2]
      have e : ((n : Int)).toNat = n := Int.toNat_natCast n
      rw [e]
      have := rep n #[]
      show ((List.replicate n x.cps).foldl (· ++ ·) #[]).size = n * x.length
      rw [this]
      simp
def gMul : PyData → PyData → (PyData → Prop) → Prop
  | .int i, .int j, Q => CMul i j ∧ Q (.int (i * j))
  | .str x, .int j, Q => 0 ≤ j ∧ j < 1000000 ∧ j.toNat * x.length ≤ sizeLine ∧ Q (.str (Txt.mul x j))
  | _, _, _ => False
def rMulS : R2 := fun x y H Q => ∃ (z : Str) (j : Int), x = .str z ∧ y = .int j ∧ 0 ≤ j ∧ j < 1000000 ∧ j.toNat * z.length ≤ sizeLine ∧ Q (.str (Txt.mul z j)) H
theorem op_mulS : OpR X (binaryOp .Mult) rMulS := by
  intro pins s σ H x y v u Q I rx ry ⟨z, j, ex, ey, h0, h1, hz, q⟩
  subst ex ey
  obtain ⟨t, rfl⟩ := rx
  obtain ⟨t', rfl⟩ := ry
  have small : j.toNat * z.length ≤ 16777216 := by rw [← sizeLine_eq]; exact hz
  refine SB.mul ⟨?_, fun a b => ?_, fun a b => ?_⟩ fun t2 k => ⟨.str _, H, I.tok k, ⟨t2, rfl⟩, q⟩
  · rw [decide_eq_false (show ¬ j < -(2 ^ 63 : Int) by omega), decide_eq_false (show ¬ j ≥ 2 ^ 63 by omega)]; rfl
  · intro c
    have e1 : (z.length : Int) * j ≤ 16777216 := by
      have e : ((j.toNat * z.length : Nat) : Int) ≤ 16777216 := by omega
      rw [Int.natCast_mul, Int.toNat_of_nonneg h0, Int.mul_comm] at e
      exact e
    have hj : (0 : Int) < j := by omega
    have e2 : ((2 ^ 63 - 1) / j + 1) * j ≤ z.length * j := Int.mul_le_mul_of_nonneg_right (by omega) h0
    have e3 := Int.lt_ediv_add_one_mul_self (2 ^ 63 - 1) hj
    omega
  · have : z.length * j.toNat ≤ sizeLine := by rw [Nat.mul_comm]; exact hz
    show decide (z.length * j.toNat > sizeLine) = false
    exact decide_eq_false (by omega)
def rMulD : R2 := fun x y H Q => rI CMul (fun i j => .int (i * j)) x y H Q ∨ rMulS x y H Q
theorem op_mulD : OpR X (binaryOp .Mult) rMulD := OpR.or op_mul op_mulS
theorem d_mul : OpD X rMulD gMul := by
  intro C F H σ ρ v u x y Qz Q S hv hu q k
  unfold gMul at q
  split at q
  · have := isO_int hv; have := isO_int hu; subst v u
    exact .inl ⟨_, _, rfl, rfl, q.1, k F H _ _ S (Same.refl _) (.int _) q.2⟩
  · obtain ⟨rfl, z1⟩ := isO_str hv
    have := isO_int hu; subst u
    obtain ⟨q1, q2, q3, q⟩ := q
    refine .inr ⟨_, _, rfl, rfl, q1, q2, q3, k F H _ _ S (Same.refl _) (.str _ ?_) q⟩
    rename_i x j
    have e := txt_mul_len x j.toNat
    rw [Int.toNat_of_nonneg q1] at e
    rw [e]; exact q3
  · exact q.elim
/-! ### unary -/
def gNeg : PyData → (PyData → Prop) → Prop
  | .int i, Q => Q (.int (-i))
  | _, _ => False
theorem d_neg : UnD X (rU fun i => .int (-i)) gNeg := by
  intro C F H σ ρ v x Qz Q S hv q k
  unfold gNeg at q
  split at q
  · have := isO_int hv; subst v
    exact ⟨_, rfl, k F H _ _ S (Same.refl _) (.int _) q⟩
  · exact q.elim
/-! ### ==, != -/
mutual
theorem is_dp1 {K : PySem.W.Frag} {F H : Hp} (le : Same F H) : ∀ (d : PyData) (v : V), Is K F v d → d.canLay0 = true → Dp K H v d
  | .none, _, h, _ => by cases h; exact .non
  | .bool b, _, h, _ => by cases h; exact .bl b
  | .int i, _, h, _ => by cases h; exact .int i
  | .str x, _, h, _ => by cases h; exact .str x
  | .list ds, _, h, c => by cases h with | lst e z t => exact .lst (.of (le _ _ e)) (is_dpA le ds _ t (by simpa only [PyData.canLay0] using c))
  | .tuple ds, _, h, c => by cases h with | tup e z t => exact .tup (sqT_mono le e) (is_dpA le ds _ t (by simpa only [PyData.canLay0] using c))
  | .dict kvs, _, h, c => by simp [PyData.canLay0] at c
theorem is_dpA {K : PySem.W.Frag} {F H : Hp} (le : Same F H) : ∀ (ds : List PyData) (vs : List V), IsAll K F vs ds → PyData.canLayAll0 ds = true → DpAll K H vs ds
  | [], _, h, _ => by cases h; exact .nil
  | d :: ds, _, h, c => by
    cases h with
    | cons a t =>
      have c' : PyData.canLay0 d = true ∧ PyData.canLayAll0 ds = true := by simpa only [PyData.canLayAll0, Bool.and_eq_true] using c
      exact .cons (is_dp1 le d _ a c'.1) (is_dpA le ds _ t c'.2)
end
theorem is_dp {K : PySem.W.Frag} {F H : Hp} (le : Same F H) : (∀ (d : PyData) (v : V), Is K F v d → d.canLay0 = true → Dp K H v d) ∧ (∀ (ds : List PyData) (vs : List V), IsAll K F vs ds → PyData.canLayAll0 ds = true → DpAll K H vs ds) := ⟨is_dp1 le, is_dpA le⟩
theorem isO_dp {K : PySem.W.Frag} {F H : Hp} {v : V} {d : PyData} (le : Same F H) (h : IsO K F H v d) (c : d.canLay0 = true) : Dp K H v d := by
  rcases h with h | ⟨a, xs, ds, rfl, rfl, e, _, t⟩ | ⟨a, ks, kvs, rfl, rfl, _⟩
  · exact (is_dp le).1 d v h c
  · exact .lst (.of e) ((is_dp le).2 ds xs t (by simpa [PyData.canLay0] using c))
  · simp [PyData.canLay0] at c
/-! ### the order of ints, of texts -/
def ltS (x y : Str) : Bool := decide (x.cps.toList < y.cps.toList)
def gOrd (f : Int → Int → Bool) (g : Str → Str → Bool) : PyData → PyData → (PyData → Prop) → Prop
  | .int i, .int j, Q => Q (.bool (f i j))
  | .str x, .str y, Q => Q (.bool (g x y))
  | _, _, _ => False
def rOrd (f : Int → Int → Bool) (g : Str → Str → Bool) : R2 := fun x y H Q => (∃ i j, x = .int i ∧ y = .int j ∧ Q (.bl (f i j)) H) ∨ (∃ i j, x = .str i ∧ y = .str j ∧ Q (.bl (g i j)) H)
theorem d_ord {f : Int → Int → Bool} {g : Str → Str → Bool} : OpD X (rOrd f g) (gOrd f g) := by
  intro C F H σ ρ v u x y Qz Q S hv hu q k
  unfold gOrd at q
  split at q
  · have := isO_int hv; have := isO_int hu; subst v u
    exact .inl ⟨_, _, rfl, rfl, k F H _ _ S (Same.refl _) (.bl _) q⟩
  · obtain ⟨rfl, _⟩ := isO_str hv; obtain ⟨rfl, _⟩ := isO_str hu
    exact .inr ⟨_, _, rfl, rfl, k F H _ _ S (Same.refl _) (.bl _) q⟩
  · exact q.elim
theorem op_ltD : OpR X (compareOp .Lt) (rOrd (fun i j => decide (i < j)) ltS) := OpR.or op_lt op_lt_str
theorem op_leD : OpR X (compareOp .LtE) (rOrd (fun i j => decide (i ≤ j)) (fun x y => !ltS y x)) := OpR.or op_le op_le_str
theorem op_gtD : OpR X (compareOp .Gt) (rOrd (fun i j => decide (j < i)) (fun x y => ltS y x)) := OpR.or op_gt op_gt_str
theorem op_geD : OpR X (compareOp .GtE) (rOrd (fun i j => decide (j ≤ i)) (fun x y => !ltS x y)) := OpR.or op_ge op_ge_str
/-! ### in, not in -/
def flatD : PyData → Bool
  | .none => true
  | .bool _ => true
  | .int _ => true
  | .str _ => true
  | _ => false
def vOf : PyData → V
  | .none => .non
  | .bool b => .bl b
  | .int i => .int i
  | .str x => .str x
  | _ => .non
theorem isO_flat {K : PySem.W.Frag} {F H : Hp} {v : V} {d : PyData} (h : IsO K F H v d) (f : flatD d = true) : v = vOf d := by
  cases d with
  | none => exact isO_none h
  | bool b => exact isO_bool h
  | int i => exact isO_int h
  | str x => exact (isO_str h).1
  | _ => cases f
theorem isAll_flat {K : PySem.W.Frag} {F : Hp} : ∀ {vs : List V} {ds : List PyData}, IsAll K F vs ds → ds.all flatD = true → vs = ds.map vOf
  | _, _, .nil, _ => rfl
  | _, _, .cons a t, f => by
    rw [List.all_cons, Bool.and_eq_true] at f
    rw [List.map_cons, isO_flat (H := F) a.o f.1, isAll_flat t f.2]
theorem flatV_of {d : PyData} (f : flatD d = true) : flatV (vOf d) = true := by cases d <;> first | rfl | cases f
theorem eqV_of {d e : PyData} (f : flatD d = true) (g : flatD e = true) : eqV (vOf d) (vOf e) = PyData.eqv d e := by
  cases d <;> cases e <;> first | (cases f; done) | (cases g; done) | (simp [vOf, eqV, PyData.eqv])
theorem inV_of {d : PyData} (f : flatD d = true) : ∀ {ds : List PyData}, ds.all flatD = true → inV (vOf d) (ds.map vOf) = ds.any fun e => PyData.eqv e d
  | [], _ => rfl
  | e :: ds, g => by
    rw [List.all_cons, Bool.and_eq_true] at g
    have ih := inV_of f g.2
    unfold inV at ih ⊢
    rw [List.map_cons, List.any_cons, List.any_cons, ih, eqV_of g.1 f]
theorem allFlat {ds : List PyData} (g : ds.all flatD = true) : (ds.map vOf).all flatV = true := by
  rw [List.all_map, List.all_eq_true]
  intro d hd
  exact flatV_of (List.all_eq_true.mp g d hd)
def hasS (x y : Str) : Bool := !(Builtin.Str.occurrences y x 0 y.length 1).isEmpty
def gIn (neg : Bool) : PyData → PyData → (PyData → Prop) → Prop
  | .str x, .str y, Q => Q (.bool (neg ^^ hasS x y))
  | d, .list ds, Q => flatD d = true ∧ ds.all flatD = true ∧ Q (.bool (neg ^^ ds.any fun e => PyData.eqv e d))
  | d, .tuple ds, Q => flatD d = true ∧ ds.all flatD = true ∧ Q (.bool (neg ^^ ds.any fun e => PyData.eqv e d))
  | .str x, .dict kvs, Q => Q (.bool (neg ^^ kvs.any fun p => PyData.eqv p.1 (.str x)))
  | _, _, _ => False
def rInD (K : PySem.W.Frag) (neg : Bool) : R2 := fun x y H Q => (∃ i j, x = .str i ∧ y = .str j ∧ Q (.bl (neg ^^ hasS i j)) H) ∨ rIn K neg x y H Q ∨ ∃ a z kvs, x = .str z ∧ y = .ref a ∧ H a = some (.dK kvs) ∧ Q (.bl (neg ^^ (valV kvs (.inr z)).isSome)) H
theorem op_inD (hu : X.A.units + 1 < cLine) : OpR X (compareOp .In) (rInD X.K false) := by
  intro pins s σ H x y v u Q I rx ry h
  rcases h with ⟨i, j, h1, h2, q⟩ | h | ⟨a, z, kvs, h1, h2, e, q⟩
  · exact op_in_str pins s σ H x y v u Q I rx ry ⟨i, j, h1, h2, by simpa [hasS] using q⟩
  · exact op_in_seq pins s σ H x y v u Q I rx ry h
  · subst h1 h2
    cases (show u = Value.ref a from ry)
    exact d_in hu I (DGet.k (k := .inr z) e) rx fun s' I' => ⟨.bl _, H, I', rfl, by simpa using q⟩
theorem op_notinD (hu : X.A.units + 1 < cLine) : OpR X (compareOp .NotIn) (rInD X.K true) := by
  intro pins s σ H x y v u Q I rx ry h
  rcases h with ⟨i, j, h1, h2, q⟩ | h | ⟨a, z, kvs, h1, h2, e, q⟩
  · exact op_notIn_str pins s σ H x y v u Q I rx ry ⟨i, j, h1, h2, by simpa [hasS] using q⟩
  · exact op_notIn_seq pins s σ H x y v u Q I rx ry h
  · subst h1 h2
    cases (show u = Value.ref a from ry)
    exact d_notIn hu I (DGet.k (k := .inr z) e) rx fun s' I' => ⟨.bl _, H, I', rfl, by simpa using q⟩
theorem kv_any {K : PySem.W.Frag} {F : Hp} (z : Str) : ∀ {ks : List (Key × V)} {kvs : List (PyData × PyData)}, IsKv K F ks kvs → (kvs.any fun p => PyData.eqv p.1 (.str z)) = (valV ks (.inr z)).isSome
  | _, _, .nil => rfl
  | _, _, .cons (k := k) (v := v) (ks := ks) a t => by
    rw [List.any_cons, kv_any z t]
    cases k with
    | inl i => rw [valV_neg (p := (Sum.inl i, v)) (by simp)]; simp [keyD, PyData.eqv]
    | inr x =>
      by_cases e : x = z
      · subst e; rw [valV_pos (p := (Sum.inr x, v)) rfl]; simp [keyD, PyData.eqv]
      · rw [valV_neg (p := (Sum.inr x, v)) (by simpa using e)]
        have : PyData.eqv (keyD (Sum.inr x)) (.str z) = false := by simpa [keyD, PyData.eqv] using e
        rw [this, Bool.false_or]
theorem d_in' {neg : Bool} : OpD X (rInD X.K neg) (gIn neg) := by
  intro C F H σ ρ v u x y Qz Q S hv hu q k
  unfold gIn at q
  have seq : ∀ {d : PyData} {ds : List PyData} {a : Addr} {xs : List V}, IsO X.K F H v d → (SqL X.K H a xs ∨ SqT X.K H a xs) → IsAll X.K F xs ds → flatD d = true → ds.all flatD = true → Qz (.bool (neg ^^ ds.any fun e => PyData.eqv e d)) → rInD X.K neg v (.ref a) H Q := by
    intro d ds a xs hv hq t f g q
    have e1 := isO_flat hv f
    have e2 := isAll_flat t g
    subst e1 e2
    refine .inr (.inl ⟨a, _, rfl, hq, flatV_of f, allFlat g, ?_⟩)
    rw [inV_of f g]
    cases neg with
    | true => exact k F H _ _ S (Same.refl _) (.bl _) (by simpa using q)
    | false => exact k F H _ _ S (Same.refl _) (.bl _) (by simpa using q)
  split at q
  · obtain ⟨rfl, _⟩ := isO_str hv; obtain ⟨rfl, _⟩ := isO_str hu
    exact .inl ⟨_, _, rfl, rfl, k F H _ _ S (Same.refl _) (.bl _) q⟩
  · obtain ⟨a, xs, rfl, e, z, t⟩ := isO_list S.le hu
    exact seq hv (.inl (.of e)) t q.1 q.2.1 q.2.2
  · obtain ⟨a, xs, rfl, e, z, t⟩ := isO_tup hu
    exact seq hv (.inr (sqT_mono S.le e)) t q.1 q.2.1 q.2.2
  · obtain ⟨rfl, _⟩ := isO_str hv; obtain ⟨a, ks, rfl, e, z, nd, t⟩ := isO_dict S.le hu
    refine .inr (.inr ⟨a, _, ks, rfl, rfl, e, ?_⟩)
    rw [← kv_any _ t]
    exact k F H _ _ S (Same.refl _) (.bl _) q
  · exact q.elim
end
end DL
set_option Elab.async false
set_option linter.all false
set_option maxRecDepth 100000
set_option maxHeartbeats 4000000
/-! DL, the data layer (8): repr of data, dicts within -/
namespace DL
open PySem PySem.Spec PyProof.Rows L2
mutual
/-- data in a heap, each dict apart from the table of modules -/
inductive Lies (h : Heap) : Value → PyData → Prop
  | none : Lies h .none .none
  | bool (b : Bool) : Lies h (.bool b) (.bool b)
  | int (i : Int) (t : Tok) : Lies h (.int i t) (.int i)
  | str (x : Str) (t : Tok) : Lies h (.str x t) (.str x)
  | list {a : Addr} {o : Obj} {vs : List Value} {n : Nat} {xs : List PyData} : h.get? a = some o → o.cls = .type "list" → o.data = .seq vs.toArray n → LieAll h vs xs → Lies h (.ref a) (.list xs)
  | tuple {a : Addr} {o : Obj} {vs : List Value} {n : Nat} {xs : List PyData} : h.get? a = some o → o.cls = .type "tuple" → o.data = .seq vs.toArray n → LieAll h vs xs → Lies h (.ref a) (.tuple xs)
  | dict {a : Addr} {o : Obj} {es : List DictEntry} {n : Nat} {kvs : List (PyData × PyData)} : h.get? a = some o → o.cls = .type "dict" → o.data = .dict es.toArray n → (a == sysModules) = false → LieAll h (es.map (·.key)) (kvs.map (·.1)) → LieAll h (es.map (·.val)) (kvs.map (·.2)) → Lies h (.ref a) (.dict kvs)
inductive LieAll (h : Heap) : List Value → List PyData → Prop
  | nil : LieAll h [] []
  | cons {v : Value} {vs : List Value} {d : PyData} {ds : List PyData} : Lies h v d → LieAll h vs ds → LieAll h (v :: vs) (d :: ds)
end
section
variable {X : Cx} {pins : List (Addr × Obj)} {σ : L2.St} {F H : Hp} {s : Shared}
theorem key_lies {P : Program} {w : World} {h : Heap} {k : Key} {v : Value} (e : (mixKind P w).is k v = true) : Lies h v (keyD k) := by
  rcases keyIs_shape e with ⟨i, t, rfl, rfl⟩ | ⟨x, t, rfl, rfl⟩
  · exact .int i t
  · exact .str x t
theorem keys_lie {P : Program} {w : World} {h : Heap} {K : PySem.W.Frag} {F : Hp} : ∀ {es : List DictEntry} {vs : List (Key × Value)} {ks : List (Key × V)} {kvs : List (PyData × PyData)}, Pairs (mixKind P w) es vs → KV ks vs → IsKv K F ks kvs → LieAll h (es.map (·.key)) (kvs.map (·.1))
  | _, _, _, _, .nil, .nil, .nil => .nil
  | _, _, _, _, .cons e1 _ t, .cons r t', .cons _ t'' => .cons (by have := key_lies (h := h) e1; rw [← r.1] at this; exact this) (keys_lie t t' t'')
mutual
theorem is_lies (I : Inv X pins σ H s) (le : Same F H) : ∀ (d : PyData) (v : V) (u : Value), Is X.K F v d → RelV v u → Lies s.heap u d
  | .none, _, _, h, r => by cases h; cases r; exact .none
  | .bool b, _, _, h, r => by cases h; cases r; exact .bool b
  | .int i, _, _, h, r => by cases h; obtain ⟨t, rfl⟩ := r; exact .int i t
  | .str x, _, _, h, r => by cases h; obtain ⟨t, rfl⟩ := r; exact .str x t
  | .list ds, _, _, h, r => by
    cases h with
    | lst e z t =>
      cases r
      obtain ⟨its, rv, ⟨o, n, ho, hc, _, hd⟩, _⟩ := I.list (.of (le _ _ e))
      exact .list ho hc hd (isAll_lie I le ds _ its t rv)
  | .tuple ds, _, _, h, r => by
    cases h with
    | tup e z t =>
      cases r
      obtain ⟨its, rv, ⟨o, ho, hc, n, hd⟩, _⟩ := I.tuple (sqT_mono le e)
      exact .tuple ho hc hd (isAll_lie I le ds _ its t rv)
  | .dict kvs, _, _, h, r => by
    cases h with
    | dic e z nd t =>
      cases r
      obtain ⟨_, hs, vs, rv, o, es, ep, ho, hx, hd, _, hp, _⟩ := (show ObjOk X.prog X.w H s.heap _ (.dK _) from I.hok _ _ (le _ _ e))
      obtain ⟨es⟩ := es
      exact .dict ho hx.1 hd hs (keys_lie hp rv t) (isKv_lie I le kvs _ _ _ t rv hp)
theorem isAll_lie (I : Inv X pins σ H s) (le : Same F H) : ∀ (ds : List PyData) (vs : List V) (us : List Value), IsAll X.K F vs ds → Vals vs us → LieAll s.heap us ds
  | [], _, _, h, r => by cases h; cases r; exact .nil
  | d :: ds, _, _, h, r => by cases h with | cons a t => cases r with | cons r1 r2 => exact .cons (is_lies I le d _ _ a r1) (isAll_lie I le ds _ _ t r2)
theorem isKv_lie (I : Inv X pins σ H s) (le : Same F H) : ∀ (kvs : List (PyData × PyData)) (ks : List (Key × V)) (vs : List (Key × Value)) (es : List DictEntry), IsKv X.K F ks kvs → KV ks vs → Pairs (mixKind X.prog X.w) es vs → LieAll s.heap (es.map (·.val)) (kvs.map (·.2))
  | [], _, _, _, h, r, p => by cases h; cases r; cases p; exact .nil
  | (_, d) :: kvs, _, _, _, h, r, p => by
    cases h with | cons a t => cases r with | cons r1 r2 => cases p with | cons e1 e2 p2 =>
      refine .cons ?_ (isKv_lie I le kvs _ _ _ t r2 p2)
      show Lies s.heap (DictEntry.val _) d
      rw [e2]
      exact is_lies I le d _ _ a r1.2
end
theorem isO_lies {v : V} {u : Value} {d : PyData} (I : Inv X pins σ H s) (le : Same F H) (h : IsO X.K F H v d) (r : RelV v u) : Lies s.heap u d := by
  rcases h with h | ⟨a, xs, ds, rfl, rfl, e, z, t⟩ | ⟨a, ks, kvs, rfl, rfl, e, z, nd, t⟩
  · exact is_lies I le d v u h r
  · cases r
    obtain ⟨its, rv, ⟨o, n, ho, hc, _, hd⟩, _⟩ := I.list (.of e)
    exact .list ho hc hd (isAll_lie I le ds _ its t rv)
  · cases r
    obtain ⟨_, hs, vs, rv, o, es, ep, ho, hx, hd, _, hp, _⟩ := (show ObjOk X.prog X.w H s.heap _ (.dK _) from I.hok _ _ e)
    obtain ⟨es⟩ := es
    exact .dict ho hx.1 hd hs (keys_lie hp rv t) (isKv_lie I le kvs _ _ _ t rv hp)
end
section
variable {prog : Program} {w : World} {h : Heap}
mutual
theorem Lies.reads : ∀ {v : Value} {d : PyData}, Lies h v d → ∃ as, Reads h v d as
  | _, _, .none => ⟨_, .none⟩
  | _, _, .bool b => ⟨_, .bool b⟩
  | _, _, .int i t => ⟨_, .int i t⟩
  | _, _, .str x t => ⟨_, .str x t⟩
  | _, _, .list h1 h2 h3 h4 => let ⟨_, r⟩ := LieAll.reads h4; ⟨_, .list h1 h2 h3 r⟩
  | _, _, .tuple h1 h2 h3 h4 => let ⟨_, r⟩ := LieAll.reads h4; ⟨_, .tuple h1 h2 h3 r⟩
  | _, _, .dict h1 h2 h3 _ h4 h5 => let ⟨_, r⟩ := LieAll.reads h4; let ⟨_, r'⟩ := LieAll.reads h5; ⟨_, .dict h1 h2 h3 r r'⟩
theorem LieAll.reads : ∀ {vs : List Value} {ds : List PyData}, LieAll h vs ds → ∃ as, ReadsAll h vs ds as
  | _, _, .nil => ⟨_, .nil⟩
  | _, _, .cons a t => let ⟨_, r⟩ := Lies.reads a; let ⟨_, r'⟩ := LieAll.reads t; ⟨_, .cons r r'⟩
end
end
section
variable {X : Cx}
/-- two values that can be compared: no dict in them, or two lists of unlike length, or a tuple and the empty one -/
def EqOk (x y : PyData) : Prop := (x.plain = true ∧ y.plain = true ∧ x.depth ≤ 60) ∨ (∃ xs ys, x = .list xs ∧ y = .list ys ∧ xs.length ≠ ys.length) ∨ ∃ xs, x = .tuple xs ∧ y = .tuple []
def rPl (K : PySem.W.Frag) (neg : Bool) : R2 := fun x y H Q => ∃ d e F, Same F H ∧ IsO K F H x d ∧ IsO K F H y e ∧ d.plain = true ∧ e.plain = true ∧ d.depth ≤ 60 ∧ Q (.bl (neg ^^ PyData.eqv d e)) H
theorem op_eqPl (hu : X.A.units + 64 < cLine) : OpR X (compareOp .Eq) (rPl X.K false) := by
  intro pins s σ H x y v u Q I rx ry ⟨d, e, F, le, o1, o2, p1, p2, hd, k⟩
  obtain ⟨as, r1⟩ := (isO_lies I le o1 rx).reads
  obtain ⟨bs, r2⟩ := (isO_lies I le o2 ry).reads
  rw [Bool.false_xor] at k
  exact SeqAt.eq_plain r1 r2 p1 p2 (by omega) ⟨.bl _, H, I, rfl, k⟩
theorem op_nePl (hu : X.A.units + 64 < cLine) : OpR X (compareOp .NotEq) (rPl X.K true) := by
  intro pins s σ H x y v u Q I rx ry ⟨d, e, F, le, o1, o2, p1, p2, hd, k⟩
  obtain ⟨as, r1⟩ := (isO_lies I le o1 rx).reads
  obtain ⟨bs, r2⟩ := (isO_lies I le o2 ry).reads
  rw [Bool.true_xor] at k
  exact SeqAt.ne_plain r1 r2 p1 p2 (by omega) ⟨.bl _, H, I, rfl, k⟩
def rNoTup (K : PySem.W.Frag) (neg : Bool) : R2 := fun x y H Q => ∃ p q xs, x = .ref p ∧ y = .ref q ∧ SqT K H p xs ∧ SqT K H q [] ∧ Q (.bl (neg ^^ (xs.length == 0))) H
theorem op_eqNoTup (hu : X.A.units + 64 < cLine) : OpR X (compareOp .Eq) (rNoTup X.K false) := by
  intro pins s σ H x y v u Q I rx ry ⟨p, q, xs, e1, e2, h1, h2, k⟩
  subst e1; subst e2
  cases rx; cases ry
  obtain ⟨us, r1, p1, _⟩ := I.tuple h1
  obtain ⟨ws, r2, p2, _⟩ := I.tuple h2
  cases r2
  refine SeqAt.RcAt.tuples (e := fun _ => true) p1 p2 (by omega) (fun j _ h => absurd h (Nat.not_lt_zero _)) _ _ _ _ ⟨.bl _, H, I, rfl, ?_⟩
  have e : ((List.range (min us.toArray.size ([] : List Value).toArray.size)).all (fun _ => true) && us.toArray.size == ([] : List Value).toArray.size) = (false ^^ (xs.length == 0)) := by
    simp [r1.length]
  rw [e]; exact k
theorem op_neNoTup (hu : X.A.units + 64 < cLine) : OpR X (compareOp .NotEq) (rNoTup X.K true) := by
  intro pins s σ H x y v u Q I rx ry ⟨p, q, xs, e1, e2, h1, h2, k⟩
  subst e1; subst e2
  cases rx; cases ry
  obtain ⟨us, r1, p1, _⟩ := I.tuple h1
  obtain ⟨ws, r2, p2, _⟩ := I.tuple h2
  cases r2
  refine SeqAt.RcNeAt.tuples (e := fun _ => true) p1 p2 (by omega) (fun j _ h => absurd h (Nat.not_lt_zero _)) _ _ _ _ ⟨.bl _, H, I, rfl, ?_⟩
  have e : (!((List.range (min us.toArray.size ([] : List Value).toArray.size)).all (fun _ => true) && us.toArray.size == ([] : List Value).toArray.size)) = (true ^^ (xs.length == 0)) := by
    simp [r1.length]
  rw [e]; exact k
theorem eqv_noTup (xs : List PyData) : PyData.eqv (.tuple xs) (.tuple []) = (xs.length == 0) := by
  rw [PyData.eqv]
  cases xs with
  | nil => rfl
  | cons x xs => rfl
def gEq : PyData → PyData → (PyData → Prop) → Prop := fun x y Q => EqOk x y ∧ Q (.bool (PyData.eqv x y))
def gNe : PyData → PyData → (PyData → Prop) → Prop := fun x y Q => EqOk x y ∧ Q (.bool (!PyData.eqv x y))
def rLens (K : PySem.W.Frag) (b : Bool) : R2 := fun x y H Q => ∃ p q xs ys, x = .ref p ∧ y = .ref q ∧ SqL K H p xs ∧ SqL K H q ys ∧ xs.length ≠ ys.length ∧ Q (.bl b) H
theorem op_eqLens (hu : X.A.units + 64 < cLine) : OpR X (compareOp .Eq) (rLens X.K false) := by
  intro pins s σ H x y v u Q I rx ry ⟨p, q, xs, ys, e1, e2, h1, h2, hn, k⟩
  subst e1; subst e2
  cases rx; cases ry
  obtain ⟨us, r1, p1, _⟩ := I.list h1
  obtain ⟨ws, r2, p2, _⟩ := I.list h2
  exact SeqAt.RcAt.lists_lengths p1.isList p2.isList (by rw [List.size_toArray, List.size_toArray, ← r1.length, ← r2.length]; simpa using hn) (by omega) _ _ _ _ ⟨.bl false, H, I, rfl, k⟩
theorem op_neLens (hu : X.A.units + 64 < cLine) : OpR X (compareOp .NotEq) (rLens X.K true) := by
  intro pins s σ H x y v u Q I rx ry ⟨p, q, xs, ys, e1, e2, h1, h2, hn, k⟩
  subst e1; subst e2
  cases rx; cases ry
  obtain ⟨us, r1, p1, _⟩ := I.list h1
  obtain ⟨ws, r2, p2, _⟩ := I.list h2
  exact SeqAt.RcNeAt.lists_lengths p1.isList p2.isList (by rw [List.size_toArray, List.size_toArray, ← r1.length, ← r2.length]; simpa using hn) (by omega) _ _ _ _ ⟨.bl true, H, I, rfl, k⟩
abbrev rEqE (K : PySem.W.Frag) : R2 := fun x y H Q => rPl K false x y H Q ∨ rLens K false x y H Q ∨ rNoTup K false x y H Q
abbrev rNeE (K : PySem.W.Frag) : R2 := fun x y H Q => rPl K true x y H Q ∨ rLens K true x y H Q ∨ rNoTup K true x y H Q
theorem op_eqE (hu : X.A.units + 64 < cLine) : OpR X (compareOp .Eq) (rEqE X.K) := OpR.or (op_eqPl hu) (OpR.or (op_eqLens hu) (op_eqNoTup hu))
theorem op_neE (hu : X.A.units + 64 < cLine) : OpR X (compareOp .NotEq) (rNeE X.K) := OpR.or (op_nePl hu) (OpR.or (op_neLens hu) (op_neNoTup hu))
theorem eqv_lens {xs ys : List PyData} (h : xs.length ≠ ys.length) : PyData.eqv (.list xs) (.list ys) = false := by
  rw [PyData.eqv]; exact SeqAt.eqvAll_other_length h
theorem d_eq : OpD X (rEqE X.K) gEq := by
  intro C F H σ ρ v u x y Qz Q S hv hu ⟨ok, q⟩ k
  rcases ok with ⟨s1, s2, s3⟩ | ⟨xs, ys, rfl, rfl, hn⟩ | ⟨xs, rfl, rfl⟩
  · exact .inl ⟨x, y, F, S.le, hv, hu, s1, s2, s3, k F H _ _ S (Same.refl _) (by rw [Bool.false_xor]; exact .bl _) q⟩
  · obtain ⟨a, us, rfl, e1, _, t1⟩ := isO_list S.le hv
    obtain ⟨b, ws, rfl, e2, _, t2⟩ := isO_list S.le hu
    rw [eqv_lens hn] at q
    exact .inr (.inl ⟨a, b, us, ws, rfl, rfl, .of e1, .of e2, by rw [t1.length, t2.length]; exact hn, k F H _ _ S (Same.refl _) (.bl _) q⟩)
  · obtain ⟨a, us, rfl, e1, _, t1⟩ := isO_tup hv
    obtain ⟨b, ws, rfl, e2, _, t2⟩ := isO_tup hu
    cases t2
    rw [eqv_noTup] at q
    refine .inr (.inr ⟨a, b, us, rfl, rfl, sqT_mono S.le e1, sqT_mono S.le e2, k F H _ _ S (Same.refl _) ?_ q⟩)
    rw [t1.length]; exact (by simpa using Is.bl (K := X.K) (F := F) (false ^^ (xs.length == 0)))
theorem d_ne : OpD X (rNeE X.K) gNe := by
  intro C F H σ ρ v u x y Qz Q S hv hu ⟨ok, q⟩ k
  rcases ok with ⟨s1, s2, s3⟩ | ⟨xs, ys, rfl, rfl, hn⟩ | ⟨xs, rfl, rfl⟩
  · exact .inl ⟨x, y, F, S.le, hv, hu, s1, s2, s3, k F H _ _ S (Same.refl _) (by rw [Bool.true_xor]; exact .bl _) q⟩
  · obtain ⟨a, us, rfl, e1, _, t1⟩ := isO_list S.le hv
    obtain ⟨b, ws, rfl, e2, _, t2⟩ := isO_list S.le hu
    rw [eqv_lens hn] at q
    exact .inr (.inl ⟨a, b, us, ws, rfl, rfl, .of e1, .of e2, by rw [t1.length, t2.length]; exact hn, k F H _ _ S (Same.refl _) (.bl _) q⟩)
  · obtain ⟨a, us, rfl, e1, _, t1⟩ := isO_tup hv
    obtain ⟨b, ws, rfl, e2, _, t2⟩ := isO_tup hu
    cases t2
    rw [eqv_noTup] at q
    refine .inr (.inr ⟨a, b, us, rfl, rfl, sqT_mono S.le e1, sqT_mono S.le e2, k F H _ _ S (Same.refl _) ?_ q⟩)
    rw [t1.length]; exact (by simpa using Is.bl (K := X.K) (F := F) (true ^^ (xs.length == 0)))
end
section
variable {prog : Program} {w : World} {h : Heap}
/-- what a text that is part of a shown one is long at most -/
theorem keys_short {kvs : List (PyData × PyData)} (hz : (dictText (PyData.shownKv kvs)).length ≤ sizeLine) : (∀ t ∈ PyData.shownAll (kvs.map (·.1)), t.length ≤ sizeLine) ∧ ∀ t ∈ PyData.shownAll (kvs.map (·.2)), t.length ≤ sizeLine := by
  refine ⟨fun t ht => ?_, fun t ht => ?_⟩
  · obtain ⟨p, hp, hl⟩ := PyData.shownKv_key_le kvs t ht
    exact Nat.le_trans (Nat.le_trans hl (dictText_mem_le hp)) hz
  · obtain ⟨p, hp, hl⟩ := PyData.shownKv_val_le kvs t ht
    exact Nat.le_trans (Nat.le_trans hl (dictText_mem_le hp)) hz
mutual
theorem Lies.show : ∀ {v : Value} {d : PyData}, Lies h v d → d.showable = true → d.shown.length ≤ sizeLine → ∃ bs, ReadAtMost h d.depth bs ∧ ReprK prog w bs h d.depth v d.shown
  | _, _, .none, _, _ => ⟨[], (fun _ m => nomatch m), by simp only [PyData.shown]; exact .of_is ReprIs.none _ _ _⟩
  | _, _, .bool b, _, _ => ⟨[], (fun _ m => nomatch m), by simp only [PyData.shown]; exact .of_is (ReprIs.bool b) _ _ _⟩
  | _, _, .int i t, hs, _ => ⟨[], (fun _ m => nomatch m), by simp only [PyData.shown]; exact .of_is (ReprIs.int t (by simpa [PyData.showable] using hs)) _ _ _⟩
  | _, _, .str x t, _, hz => ⟨[], (fun _ m => nomatch m), by simp only [PyData.shown]; exact .of_is (ReprIs.str x t (by simpa only [PyData.shown] using hz)) _ _ _⟩
  | _, _, .list (a := a) (vs := vs) (xs := xs) h1 h2 h3 h4, hs, hz => by
    have z : (listText (PyData.shownAll xs)).length ≤ sizeLine := by simpa only [PyData.shown] using hz
    obtain ⟨as, ra⟩ := Lies.reads (.list h1 h2 h3 h4)
    obtain ⟨bs, hb, hk⟩ := LieAll.show h4 (by simpa [PyData.showable] using hs) fun t ht => Nat.le_trans (listText_mem_le ht) z
    have deep : PyData.depthAll xs < (PyData.list xs).depth := by simp only [PyData.depth]; omega
    have out : a ∉ bs := not_mem_of_deeper ra deep hb
    refine ⟨a :: bs, .cons ra (Nat.le_of_lt deep) hb, ?_⟩
    simp only [PyData.depth, PyData.shown]
    cases vs with
    | nil =>
      cases h4
      simp only [PyData.shownAll, listText_nil]
      exact .listEmpty h1 h2 h3
    | cons x l => exact .list h1 h2 h3 out (by simpa using hk.length_eq) fun i y e => hk.item i y (by simpa using e)
  | _, _, .tuple (a := a) (vs := vs) (xs := xs) h1 h2 h3 h4, hs, hz => by
    have z : (tupleText (PyData.shownAll xs)).length ≤ sizeLine := by simpa only [PyData.shown] using hz
    obtain ⟨as, ra⟩ := Lies.reads (.tuple h1 h2 h3 h4)
    obtain ⟨bs, hb, hk⟩ := LieAll.show h4 (by simpa [PyData.showable] using hs) fun t ht => Nat.le_trans (tupleText_mem_le ht) z
    have deep : PyData.depthAll xs < (PyData.tuple xs).depth := by simp only [PyData.depth]; omega
    refine ⟨a :: bs, .cons ra (Nat.le_of_lt deep) hb, ?_⟩
    have out : a ∉ bs := not_mem_of_deeper ra deep hb
    simp only [PyData.depth, PyData.shown]
    exact .tuple h1 h2 h3 out hk
  | _, _, .dict (a := a) (es := es) (kvs := kvs) h1 h2 h3 hsys h4 h5, hs, hz => by
    have z : (dictText (PyData.shownKv kvs)).length ≤ sizeLine := by simpa only [PyData.shown] using hz
    obtain ⟨as, ra⟩ := Lies.reads (.dict h1 h2 h3 hsys h4 h5)
    obtain ⟨s1, s2⟩ := PyData.showableKv_split kvs (by simpa [PyData.showable] using hs)
    obtain ⟨z1, z2⟩ := keys_short z
    obtain ⟨b1, hb1, k1⟩ := LieAll.show h4 s1 z1
    obtain ⟨b2, hb2, k2⟩ := LieAll.show h5 s2 z2
    have hb : ReadAtMost h (PyData.depthKv kvs) (b1 ++ b2) := .append (hb1.mono (PyData.depthAll_keys_le kvs)) (hb2.mono (PyData.depthAll_vals_le kvs))
    have deep : PyData.depthKv kvs < (PyData.dict kvs).depth := by simp only [PyData.depth]; omega
    have out : a ∉ b1 ++ b2 := not_mem_of_deeper ra deep hb
    refine ⟨a :: (b1 ++ b2), .cons ra (Nat.le_of_lt deep) hb, ?_⟩
    simp only [PyData.depth, PyData.shown, PyData.shownKv_eq]
    exact .dict h1 h2 h3 hsys out (.of_two es.toArray.toList _ _ (k1.more_le (fun b m => List.mem_append_left _ m) (PyData.depthAll_keys_le kvs)) (k2.more_le (fun b m => List.mem_append_right _ m) (PyData.depthAll_vals_le kvs)))
theorem LieAll.show : ∀ {vs : List Value} {ds : List PyData}, LieAll h vs ds → PyData.showableAll ds = true → (∀ t ∈ PyData.shownAll ds, t.length ≤ sizeLine) → ∃ bs, ReadAtMost h (PyData.depthAll ds) bs ∧ ReprAllK prog w bs h (PyData.depthAll ds) vs (PyData.shownAll ds)
  | _, _, .nil, _, _ => ⟨[], (fun _ m => nomatch m), by simp only [PyData.shownAll]; exact .nil⟩
  | _, _, .cons (d := d) (ds := ds) a t, hs, hz => by
    have hs' : d.showable = true ∧ PyData.showableAll ds = true := by simpa [PyData.showableAll] using hs
    have hz' : d.shown.length ≤ sizeLine ∧ ∀ t ∈ PyData.shownAll ds, t.length ≤ sizeLine := ⟨hz _ (by simp only [PyData.shownAll]; exact List.mem_cons_self), fun t ht => hz t (by simp only [PyData.shownAll]; exact List.mem_cons_of_mem _ ht)⟩
    obtain ⟨b1, hb1, k1⟩ := Lies.show a hs'.1 hz'.1
    obtain ⟨b2, hb2, k2⟩ := LieAll.show t hs'.2 hz'.2
    have m1 : d.depth ≤ max d.depth (PyData.depthAll ds) := Nat.le_max_left _ _
    have m2 : PyData.depthAll ds ≤ max d.depth (PyData.depthAll ds) := Nat.le_max_right _ _
    simp only [PyData.depthAll, PyData.shownAll]
    exact ⟨b1 ++ b2, .append (hb1.mono m1) (hb2.mono m2), .cons ((k1.more fun b m => List.mem_append_left _ m).level_le m1) (k2.more_le (fun b m => List.mem_append_right _ m) m2)⟩
end
/-- repr(v), v a list, a tuple, a dict of data -/
theorem Lies.call {A : Around} {E : Value → Shared → Prop} {s : Shared} {Q : Value → Shared → Prop} {v : Value} {d : PyData} (L : Lies s.heap v d) (hs : d.showable = true) (hz : d.shown.length ≤ sizeLine) (hg : A.guards = some []) (hu : A.units + (d.depth + 1) < cLine)
    (hQ : ∀ h' u tk, (∀ b o, s.heap.get? b = some o → h'.get? b = some o) → Q (.str d.shown u) { s with heap := h', toks := tk }) : wpAny (model prog w) A (call (.builtin "repr") [v]) Q E s := by
  have room : A.in1.units + d.depth < cLine := by show A.units + 1 + d.depth < cLine; omega
  cases L with
  | none => simp only [PyData.shown] at hQ; exact PySem.P.repr_of_none (hQ s.heap _ _ fun _ _ e => e)
  | bool b => simp only [PyData.shown] at hQ; exact PySem.P.repr_of_bool (hQ s.heap _ _ fun _ _ e => e)
  | int i t => simp only [PyData.shown] at hQ; exact PySem.P.repr_of_int (by simpa [PyData.showable] using hs) (hQ s.heap _ _ fun _ _ e => e)
  | str x t => simp only [PyData.shown] at hQ hz; exact PySem.P.repr_of_str (hQ s.heap _ _ fun _ _ e => e) hz
  | @list a o vs n xs h1 h2 h3 h4 =>
    have z : (listText (PyData.shownAll xs)).length ≤ sizeLine := by simpa only [PyData.shown] using hz
    obtain ⟨as, ra⟩ := Lies.reads (.list h1 h2 h3 h4)
    obtain ⟨bs, hb, hk⟩ := LieAll.show (prog := prog) (w := w) h4 (by simpa [PyData.showable] using hs) fun t ht => Nat.le_trans (listText_mem_le ht) z
    have out : a ∉ bs := not_mem_of_deeper ra (show PyData.depthAll xs < (PyData.list xs).depth by simp only [PyData.depth]; omega) hb
    simp only [PyData.depth] at room
    simp only [PyData.shown] at hQ
    refine call_repr_slot (by omega) ⟨o, h1, h2⟩ F.slot_list_repr.toG ?_
    cases vs with
    | nil =>
      cases h4
      simp only [PyData.shownAll, listText_nil] at hQ
      exact call_list_repr_empty ⟨o, h1, h2⟩ h1 h3 ⟨_, _, rfl, hQ s.heap _ _ fun _ _ e => e⟩
    | cons x l => exact call_list_reprK h1 h2 h3 out (by simpa using hk.length_eq) (fun i y e => hk.item i y (by simpa using e)) hg (fun b _ => Clear.nil b) room (fun _ _ e => e) (fun h' u tk k => ⟨_, _, rfl, hQ h' u tk k⟩) z
  | @tuple a o vs n xs h1 h2 h3 h4 =>
    have z : (tupleText (PyData.shownAll xs)).length ≤ sizeLine := by simpa only [PyData.shown] using hz
    obtain ⟨as, ra⟩ := Lies.reads (.tuple h1 h2 h3 h4)
    obtain ⟨bs, hb, hk⟩ := LieAll.show (prog := prog) (w := w) h4 (by simpa [PyData.showable] using hs) fun t ht => Nat.le_trans (tupleText_mem_le ht) z
    have out : a ∉ bs := not_mem_of_deeper ra (show PyData.depthAll xs < (PyData.tuple xs).depth by simp only [PyData.depth]; omega) hb
    simp only [PyData.depth] at room
    simp only [PyData.shown] at hQ
    exact call_repr_slot (by omega) ⟨o, h1, h2⟩ F.slot_tuple_repr (call_tuple_reprK h1 h2 h3 out hk hg (fun b _ => Clear.nil b) room (fun _ _ e => e) (fun h' u tk k => ⟨_, _, rfl, hQ h' u tk k⟩) z)
  | @dict a o es n kvs h1 h2 h3 hsys h4 h5 =>
    have z : (dictText (PyData.shownKv kvs)).length ≤ sizeLine := by simpa only [PyData.shown] using hz
    obtain ⟨as, ra⟩ := Lies.reads (.dict h1 h2 h3 hsys h4 h5)
    obtain ⟨s1, s2⟩ := PyData.showableKv_split kvs (by simpa [PyData.showable] using hs)
    obtain ⟨z1, z2⟩ := keys_short z
    obtain ⟨b1, hb1, k1⟩ := LieAll.show (prog := prog) (w := w) h4 s1 z1
    obtain ⟨b2, hb2, k2⟩ := LieAll.show (prog := prog) (w := w) h5 s2 z2
    have hb : ReadAtMost s.heap (PyData.depthKv kvs) (b1 ++ b2) := .append (hb1.mono (PyData.depthAll_keys_le kvs)) (hb2.mono (PyData.depthAll_vals_le kvs))
    have out : a ∉ b1 ++ b2 := not_mem_of_deeper ra (show PyData.depthKv kvs < (PyData.dict kvs).depth by simp only [PyData.depth]; omega) hb
    simp only [PyData.depth] at room
    simp only [PyData.shown, PyData.shownKv_eq] at hQ
    exact call_repr_slot (by omega) ⟨o, h1, h2⟩ F.slot_dict_repr (call_dict_reprK h1 h2 h3 hsys out (.of_two es.toArray.toList _ _ (k1.more_le (fun b m => List.mem_append_left _ m) (PyData.depthAll_keys_le kvs)) (k2.more_le (fun b m => List.mem_append_right _ m) (PyData.depthAll_vals_le kvs)))
      hg (fun b _ => Clear.nil b) room (fun _ _ e => e) (fun h' u tk k => ⟨_, _, rfl, hQ h' u tk k⟩) (by rw [← PyData.shownKv_eq]; exact z))
end
/-- repr -/
def rRepr (K : PySem.W.Frag) : List V → Hp → VK → Prop := fun xs H Q => ∃ v d F, xs = [v] ∧ Same F H ∧ IsO K F H v d ∧ d.showable = true ∧ d.depth ≤ 100 ∧ d.shown.length ≤ sizeLine ∧ Q (.str d.shown) H
section
variable {X : Cx}
theorem call_repr {k : Nat} (hr : RoomG k X.A) : CallR X (.builtin "repr") (rRepr X.K) := by
  intro pins s σ H xs us Q I r ⟨v, d, F, e, le, o, hs, hd, hz, q⟩
  subst e
  obtain ⟨u, rfl, ru⟩ := vals1 r
  have hu := hr.r.un
  exact (isO_lies I le o ru).call hs hz hr.g (by omega) fun h' t tk k => ⟨.str d.shown, H, I.kept k, ⟨t, rfl⟩, q⟩
def gRepr : List PyData → (PyData → Prop) → Prop
  | [d], Q => d.showable = true ∧ d.depth ≤ 100 ∧ d.shown.length ≤ sizeLine ∧ Q (.str d.shown)
  | _, _ => False
theorem d_repr : CallD X (rRepr X.K) gRepr := by
  intro C F H σ ρ vs ds Qz Q S h q k
  unfold gRepr at q
  split at q
  · rename_i d
    obtain ⟨v, rfl, o⟩ := allO_1 h
    exact ⟨v, d, F, rfl, S.le, o, q.1, q.2.1, q.2.2.1, k F H _ _ S (Same.refl _) (.str _ q.2.2.1) q.2.2.2⟩
  · exact q.elim
end
end DL
set_option Elab.async false
set_option linter.all false
set_option maxRecDepth 100000
set_option maxHeartbeats 4000000
/-! DL, the data layer (9): isinstance, len, tuple, list, sorted, all, int; items, slices, methods -/
namespace DL
open PySem PySem.Spec PyProof.Rows L2
/-! ### isinstance with a built-in class -/
def tyN : PyData → String
  | .none => "NoneType"
  | .bool _ => "bool"
  | .int _ => "int"
  | .str _ => "str"
  | .list _ => "list"
  | .tuple _ => "tuple"
  | .dict _ => "dict"
def isInt : PyData → Bool
  | .int _ => true
  | .bool _ => true
  | _ => false
def isBool : PyData → Bool
  | .bool _ => true
  | _ => false
def isStr : PyData → Bool
  | .str _ => true
  | _ => false
def isTup : PyData → Bool
  | .tuple _ => true
  | _ => false
def isList : PyData → Bool
  | .list _ => true
  | _ => false
def isDict : PyData → Bool
  | .dict _ => true
  | _ => false
theorem isi_int (d : PyData) : kitB (tyN d) "int" = some (isInt d) := by cases d <;> (simp only [tyN, isInt]; decide +kernel)
theorem isi_bool (d : PyData) : kitB (tyN d) "bool" = some (isBool d) := by cases d <;> (simp only [tyN, isBool]; decide +kernel)
theorem isi_str (d : PyData) : kitB (tyN d) "str" = some (isStr d) := by cases d <;> (simp only [tyN, isStr]; decide +kernel)
theorem isi_tup (d : PyData) : kitB (tyN d) "tuple" = some (isTup d) := by cases d <;> (simp only [tyN, isTup]; decide +kernel)
theorem isi_list (d : PyData) : kitB (tyN d) "list" = some (isList d) := by cases d <;> (simp only [tyN, isList]; decide +kernel)
theorem isi_dict (d : PyData) : kitB (tyN d) "dict" = some (isDict d) := by cases d <;> (simp only [tyN, isDict]; decide +kernel)
theorem tyX_of {K : PySem.W.Frag} {F H : Hp} {v : V} {d : PyData} (le : Same F H) (h : IsO K F H v d) : TyX K H v (.type (tyN d)) := by
  cases d with
  | none => rw [isO_none h]; exact .base .non
  | bool b => rw [isO_bool h]; exact .base (.bl b)
  | int i => rw [isO_int h]; exact .base (.int i)
  | str x => rw [(isO_str h).1]; exact .base (.str x)
  | list ds => obtain ⟨a, xs, rfl, e, _⟩ := isO_list le h; exact .base (.lst e)
  | tuple ds =>
    obtain ⟨a, xs, rfl, e, _⟩ := isO_tup h
    rcases sqT_mono le e with (e | ⟨o, e⟩) | ⟨o, its, n, e, c, _⟩
    · exact .base (.tup e)
    · exact .fTuple e
    · exact .kTuple e c
  | dict kvs => obtain ⟨a, ks, rfl, e, _⟩ := isO_dict le h; exact .base (.dK e)
def dIsi (f : PyData → Bool) (fe : DE) : DE := fun ρ Q E => fe ρ (fun d => Q (.bool (f d))) E
section
variable {X : Cx} {W : WX} {pos p p2 : Pos} {e : Expr} {es : List Expr} {fe : DE}
theorem pd_isi {T : Str} {Tn : String} {f : PyData → Bool} (hT : ∀ d, kitB (tyN d) Tn = some (f d)) (hm : X.mg "isinstance" = none) (hmT : X.mg T = none) (he : PE X e (tO X.K W fe)) (hg : Gl X "isinstance" := by rfl) (hgT : Gl X T := by rfl)
    (hvT : bootBuiltins T = some (.type Tn) := by decide +kernel) (hnT : T ≠ "__name__" := by decide) (hdT : (T == ("__debug__" : Str)) = false := by decide)
    (hs : starEach (e :: [.Name T p2]) X.env = (false, eval e X.env) :: starEach [.Name T p2] X.env := by rfl) (hs2 : starEach (.Name T p2 :: []) X.env = (false, eval (.Name T p2) X.env) :: starEach [] X.env := by rfl) (hpl : (backTo pos (starEach [.Name T p2] X.env)).any (·.1) = false := by rfl) :
    PE X (.Call (.Name "isinstance" p) [e, .Name T p2] [] pos) (tD X.K W (dIsi f fe)) :=
  PE.weak (pe_callB call_isi hg hm (by decide +kernel) (pa_cons he (pa_cons (pe_bltn hgT hmT hvT (show RelV (.ty Tn) (.type Tn) from rfl) hnT hdT) pa_nil hs2) hs) (by decide) (by decide) hs hpl) fun σ H Q ⟨C, F, ρ, Qd, Ed, S, h, k, x⟩ =>
    ⟨C, F, ρ, _, Ed, S, h, fun F1 H1 v d S1 s1 i1 q1 => ⟨v, _, _, _, f d, rfl, .ty Tn, tyX_of S1.le (i1 F1 H1 S1 (Same.refl _)), kit_ty (hT d), k F1 H1 _ _ S1 s1 (.bl _) q1⟩, x⟩
end
section
variable {X : Cx}
/-! ### len, tuple, list, all, int -/
def lenD : PyData → Option Nat
  | .str x => some x.length
  | .list ds => some ds.length
  | .tuple ds => some ds.length
  | .dict kvs => some kvs.length
  | _ => none
def gLen : List PyData → (PyData → Prop) → Prop
  | [.str x], Q => Q (.int x.length)
  | [.list ds], Q => Q (.int ds.length)
  | [.tuple ds], Q => Q (.int ds.length)
  | [.dict kvs], Q => Q (.int kvs.length)
  | _, _ => False
def rLen (K : PySem.W.Frag) : List V → Hp → VK → Prop := fun xs H Q => (∃ z, xs = [.str z] ∧ z.length ≤ sizeLine ∧ Q (.int z.length) H) ∨ (∃ p ys, xs = [.ref p] ∧ (SqL K H p ys ∨ SqT K H p ys) ∧ Q (.int ys.length) H) ∨ ∃ a kvs, xs = [V.ref a] ∧ H a = some (.dK kvs) ∧ Q (.int kvs.length) H
theorem call_lenA : CallR X (.builtin "len") (rLen X.K) := CallR.or call_len_str (CallR.or call_len_seq call_lenD)
theorem isKv_length {K : PySem.W.Frag} {F : Hp} : ∀ {ks : List (Key × V)} {kvs : List (PyData × PyData)}, IsKv K F ks kvs → ks.length = kvs.length
  | _, _, .nil => rfl
  | _, _, .cons _ t => by rw [List.length_cons, List.length_cons, isKv_length t]
theorem d_len : CallD X (rLen X.K) gLen := by
  intro C F H σ ρ vs ds Qz Q S h q k
  unfold gLen at q
  split at q
  · obtain ⟨v, rfl, o⟩ := allO_1 h
    obtain ⟨rfl, z⟩ := isO_str o
    exact .inl ⟨_, rfl, z, k F H _ _ S (Same.refl _) (.int _) q⟩
  · obtain ⟨v, rfl, o⟩ := allO_1 h
    obtain ⟨a, xs, rfl, e, z, t⟩ := isO_list S.le o
    exact .inr (.inl ⟨a, xs, rfl, .inl (.of e), by rw [t.length]; exact k F H _ _ S (Same.refl _) (.int _) q⟩)
  · obtain ⟨v, rfl, o⟩ := allO_1 h
    obtain ⟨a, xs, rfl, e, z, t⟩ := isO_tup o
    exact .inr (.inl ⟨a, xs, rfl, .inr (sqT_mono S.le e), by rw [t.length]; exact k F H _ _ S (Same.refl _) (.int _) q⟩)
  · obtain ⟨v, rfl, o⟩ := allO_1 h
    obtain ⟨a, ks, rfl, e, z, nd, t⟩ := isO_dict S.le o
    exact .inr (.inr ⟨a, ks, rfl, e, by rw [isKv_length t]; exact k F H _ _ S (Same.refl _) (.int _) q⟩)
  · exact q.elim
def gTuple : List PyData → (PyData → Prop) → Prop
  | [.list ds], Q => Q (.tuple ds)
  | [.tuple ds], Q => Q (.tuple ds)
  | _, _ => False
def rTuple (K : PySem.W.Frag) : List V → Hp → VK → Prop := fun xs H Q => ∃ p ys, xs = [.ref p] ∧ ((SqL K H p ys ∧ ∀ l, H l = none → Q (.ref l) (upd H l (.tup ys))) ∨ (SqT K H p ys ∧ Q (.ref p) H))
theorem d_tuple : CallD X (rTuple X.K) gTuple := by
  intro C F H σ ρ vs ds Qz Q S h q k
  unfold gTuple at q
  split at q
  · obtain ⟨v, rfl, o⟩ := allO_1 h
    obtain ⟨a, xs, rfl, e, z, t⟩ := isO_list S.le o
    refine ⟨a, xs, rfl, .inl ⟨.of e, fun l hl => ?_⟩⟩
    obtain ⟨S', s'⟩ := new_still S (o := .tup xs) hl
    exact k _ _ _ _ S' s' (.tup (.of upd_same) z (t.up s')) q
  · obtain ⟨v, rfl, o⟩ := allO_1 h
    obtain ⟨a, xs, rfl, e, z, t⟩ := isO_tup o
    exact ⟨a, xs, rfl, .inr ⟨sqT_mono S.le e, k F H _ _ S (Same.refl _) (.tup e z t) q⟩⟩
  · exact q.elim
/-- list(x), new -/
def gList : List PyData → (List PyData → Prop) → Prop
  | [.list ds], Q => Q ds
  | [.tuple ds], Q => Q ds
  | _, _ => False
def rList (K : PySem.W.Frag) : List V → Hp → VK → Prop := fun xs H Q => ∃ p ys, xs = [.ref p] ∧ (SqL K H p ys ∨ SqT K H p ys) ∧ ∀ l, H l = none → Q (.ref l) (upd H l (.lst ys))
theorem d_list : CallF X (rList X.K) gList := by
  intro C F H σ ρ vs ds Qz Q S h q k
  have go : ∀ {a : Addr} {xs : List V} {es : List PyData}, (SqL X.K H a xs ∨ SqT X.K H a xs) → xs.length ≤ sizeLine → IsAll X.K F xs es → Qz es → rList X.K [.ref a] H Q := by
    intro a xs es hq z t q
    refine ⟨a, xs, rfl, hq, fun l hl => ?_⟩
    have ap := S.new hl
    exact k F _ l xs es (S.fresh hl) (Same.refl _) ⟨ap.f, ap.h0, ap.bg, ap.no⟩ upd_same z t q
  unfold gList at q
  split at q
  · obtain ⟨v, rfl, o⟩ := allO_1 h
    obtain ⟨a, xs, rfl, e, z, t⟩ := isO_list S.le o
    exact go (.inl (.of e)) z t q
  · obtain ⟨v, rfl, o⟩ := allO_1 h
    obtain ⟨a, xs, rfl, e, z, t⟩ := isO_tup o
    exact go (.inr (sqT_mono S.le e)) z t q
  · exact q.elim
theorem isAll_bools {K : PySem.W.Frag} {F : Hp} : ∀ {bs : List Bool} {vs : List V}, IsAll K F vs (bs.map .bool) → vs = bs.map .bl
  | [], _, h => by cases h; rfl
  | b :: bs, _, h => by
    have h : IsAll K F _ (.bool b :: bs.map .bool) := h
    cases h with | cons a t => cases a; rw [isAll_bools t]; rfl
/-- all of a list of truths -/
def boolsOf : List PyData → Option (List Bool)
  | [] => some []
  | .bool b :: r => (boolsOf r).map (b :: ·)
  | _ => none
theorem boolsOf_map : ∀ (bs : List Bool), boolsOf (bs.map .bool) = some bs
  | [] => rfl
  | b :: bs => by simp [boolsOf, boolsOf_map bs]
def gAll : List PyData → (PyData → Prop) → Prop := fun ds Q => ∃ bs : List Bool, ds = [.list (bs.map .bool)] ∧ Q (.bool (bs.all id))
def gAny : List PyData → (PyData → Prop) → Prop := fun ds Q => ∃ bs : List Bool, ds = [.list (bs.map .bool)] ∧ Q (.bool (bs.any id))
theorem d_all : CallD X (rAll X.K) gAll := by
  intro C F H σ ρ vs ds Qz Q S h ⟨bs, e, q⟩ k
  subst e
  obtain ⟨v, rfl, o⟩ := allO_1 h
  obtain ⟨a, xs, rfl, e, z, t⟩ := isO_list S.le o
  rw [isAll_bools t] at e
  exact ⟨a, bs, rfl, .of e, k F H _ _ S (Same.refl _) (.bl _) q⟩
theorem d_any : CallD X (rAny X.K) gAny := by
  intro C F H σ ρ vs ds Qz Q S h ⟨bs, e, q⟩ k
  subst e
  obtain ⟨v, rfl, o⟩ := allO_1 h
  obtain ⟨a, xs, rfl, e, z, t⟩ := isO_list S.le o
  rw [isAll_bools t] at e
  exact ⟨a, bs, rfl, .of e, k F H _ _ S (Same.refl _) (.bl _) q⟩
def gIntC : List PyData → (PyData → Prop) → Prop
  | [.int i], Q => Q (.int i)
  | [.bool b], Q => Q (.int (if b then 1 else 0))
  | _, _ => False
def rInt1 : List V → Hp → VK → Prop := fun xs H Q => (∃ i, xs = [.int i] ∧ Q (.int i) H) ∨ ∃ k, xs = [.bl k] ∧ Q (.int (if k then 1 else 0)) H
theorem d_intC : CallD X rInt1 gIntC := by
  intro C F H σ ρ vs ds Qz Q S h q k
  unfold gIntC at q
  split at q
  · obtain ⟨v, rfl, o⟩ := allO_1 h
    rw [isO_int o]
    exact .inl ⟨_, rfl, k F H _ _ S (Same.refl _) (.int _) q⟩
  · obtain ⟨v, rfl, o⟩ := allO_1 h
    rw [isO_bool o]
    exact .inr ⟨_, rfl, k F H _ _ S (Same.refl _) (.int _) q⟩
  · exact q.elim
/-! ### sorted, of texts -/
theorem isAll_strs {K : PySem.W.Frag} {F : Hp} : ∀ {xs : List Str} {vs : List V}, IsAll K F vs (xs.map .str) → vs = xs.map .str ∧ ∀ x ∈ xs, x.length ≤ sizeLine
  | [], _, h => by cases h; exact ⟨rfl, fun _ m => nomatch m⟩
  | x :: xs, _, h => by
    have h : IsAll K F _ (.str x :: xs.map .str) := h
    cases h with | cons a t => cases a with | str _ z =>
      obtain ⟨e, zs⟩ := isAll_strs t
      exact ⟨by rw [e]; rfl, fun y hy => (List.mem_cons.mp hy).elim (fun q => by rw [q]; exact z) (zs y)⟩
theorem strs_isAll {K : PySem.W.Frag} {F : Hp} : ∀ {xs : List Str}, (∀ x ∈ xs, x.length ≤ sizeLine) → IsAll K F (xs.map .str) (xs.map .str)
  | [], _ => .nil
  | x :: xs, h => .cons (.str x (h x List.mem_cons_self)) (strs_isAll fun y hy => h y (List.mem_cons_of_mem _ hy))
def gSortS : List PyData → (List PyData → Prop) → Prop := fun ds Q => ∃ xs : List Str, ds = [.list (xs.map .str)] ∧ xs.length < 64 ∧ ∀ ys : List Str, ys.Perm xs → sortedS ys = true → Q (ys.map .str)
theorem d_sortS : CallF X (rSortedS X.K) gSortS := by
  intro C F H σ ρ vs ds Qz Q S h ⟨xs, e, h64, q⟩ k
  subst e
  obtain ⟨v, rfl, o⟩ := allO_1 h
  obtain ⟨a, us, rfl, e, z, t⟩ := isO_list S.le o
  obtain ⟨e2, zs⟩ := isAll_strs t
  subst e2
  refine ⟨a, xs, rfl, .of e, h64, fun ys p hp hs hl => ?_⟩
  have ap := S.new hl
  exact k F _ p _ _ (S.fresh hl) (Same.refl _) ⟨ap.f, ap.h0, ap.bg, ap.no⟩ upd_same (by rw [List.length_map, hp.length_eq]; exact small64 h64) (strs_isAll fun x hx => zs x (hp.mem_iff.mp hx)) (q ys hp hs)
/-! ### items -/
def gIx : PyData → PyData → (PyData → Prop) → Prop
  | .list ds, .int i, Q => ∃ d, atI ds i = some d ∧ Q d
  | .tuple ds, .int i, Q => ∃ d, atI ds i = some d ∧ Q d
  | .str x, .int i, Q => ∃ c, atI x.cps.toList i = some c ∧ Q (.str ⟨#[c]⟩)
  | _, _, _ => False
theorem atI_is {K : PySem.W.Frag} {F : Hp} {vs : List V} {ds : List PyData} {i : Int} {d : PyData} (t : IsAll K F vs ds) (h : atI ds i = some d) : ∃ v, atI vs i = some v ∧ Is K F v d := by
  unfold atI at h ⊢
  rw [t.length]
  cases e : ixN ds.length i with
  | none => rw [e] at h; cases h
  | some j =>
    rw [e] at h
    obtain ⟨v, h1, h2⟩ := t.getD h
    exact ⟨v, h1, h2⟩
theorem d_ix : OpD X (rIx X.K) gIx := by
  intro C F H σ ρ v u x y Qz Q S hv hu q k
  unfold gIx at q
  split at q
  · obtain ⟨a, xs, rfl, e, z, t⟩ := isO_list S.le hv
    have := isO_int hu; subst u
    obtain ⟨d, hd, q⟩ := q
    obtain ⟨w, h1, h2⟩ := atI_is t hd
    exact .inl ⟨a, xs, _, w, rfl, rfl, .of e, h1, k F H _ _ S (Same.refl _) h2 q⟩
  · obtain ⟨a, xs, rfl, e, z, t⟩ := isO_tup hv
    have := isO_int hu; subst u
    obtain ⟨d, hd, q⟩ := q
    obtain ⟨w, h1, h2⟩ := atI_is t hd
    exact .inr (.inl ⟨a, xs, _, w, rfl, rfl, sqT_mono S.le e, h1, k F H _ _ S (Same.refl _) h2 q⟩)
  · obtain ⟨rfl, z⟩ := isO_str hv
    have := isO_int hu; subst u
    obtain ⟨c, hc, q⟩ := q
    exact .inr (.inr ⟨_, _, c, rfl, rfl, z, hc, k F H _ _ S (Same.refl _) (.str _ (by show 1 ≤ sizeLine; decide)) q⟩)
  · exact q.elim
/-! ### slices -/
def cutD (ds : List PyData) (lo hi : Option Int) : List PyData := (ds.drop (HT.sIx ds.length 0 lo)).take (HT.sIx ds.length ds.length hi - HT.sIx ds.length 0 lo)
def gSl : PyData → Option Int → Option Int → (PyData → Prop) → Prop
  | .list ds, lo, hi, Q => Q (.list (cutD ds lo hi))
  | .tuple ds, lo, hi, Q => Q (.tuple (cutD ds lo hi))
  | .str x, lo, hi, Q => Q (.str (cutS x lo hi))
  | _, _, _, _ => False
def rSl (K : PySem.W.Frag) : V → Option Int → Option Int → Hp → VK → Prop := fun x lo hi H Q => rSlL K x lo hi H Q ∨ rSlA K x lo hi H Q ∨ rSlS x lo hi H Q
theorem sl_any : SlR X (rSl X.K) := SlR.or sl_list (SlR.or sl_tupA sl_str)
theorem cut_is {K : PySem.W.Frag} {F : Hp} {vs : List V} {ds : List PyData} {lo hi : Option Int} (t : IsAll K F vs ds) : IsAll K F (cutV vs lo hi) (cutD ds lo hi) := by
  unfold cutV cutD
  rw [t.length]
  exact (t.drop _).take _
theorem d_sl : SlD X (rSl X.K) gSl := by
  intro C F H σ ρ v x lo hi Qz Q S hv q k
  unfold gSl at q
  split at q
  · obtain ⟨a, xs, rfl, e, z, t⟩ := isO_list S.le hv
    refine .inl ⟨a, xs, rfl, .of e, fun p hp => ?_⟩
    obtain ⟨S', s'⟩ := new_still S (o := .lst (cutV xs lo hi)) hp
    exact k _ _ _ _ S' s' (.lst upd_same (Nat.le_trans (cutV_length xs lo hi) z) ((cut_is t).up s')) q
  · rename_i ds
    obtain ⟨a, xs, rfl, e, z, t⟩ := isO_tup hv
    refine .inr (.inl ⟨a, xs, rfl, sqT_mono S.le e, fun w => ?_, fun _ p hp => ?_⟩)
    · have whole : cutD ds lo hi = ds := by
        unfold cutD
        rw [t.length] at w
        rw [w.1, w.2]
        simp
      rw [whole] at q
      exact k F H _ _ S (Same.refl _) (.tup e z t) q
    · obtain ⟨S', s'⟩ := new_still S (o := .tup (cutV xs lo hi)) hp
      exact k _ _ _ _ S' s' (.tup (.of upd_same) (Nat.le_trans (cutV_length xs lo hi) z) ((cut_is t).up s')) q
  · obtain ⟨rfl, z⟩ := isO_str hv
    exact .inr (.inr ⟨_, rfl, z, k F H _ _ S (Same.refl _) (.str _ (Nat.le_trans (cutS_length _ lo hi) z)) q⟩)
  · exact q.elim
/-! ### str.upper -/
def gUpper : PyData → List PyData → (PyData → Prop) → Prop
  | .str x, [], Q => x.length ≤ 5592405 ∧ (Txt.upper x).length ≤ sizeLine ∧ Q (.str (Txt.upper x))
  | _, _, _ => False
theorem d_upper : MtD X (fun x xs H Q => ∃ a, x = .str a ∧ xs = [] ∧ a.length ≤ 5592405 ∧ Q (.str (Txt.upper a)) H) gUpper := by
  intro C F H σ ρ v x vs ds Qz Q S hv hs q k
  unfold gUpper at q
  split at q
  · obtain ⟨rfl, z⟩ := isO_str hv
    cases hs
    exact ⟨_, rfl, rfl, q.1, k F H _ _ S (Same.refl _) (.str _ q.2.1) q.2.2⟩
  · exact q.elim
end
/-! ### {} -/
section
variable {X : Cx} {W : WX} {pos : Pos}
def dEmptyK : DK := fun _ Q _ => Q []
theorem pg_empty : PE X (.Dict [] [] pos) (tG X.K W dEmptyK) := PE.weak pe_dnewK fun σ H Q ⟨C, F, ρ, Qd, Ed, S, h, k, x⟩ => fun p hp =>
  let ap := S.new hp
  k F _ p [] [] (S.fresh hp) (Same.refl _) ⟨ap.f, ap.h0, ap.bg, ap.no⟩ upd_same (Nat.zero_le _) List.nodup_nil .nil h
end
end DL
set_option Elab.async false
set_option linter.all false
set_option maxRecDepth 100000
set_option maxHeartbeats 4000000
/-! DL, the data layer: the law's end -/
namespace DL
open PySem PySem.Spec PyProof.Rows L2
/-- what the law's def promises: it hands back True -/
def spLaw (K : PySem.W.Frag) : Sp := fun vs H Q _ => ∃ (a : Addr) (ns : List Int), vs = [.ref a] ∧ SqL K H a (ns.map V.int) ∧ ns.length ≤ 63 ∧ ∀ H', Q (.bl true) H'
/-- the law's call, from its def's promise -/
theorem law_g {P : Program} {w : World} {K : PySem.W.Frag} {mg mb : Str → Option Value} {k : Nat} {fa a : Addr} {fd : FuncData} {x : Str} {s₁ : Shared} {vs : List Value} {ns : List Int}
    (KX : K.In s₁.heap) (hns : s₁.heap.Ns mainGlobals mg) (hb : s₁.heap.Ns builtinsNs mb) (hbb : ∀ x : Str, x ≠ "__name__" → mb x = bootBuiltins x) (hlim : s₁.heap.NoLimit) (hg : s₁.gens = #[])
    (ha : s₁.heap.get? a = some { cls := .type "list", data := .seq vs.toArray }) (hi : IntsAre vs ns) (hl : ns.length ≤ 63) (hr : RoomG k callerA)
    (F : ∀ base : Heap, K.In base → base.Ns mainGlobals mg → FnG P w K mg base CX0 k fa fd [x] (spLaw K)) (hbind : ∀ (s : Shared) (u : Value), BindsTo s fd ⟨[u], []⟩ [(x, u)]) :
    codeAny (model P w) callerA (.call (.ref fa) ⟨[.ref a], []⟩) (fun r s' => r = .ok (.ret (.bool true)) ∧ OldK s₁.heap s'.heap ∧ s'.os = s₁.os ∧ AllBare s'.gens) s₁ := by
  have rv := vals_ints hi
  have hlen := hi.length
  have big : ns.length ≤ sizeLine := Nat.le_trans hl (by decide)
  -- the script's own object, tracked as it stands, if the module doesn't hold it
  let so : Obj := { cls := .type "list", data := .seq vs.toArray }
  have main : ∀ H : Hp, SqL K H a (ns.map V.int) → HOk P w H s₁.heap → (∀ b, H b = none ∨ (b = a ∧ H b = some (.frz so (.lst (ns.map V.int))) ∧ K.lookup a = none)) →
      codeAny (model P w) callerA (.call (.ref fa) ⟨[.ref a], []⟩) (fun r s' => r = .ok (.ret (.bool true)) ∧ OldK s₁.heap s'.heap ∧ s'.os = s₁.os ∧ AllBare s'.gens) s₁ := by
    intro H hS hok only
    have there : ∀ {b : Addr} {o : Obj}, s₁.heap.get? b = some o → o ≠ so ∨ H b = none → (hidT s₁.heap H).get? b = some o := by
      intro b o e h
      refine hidT_get e ?_
      rcases only b with z | ⟨z, _, _⟩
      · exact z
      · subst z
        rw [ha] at e; cases e
        exact h.elim (fun q => absurd rfl q) id
    have ns' : ∀ {b : Addr} {m : Str → Option Value}, s₁.heap.Ns b m → (hidT s₁.heap H).Ns b m := by
      rintro b m ⟨o, es, ep, e, d, r⟩
      refine ⟨o, es, ep, there e (.inl fun z => ?_), d, r⟩
      subst z
      have d : Data.seq vs.toArray _ = Data.dict es ep := d
      cases d
    have kb : K.In (hidT s₁.heap H) := fun b o e => there (KX b o e) (.inr (by
      rcases only b with z | ⟨z, _, z2⟩
      · exact z
      · subst z; rw [z2] at e; cases e))
    obtain ⟨mc, l1, l2⟩ := hlim
    have e0 : Env0 P w K mg (hidT s₁.heap H) callerA [] s₁ H :=
      ⟨rfl, ⟨kb, ns' hns, ⟨mb, ns' hb, hbb⟩, ⟨mc, ns' l1, l2⟩⟩, fun b o e => of_hidT e, Nat.le_of_eq (hidT_size _ _), trivial, fun b hb => (nomatch hb), hok, .of_eq hg⟩
    refine codeAny_mono ((F _ kb (ns' hns)).run callerA [] s₁ H ⟨[.ref a], []⟩ [.ref a] [.ref a] (fun v _ => v = .bl true) (fun _ _ _ => False) hr e0 (hbind s₁ (.ref a)) (.cons rfl .nil) ⟨a, ns, rfl, hS, hl, fun _ => rfl⟩) fun r s' z => ?_
    match r, z with
    | .ok (.ret u), ⟨v, H', os, bare, un, hok', ru, q⟩ =>
      have q : v = .bl true := q
      subst q
      have ru : u = Value.bool true := ru
      subst ru
      refine ⟨rfl, OldK.of_keep fun b o e => ?_, os, bare⟩
      rcases only b with z | ⟨z, z1, _⟩
      · exact un.keep b o e z (fun m => (nomatch m)) (by simp)
      · subst z
        obtain ⟨h1, _⟩ := hok _ _ z1
        obtain ⟨h2, _⟩ := hok' _ _ (un.frzs _ _ _ z1)
        rw [e] at h1; cases h1
        exact h2
    | .ok .next, z => exact False.elim z
    | .ok .brk, z => exact False.elim z
    | .ok .cont, z => exact False.elim z
    | .error _, z => exact False.elim z
  cases hk : K.lookup a with
  | some o =>
    have e := KX a o hk
    rw [ha] at e
    cases e
    exact main (fun _ => none) (.inr ⟨_, vs.toArray, _, hk, rfl, rfl, rfl, by rw [List.size_toArray, hlen]; exact big, by simpa using rv⟩) (fun b u z => (nomatch z)) fun b => .inl rfl
  | none =>
    have at1 : (fun b => if b = a then some (HO.frz so (.lst (ns.map V.int))) else none) a = some (.frz so (.lst (ns.map V.int))) := if_pos rfl
    refine main (fun b => if b = a then some (.frz so (.lst (ns.map V.int))) else none) (.inl (.inr ⟨so, at1⟩)) (fun b u z => ?_) fun b => ?_
    · by_cases q : b = a
      · subst q
        have z : some (HO.frz so (.lst (ns.map V.int))) = some u := at1.symm.trans z
        cases z
        exact ⟨ha, by rw [List.length_map]; exact big, vs, _, rv, ha⟩
      · have z : (none : Option HO) = some u := (if_neg q).symm.trans z
        cases z
    · by_cases q : b = a
      · subst q; exact .inr ⟨rfl, at1, hk⟩
      · exact .inl (if_neg q)
/-- the goal that k_head leaves, from the law's promise -/
theorem walk_g {l : PySem.W.OpenLaw} {k : Nat} {q : Program} {loose : List Str} {XP : (Str → Option Value) → Heap → Prop} {YP : World → Heap → Prop} {d : DefRec} {K : Params → PySem.W.Frag} {x : Str}
    (hn : l.most = some 63) (hdf : d.params.defaults = []) (hr : RoomG k callerA) (hY : ∀ (w : World) (h : Heap), YP w h → (K w.params).In h)
    (F : ∀ (w : World) (mg : Str → Option Value) (fa : Addr) (h : Heap), (K w.params).In h → h.Ns mainGlobals mg → mg d.name = some (.ref fa) →
      ∃ fd : FuncData, (∀ (s : Shared) (u : Value), BindsTo s fd ⟨[u], []⟩ [(x, u)]) ∧ ∀ base : Heap, (K w.params).In base → base.Ns mainGlobals mg → FnG l.prog w (K w.params) mg base CX0 k fa fd [x] (spLaw (K w.params))) :
    PySem.W.WalkO q loose XP YP l.row.toRowW d [] (fun f vs => PySem.call f vs) :=
  Att.attach_callB hn hdf fun w s₀ s₁ mg mb fa o pm cd doc a vs ns G Y ho hd hcd hmg hobj hints hlen hbits hg =>
    let KX := hY w _ Y
    let ⟨_, hb, hF⟩ := F w mg fa _ KX G.T.g hmg
    law_g KX G.T.g G.T.b G.T.builtins G.T.nolimit hg hobj hints hlen hr hF hb
end DL
set_option Elab.async false
set_option linter.all false
set_option maxRecDepth 100000
set_option maxHeartbeats 4000000
/-! DL, the data layer (10): t[::-1]; insert, extend, stores; dicts written -/
namespace DL
open PySem PySem.Spec PyProof.Rows L2
open HT in
section
variable {prog : Program} {w : World} {A : Around} {E : Value → Shared → Prop} {s : Shared}
theorem fm_pure {α β : Type} {f : α → Option β} {g : α → β} : ∀ {l : List α}, (∀ m ∈ l, f m = some (g m)) → l.filterMap f = l.map g
  | [], _ => rfl
  | a :: l, h => by
    rw [List.filterMap_cons_some (h a (by simp)), List.map_cons, fm_pure fun m q => h m (by simp [q])]
theorem rev_pick (xs : Array Value) : ((List.range xs.size).filterMap fun (m : Nat) => xs[((xs.size : Int) - 1 + (m : Int) * (-1)).toNat]?) = xs.toList.reverse := by
  have all : ((List.range xs.size).filterMap fun (m : Nat) => xs[((xs.size : Int) - 1 + (m : Int) * (-1)).toNat]?) = (List.range xs.size).map fun m => xs.toList.getD (xs.size - 1 - m) .none := by
    apply fm_pure
    intro m hm
    have hm' := List.mem_range.mp hm
    have e : ((xs.size : Int) - 1 + (m : Int) * (-1)).toNat = xs.size - 1 - m := by omega
    have lt : xs.size - 1 - m < xs.size := by omega
    rw [e]
    simp [lt, List.getD]
  rw [all]
  apply List.ext_getElem
  · simp
  · intro i h1 h2
    have h : i < xs.size := by simpa using h1
    simp [List.getD, show xs.size - 1 - i < xs.size by omega]
/-- the slice [::-1], applied -/
theorem rev_applied {sl : Addr} {vl vu vs : Value} {n : Nat} {Q : Int × Int × Nat → Shared → Prop} (hs : s.heap.IsSliceOf sl vl vu vs) (pl : IsPart vl none) (pu : IsPart vu none) (ps : IsPart vs (some (-1)))
    (h : Q ((n : Int) - 1, -1, n) s) : wpAny (model prog w) A (Builtin.Slice.sliceApplied (.ref sl) (pure (n : Int))) Q E s := by
  have fin : (match Builtin.Slice.sliceAdjust none none (-1) (n : Int) with | (lo, hi) => (lo, (-1 : Int), Builtin.Slice.slicePlaces lo hi (-1))) = ((n : Int) - 1, -1, n) := by
    unfold Builtin.Slice.sliceAdjust Builtin.Slice.slicePlaces
    have h1 : (-1 : Int) < 0 := by decide
    have h2 : ¬ (-1 : Int) > 0 := by decide
    simp only [h1, h2, if_true, if_false]
    by_cases z : n = 0
    · subst z; rfl
    · have : ((n : Int) - 1) > -1 := by omega
      simp only [this, if_true]
      congr 2
      show (((n : Int) - 1 - (-1) - 1) / 1 + 1).toNat = n
      rw [Int.ediv_one]
      omega
  obtain ⟨o, ho, _, hd⟩ := id hs
  unfold Builtin.Slice.sliceApplied Builtin.Slice.sliceFields
  refine wpAny_bind (wpAny_bind (wpAny_field ho hd (x := vl) rfl (wpAny_bind (wpAny_field ho hd (x := vu) rfl (wpAny_bind (wpAny_field ho hd (x := vs) rfl (wpAny_pure ?_)))))))
  refine wpAny_bind (slicePart_ ps ?_)
  show wpAny _ _ (if ((-1 : Int) == 0) = true then _ else _) _ _ s
  rw [if_neg (by decide)]
  refine wpAny_bind (slicePart_ pl (wpAny_bind (slicePart_ pu (wpAny_bind (wpAny_pure ?_)))))
  show wpAny _ _ (pure (match Builtin.Slice.sliceAdjust none none (-1) (n : Int) with | (lo, hi) => (lo, (-1 : Int), Builtin.Slice.slicePlaces lo hi (-1)))) _ _ s
  rw [fin]
  exact wpAny_pure h
theorem rev_tuple {t sl : Addr} {items : Array Value} {vl vu vs : Value} {Q : Value → Shared → Prop} (ht : IsTup s.heap t items) (hs : s.heap.IsSliceOf sl vl vu vs) (pl : IsPart vl none) (pu : IsPart vu none) (ps : IsPart vs (some (-1)))
    (h : Q (.ref s.heap.objs.size) { s with heap := s.heap.push { cls := .type "tuple", data := .seq items.toList.reverse.toArray } }) (hsz : items.size ≤ sizeLine) : wpAny (model prog w) A (getItem (.ref t) (.ref sl)) Q E s := by
  have fits : sizeOk (.seq items.toList.reverse.toArray) := by
    show items.toList.reverse.toArray.size ≤ sizeLine
    simpa using hsz
  have ty : s.TypeIs (.ref sl) "slice" := let ⟨o, ho, hc, _⟩ := hs; ⟨o, ho, hc⟩
  unfold getItem
  try with_reducible refine wpAny_holding ?_
  first | refine wpAny_bind (wpAny_pure ?_) | skip
  refine wpAny_bind (wpAny_sequenceKey ht.typeIs (by decide) (wpAny_bind (wpAny_callSpecial?_slot (name := Str.ofString "__getitem__") ht.typeIs PyProof.Rows.slot_tuple_getitem
    (wpAny_call_entry PyProof.Rows.slot_tuple_getitem ht.typeIs entry_tuple_getitem ?_ (args_tuple_getitem _ _)))))
  show wpAny _ _ (Builtin.Tuple.tupleItemsOf (.ref t) >>= _) _ _ s
  refine wpAny_bind (tupleItemsOf_ ht (wpAny_bind (wpAny_typeOf ty ?_)))
  rw [if_pos (by decide)]
  refine wpAny_bind (rev_applied hs pl pu ps ?_)
  have no : ¬ ((((items.size : Int) - 1) == 0 && (-1 : Int) == 1 && items.size == items.size) = true) := by simp
  show wpAny _ _ (if (((items.size : Int) - 1) == 0 && (-1 : Int) == 1 && items.size == items.size) = true then _ else _) _ _ s
  rw [if_neg no, rev_pick]
  first
    | exact wpAny_bind (m := Builtin.Tuple.tupleExact _) (wpAny_newObj_type (wpAny_pure ⟨_, rfl, wpAny_pure h⟩) fits)
    | exact wpAny_bind (m := Builtin.Tuple.tupleExact _) (wpAny_newObj_type (wpAny_bind (wpAny_pure (wpAny_pure ⟨_, rfl, wpAny_pure h⟩))) fits)
    | exact wpAny_bind (wpAny_bind (m := Builtin.Tuple.tupleExact _) (wpAny_newObj_type (wpAny_pure (wpAny_pure ⟨_, rfl, wpAny_pure h⟩)) fits))
    | exact wpAny_bind (wpAny_bind (m := Builtin.Tuple.tupleExact _) (wpAny_newObj_type (wpAny_pure ⟨_, rfl, wpAny_pure h⟩) fits))
end
section
variable {X : Cx} {W : WX} {pos : Pos} {e : Expr} {es : List Expr} {f f1 f2 : DE}
/-- x[::-1], a list or a tuple -/
def tRev (K : PySem.W.Frag) (te : TE) : TE := fun σ H Q => te σ H fun x H1 => ∃ a xs, x = .ref a ∧ ((SqL K H1 a xs ∧ ∀ p, H1 p = none → Q (.ref p) (upd H1 p (.lst xs.reverse))) ∨ (SqT K H1 a xs ∧ ∀ p, H1 p = none → Q (.ref p) (upd H1 p (.tup xs.reverse))))
theorem pe_rev {te : TE} {k : Nat} {p1 p2 p3 : Pos} (he : PE X e te) : PE X (.Subscript e (.Slice none none (some (.UnaryOp .USub (.Constant (.int 1) k p1) p2)) p3) pos) (tRev X.K te) := by
  refine ⟨fun pins s σ H Q I h => ?_⟩
  refine Subscript_ (thn (he.run pins s σ H _ I h) fun v s1 ⟨x, H1, I1, r1, a, xs, ex, q⟩ => ?_)
  subst ex
  cases r1
  have third : PO X (some (.UnaryOp .USub (.Constant (.int 1) k p1) p2)) (tPart (tUn (rU fun i => .int (-i)) (tC (.int 1)))) := po_some (pe_un un_neg pe_int)
  refine wpAny_Slice (thn (po_none.run pins s1 σ H1 (fun o H2 => o = none ∧ H2 = H1) I1 ⟨rfl, rfl⟩) ?_)
  rintro vl s2 ⟨_, H2, I2, pl, rfl, rfl⟩
  refine thn (po_none.run pins s2 σ H2 (fun o H3 => o = none ∧ H3 = H2) I2 ⟨rfl, rfl⟩) ?_
  rintro vu s3 ⟨_, H3, I3, pu, rfl, rfl⟩
  refine thn (third.run pins s3 σ H3 (fun o H4 => o = some (-1) ∧ H4 = H3) I3 ⟨1, rfl, -1, rfl, rfl, rfl⟩) ?_
  rintro vs s4 ⟨_, H4, I4, ps, rfl, rfl⟩
  have I5 : Inv X pins σ H4 { s4 with heap := s4.heap.push { cls := .type "slice", data := .fields #[vl, vu, vs] } } := I4.kept (t' := s4.toks) fun b ob q => Heap.get?_push_of_some _ q
  show wpAny (model X.prog X.w) X.A (subscriptTail e (.Slice none none (some (.UnaryOp .USub (.Constant (.int 1) k p1) p2)) p3) (.ref a) (.ref s4.heap.objs.size)) (EP X pins σ Q) X.xe { s4 with heap := s4.heap.push { cls := .type "slice", data := .fields #[vl, vu, vs] } }
  rcases q with ⟨hx, q⟩ | ⟨hx, q⟩
  · obtain ⟨its, r, ht, hz⟩ := I5.list hx
    have hlen := r.length
    refine tail_any (ops := [.ref a, .ref s4.heap.objs.size]) ht.isList.typeIs (PySem.slot_list_getitem.lookup) ?_ (by with_unfolding_all rfl)
    refine wpAny_getItem_list_slice ht.isList (Heap.IsSliceOf.new _ vl vu vs) pl pu ps (by decide) ?_ (by rw [List.size_toArray]; omega)
    rw [PySem.W.krv_pick]
    exact ⟨.ref _, _, I5.laid (t' := s4.toks) (o := .lst xs.reverse) (fun b ob q => Heap.get?_push_of_some _ q) (Nat.le_refl _) ⟨by rw [List.length_reverse]; exact hz, _, 0, r.reverse, Heap.get?_push_size _ rfl⟩, rfl, q _ (I5.hok.fresh (Nat.le_refl _))⟩
  · obtain ⟨its, r, ht, hz⟩ := I5.tuple hx
    have hlen := r.length
    refine tail_any (ops := [.ref a, .ref s4.heap.objs.size]) ht.typeIs (PyProof.Rows.slot_tuple_getitem.lookup) ?_ (by with_unfolding_all rfl)
    refine rev_tuple ht (Heap.IsSliceOf.new _ vl vu vs) pl pu ps ?_ (by rw [List.size_toArray]; omega)
    exact ⟨.ref _, _, I5.laid (t' := s4.toks) (o := .tup xs.reverse) (fun b ob q => Heap.get?_push_of_some _ q) (Nat.le_refl _) ⟨by rw [List.length_reverse]; exact hz, _, r.reverse, IsTup.new _ _⟩, rfl, q _ (I5.hok.fresh (Nat.le_refl _))⟩
def dRev (f : DE) : DE := fun ρ Q E => f ρ (fun d => match d with | .list ds => Q (.list ds.reverse) | .tuple ds => Q (.tuple ds.reverse) | _ => False) E
theorem pd_rev {k : Nat} {p1 p2 p3 : Pos} (he : PE X e (tO X.K W f)) : PE X (.Subscript e (.Slice none none (some (.UnaryOp .USub (.Constant (.int 1) k p1) p2)) p3) pos) (tD X.K W (dRev f)) :=
  PE.weak (pe_rev he) fun σ H Q ⟨C, F, ρ, Qd, Ed, S, h, k, x⟩ => ⟨C, F, ρ, _, Ed, S, h, fun F1 H1 v d S1 s1 i1 q => by
    have o := i1 F1 H1 S1 (Same.refl _)
    split at q
    · obtain ⟨a, xs, rfl, e, z, t⟩ := isO_list S1.le o
      refine ⟨a, xs, rfl, .inl ⟨.of e, fun p hp => ?_⟩⟩
      obtain ⟨S', s'⟩ := new_still S1 (o := .lst xs.reverse) hp
      exact k _ _ _ _ S' (s1.trans s') (.lst upd_same (by rw [List.length_reverse]; exact z) (t.reverse.up s')) q
    · obtain ⟨a, xs, rfl, e, z, t⟩ := isO_tup o
      refine ⟨a, xs, rfl, .inr ⟨sqT_mono S1.le e, fun p hp => ?_⟩⟩
      obtain ⟨S', s'⟩ := new_still S1 (o := .tup xs.reverse) hp
      exact k _ _ _ _ S' (s1.trans s') (.tup (.of upd_same) (by rw [List.length_reverse]; exact z) (t.reverse.up s')) q
    · exact q.elim, x⟩

/-! ### x.insert(i, e), x.extend(e) -/
def dIns (i : Nat) (f1 f2 : DE) : DS := fun D ρ => match look ρ i with
  | .ownL ds => f1 ρ (fun a => f2 ρ (fun d => ∃ j : Int, a = .int j ∧ 0 ≤ j ∧ j < 2 ^ 62 ∧ ds.length < sizeLine ∧ D.nx (put ρ i (.ownL (ds.take j.toNat ++ [d] ++ ds.drop j.toNat)))) D.ex) D.ex
  | _ => False
theorem dins' (i : Nat) {o e2 : Expr} {apos cpos : Pos} (ho : PE X o (tVar i)) (he : PE X e (tD X.K W f1)) (he2 : PE X e2 (tD X.K W f2)) (hst : starEach [e, e2] X.env = (false, eval e X.env) :: starEach [e2] X.env := by rfl) (hst2 : starEach (e2 :: []) X.env = (false, eval e2 X.env) :: starEach [] X.env := by rfl)
    (hbase : attributeBase o "insert" X.env (eval o X.env) = eval o X.env := by rfl)
    (hfew : ((backTo cpos (starEach [e, e2] X.env)).all (fun x => !x.1) && (backToKw cpos (keywordEach [] X.env)).all (fun x => x.1.isSome)
      && decide ((e :: [e2]).length + ([] : List Keyword).length + (if ([] : List Keyword).isEmpty then 0 else 1) < 30)) = true := by rfl)
    (hline : (apos.endLine == cpos.line) = true := by rfl) (hplain : (backTo cpos (starEach [e2] X.env)).any (·.1) = false := by rfl)
    (hs : swapsWith (.Call (.Attribute o "insert" apos) [e, e2] [] cpos) none pos.line X.env = pure false := by rfl) :
    PS X (.Expr (.Call (.Attribute o "insert" apos) [e, e2] [] cpos) pos) (tDS X.K W (dIns i f1 f2)) :=
  PS.weak (ps_expr (pe_bm PySem.F.plainAttrs_list PySem.F.slot_list_insert PySem.F.type_list_insert mt_insert ho (pa_cons he (pa_cons he2 pa_nil hst2) hst) hbase hfew hline hst hplain) hs) fun D σ H ⟨C, F, ρ, Dd, m, S, h, E⟩ => by
    have q := S.ok i
    unfold dIns at h
    split at h
    · rename_i ds e
      rw [e] at q
      obtain ⟨a, xs, h1, h2, h3, h4⟩ := q
      refine ⟨_, val_some h1, .inl ⟨rfl, _, .of h2⟩, C, F, ρ, _, Dd.ex, S, h, fun F1 H1 v1 d1 S1 s1 i1 q1 => ⟨C, F1, ρ, _, Dd.ex, S1, q1, fun F2 H2 v2 d2 S2 s2 i2 q2 => ?_, E.exits⟩, E.exits⟩
      obtain ⟨j, rfl, j0, j1, lt, q2⟩ := q2
      cases i1
      have q3 := S2.ok i
      rw [e] at q3
      obtain ⟨a', xs', g1, g2, g3, g4⟩ := q3
      rw [h1] at g1; cases g1
      have hw : Owns (val σ i) (look ρ i) a := by rw [e]; exact ⟨h1, .inl ⟨_, rfl⟩⟩
      have lt' : xs'.length < sizeLine := by rw [g4.length]; exact lt
      refine ⟨a, xs', j, v2, rfl, rfl, g2, lt', j0, by omega, E.nx F2 _ σ _ (S2.mut (t := .ownL (ds.take j.toNat ++ [d2] ++ ds.drop j.toNat)) m h1 hw ⟨a, xs'.take j.toNat ++ [v2] ++ xs'.drop j.toNat, rfl, upd_same, ?_, ((g4.take j.toNat).append (.cons i2 .nil)).append (g4.drop j.toNat)⟩ ⟨rfl, .inl ⟨_, rfl⟩⟩) q2⟩
      rw [List.length_append, List.length_append, List.length_take, List.length_drop, List.length_singleton]
      omega
    · exact h.elim
def dExt (i : Nat) (f : DE) : DS := fun D ρ => match look ρ i with
  | .ownL ds => f ρ (fun d => ∃ es, d = .list es ∧ ds.length + es.length ≤ sizeLine ∧ D.nx (put ρ i (.ownL (ds ++ es)))) D.ex
  | _ => False
theorem dext' (i : Nat) {o : Expr} {apos cpos : Pos} (ho : PE X o (tVar i)) (he : PE X e (tD X.K W f)) (hst : starEach (e :: []) X.env = (false, eval e X.env) :: starEach [] X.env := by rfl)
    (hbase : attributeBase o "extend" X.env (eval o X.env) = eval o X.env := by rfl)
    (hfew : ((backTo cpos (starEach (e :: []) X.env)).all (fun x => !x.1) && (backToKw cpos (keywordEach [] X.env)).all (fun x => x.1.isSome)
      && decide ((e :: []).length + ([] : List Keyword).length + (if ([] : List Keyword).isEmpty then 0 else 1) < 30)) = true := by rfl)
    (hline : (apos.endLine == cpos.line) = true := by rfl) (hplain : (backTo cpos (starEach [] X.env)).any (·.1) = false := by rfl)
    (hs : swapsWith (.Call (.Attribute o "extend" apos) [e] [] cpos) none pos.line X.env = pure false := by rfl) :
    PS X (.Expr (.Call (.Attribute o "extend" apos) [e] [] cpos) pos) (tDS X.K W (dExt i f)) :=
  PS.weak (ps_expr (pe_bm PySem.F.plainAttrs_list PySem.F.slot_list_extend PySem.F.type_list_extend mt_extend ho (pa_cons he pa_nil hst) hbase hfew hline hst hplain) hs) fun D σ H ⟨C, F, ρ, Dd, m, S, h, E⟩ => by
    have q := S.ok i
    unfold dExt at h
    split at h
    · rename_i ds e
      rw [e] at q
      obtain ⟨a, xs, h1, h2, h3, h4⟩ := q
      refine ⟨_, val_some h1, .inl ⟨rfl, _, .of h2⟩, C, F, ρ, _, Dd.ex, S, h, fun F1 H1 v1 d1 S1 s1 i1 q1 => ?_, E.exits⟩
      obtain ⟨es, rfl, lt, q2⟩ := q1
      cases i1 with
      | @lst b ys _ eb zb tb =>
        have q3 := S1.ok i
        rw [e] at q3
        obtain ⟨a', xs', g1, g2, g3, g4⟩ := q3
        rw [h1] at g1; cases g1
        have hw : Owns (val σ i) (look ρ i) a := by rw [e]; exact ⟨h1, .inl ⟨_, rfl⟩⟩
        have lt' : xs'.length + ys.length ≤ sizeLine := by rw [g4.length, tb.length]; exact lt
        exact ⟨a, b, xs', ys, rfl, rfl, g2, S1.le _ _ eb, lt', E.nx F1 _ σ _ (S1.mut (t := .ownL (ds ++ es)) m h1 hw ⟨a, xs' ++ ys, rfl, upd_same, by rw [List.length_append]; exact lt', g4.append tb⟩ ⟨rfl, .inl ⟨_, rfl⟩⟩) q2⟩
    · exact h.elim
/-! ### x[i] = e, a list that the name alone holds -/
def dSetIx (i : Nat) (fi fv : DE) : DS := fun D ρ => fv ρ (fun d => match look ρ i with
  | .ownL ds => fi ρ (fun a => ∃ (k : Int) (j : Nat), a = .int k ∧ ixN ds.length k = some j ∧ D.nx (put ρ i (.ownL (ds.set j d)))) D.ex
  | _ => False) D.ex
theorem dsetix (i : Nat) {o ix ev : Expr} {tpos : Pos} (ho : PE X o (tVar i)) (hi : PE X ix (tD X.K W f1)) (hv : PE X ev (tD X.K W f2)) (hsw : swapsWithSole [.Subscript o ix tpos] ev pos.line X.env = pure false := by rfl) (hw : swappedStores [.Subscript o ix tpos] ev X.env = pure none := by rfl)
    (h1 : (assignEach [.Subscript o ix tpos] X.env).map (·.2) = [assign (.Subscript o ix tpos) X.env] := by rfl) (ha : ∀ v, assign (.Subscript o ix tpos) X.env v = (do
      let ov ← holding [v] (eval o X.env)
      let iv ← holding [v, ov] (eval ix X.env)
      standAt tpos
      holding [v, ov, iv] (setItem ov iv v)
      release [v, ov, iv] []) := by intro _; rfl) : PS X (.Assign [.Subscript o ix tpos] ev pos) (tDS X.K W (dSetIx i f1 f2)) :=
  PS.weak (ps_asg hv (pg_sub ho hi set_list ha) hsw hw h1) fun D σ H ⟨C, F, ρ, Dd, m, S, h, E⟩ => ⟨C, F, ρ, _, Dd.ex, S, h, fun F1 H1 v d S1 s1 i1 q1 => by
    have q := S1.ok i
    split at q1
    · rename_i ds e
      rw [e] at q
      obtain ⟨a, xs, h1, h2, h3, h4⟩ := q
      refine ⟨_, val_some h1, C, F1, ρ, _, Dd.ex, S1, q1, fun F2 H2 w z S2 s2 i2 q2 => ?_, E.exits⟩
      obtain ⟨k, j, rfl, hk, q2⟩ := q2
      cases i2
      have q3 := S2.ok i
      rw [e] at q3
      obtain ⟨a', xs', g1, g2, g3, g4⟩ := q3
      rw [h1] at g1; cases g1
      have hw : Owns (val σ i) (look ρ i) a := by rw [e]; exact ⟨h1, .inl ⟨_, rfl⟩⟩
      exact ⟨a, xs', k, j, rfl, rfl, g2, by rw [g4.length]; exact hk, E.nx F2 _ σ _ (S2.mut (t := .ownL (ds.set j d)) m h1 hw ⟨a, xs'.set j v, rfl, upd_same, by rw [List.length_set]; exact g3, g4.set j (i1.up s2)⟩ ⟨rfl, .inl ⟨_, rfl⟩⟩) q2⟩
    · exact q1.elim, E.exits⟩
end
end DL
set_option Elab.async false
set_option linter.all false
set_option maxRecDepth 100000
set_option maxHeartbeats 4000000
/-! DL, the data layer (11): the source of draws is read and written; lists by place, changed in place -/
namespace DL
open PySem PySem.Spec PyProof.Rows L2
section
variable {K : PySem.W.Frag} {C : Ctx} {F H : Hp} {σ : L2.St} {ρ : DEnv}
/-- the source's own list is written -/
theorem Sd.bagSet {p : Addr × Addr} {o : HO} (S : Sd K C F H σ ρ) (hp : C.bg = some p) (B : BagOk K F (upd H p.1 o) p) : Sd K C F (upd H p.1 o) σ ρ := by
  have keep : ∀ a u, a ≠ p.1 → H a = some u → upd H p.1 o a = some u := fun a u h e => by rw [upd_ne h]; exact e
  refine ⟨S.le0, fun a u e => keep a u (fun h => by rw [h, B.1] at e; cases e) (S.le _ _ e), fun a u e hb => keep a u (hb p hp).1 (S.frame a u e hb), S.still, fun q hq => ?_, S.len, fun i => ?_, S.own, S.dj⟩
  · rw [hp] at hq; cases hq; exact B
  · have q := S.ok i
    have ow := S.own i
    cases e : look ρ i with
    | undef => trivial
    | data d => rw [e] at q; exact q
    | ownL ds =>
      rw [e] at q ow; obtain ⟨a, xs, h1, h2, h3, h4⟩ := q
      exact ⟨a, xs, h1, keep _ _ ((ow a ⟨h1, .inl ⟨_, rfl⟩⟩).2.2 p hp).1 h2, h3, h4⟩
    | ownD kvs =>
      rw [e] at q ow; obtain ⟨a, xs, h1, h2, h3, h4⟩ := q
      exact ⟨a, xs, h1, keep _ _ ((ow a ⟨h1, .inr ⟨_, rfl⟩⟩).2.2 p hp).1 h2, h3, h4⟩
    | bag => rw [e] at q; exact q
end
section
variable {X : Cx} {W : WX} {pos : Pos} {e : Expr} {f : DE}
/-- a list's item, by values -/
theorem get_list : PGet X (rIxL X.K) := by
  intro pins s σ H x y v u Q I rx ry h
  obtain ⟨p, xs, i, z, rfl, rfl, hq, he, q⟩ := h
  cases rx
  obtain ⟨t, rfl⟩ := ry
  obtain ⟨its, r, pl, hz⟩ := I.list hq
  obtain ⟨j, h1, h2, h3, h4, h5⟩ := atI_get he
  obtain ⟨w, ew, rw'⟩ := r.get h2
  have hl := r.length
  have hn := line63
  have fin : EP X pins σ Q w s := ⟨z, H, I, rw', q⟩
  by_cases h0 : 0 ≤ i
  · have hj : i.toNat = j := by
      rw [seqIndex_of h0 h5] at h1
      exact Option.some.inj h1
    exact wpAny_getItem_list pl.isList h0 (by omega) (by rw [hj]; simpa using ew) fin
  · have hj : (i + (its.toArray.size : Int)).toNat = j := by
      rw [seqIndex_neg (by omega) h4] at h1
      rw [List.size_toArray, ← hl]
      exact Option.some.inj h1
    exact wpAny_getItem_list_neg pl.isList (by omega) (by rw [List.size_toArray] <;> omega) (by omega) (by rw [hj]; simpa using ew) fin
/-! ### the source of draws -/
/-- bag[0], bag[1], bag[2]: some number -/
def dBag (i : Nat) (j : Int) : DE := fun ρ Q _ => look ρ i = .bag ∧ ∀ n : Int, 0 ≤ n → (j = 1 → n < 2147483647) → Q (.int n)
/-- bag[3]: some numbers -/
def dBag3 (i : Nat) : DE := fun ρ Q _ => look ρ i = .bag ∧ ∀ ns : List Int, ns.length ≤ 63 → (∀ n ∈ ns, 0 ≤ n) → Q (.list (ns.map .int))
theorem pd_bag' (i : Nat) {j : Int} {o : Expr} {jj : Nat} {pos2 : Pos} (hj : j = 0 ∨ j = 1 ∨ j = 2) (ho : PE X o (tVar i)) : PE X (.Subscript o (.Constant (.int j) jj pos2) pos) (tD X.K W (dBag i j)) :=
  PE.weak (pe_ix ix_list ho pe_int (fun _ _ => rfl)) fun σ H Q ⟨C, F, ρ, Qd, Ed, S, h, k, x⟩ => by
    obtain ⟨h, q⟩ := h
    have q' := S.ok i
    rw [h] at q'
    obtain ⟨p, h1, h2⟩ := q'
    obtain ⟨n1, n2, x, y, z, c, cells, t, g1, g2, g3, g4, g5, g6, g7, g8⟩ := S.bag p h1
    rcases hj with rfl | rfl | rfl
    · exact ⟨_, val_some h2, p.1, _, 0, .int x, rfl, rfl, SqL.of g1, atI_nat (j := 0) rfl, k F H _ _ S (Same.refl _) (.int x) (q x g2 (fun z => by omega))⟩
    · exact ⟨_, val_some h2, p.1, _, 1, .int y, rfl, rfl, SqL.of g1, atI_nat (j := 1) rfl, k F H _ _ S (Same.refl _) (.int y) (q y g3 (fun _ => g4))⟩
    · exact ⟨_, val_some h2, p.1, _, 2, .int z, rfl, rfl, SqL.of g1, atI_nat (j := 2) rfl, k F H _ _ S (Same.refl _) (.int z) (q z g5 (fun z => by omega))⟩
theorem pd_bag3' (i : Nat) {o : Expr} {jj : Nat} {pos2 : Pos} (ho : PE X o (tVar i)) : PE X (.Subscript o (.Constant (.int 3) jj pos2) pos) (tD X.K W (dBag3 i)) :=
  PE.weak (pe_ix ix_list ho pe_int (fun _ _ => rfl)) fun σ H Q ⟨C, F, ρ, Qd, Ed, S, h, k, x⟩ => by
    obtain ⟨h, q⟩ := h
    have q' := S.ok i
    rw [h] at q'
    obtain ⟨p, h1, h2⟩ := q'
    obtain ⟨n1, n2, x, y, z, c, cells, t, g1, g2, g3, g4, g5, g6, g7, g8⟩ := S.bag p h1
    exact ⟨_, val_some h2, p.1, _, 3, .ref c, rfl, rfl, SqL.of g1, atI_nat (j := 3) rfl, k F H _ _ S (Same.refl _) g6 (q cells g7.1 g7.2)⟩
theorem pd_bag (i : Nat) {j : Int} {x : Str} {jj : Nat} {p1 pos2 : Pos} (hj : j = 0 ∨ j = 1 ∨ j = 2 := by decide) (hN : X.N[i]? = some x := by rfl) (hv : Vis X.env.scope x := by first | exact Or.inl rfl | exact Or.inr (Or.inl rfl) | exact Or.inr (Or.inr rfl)) (hd : (x == ("__debug__" : Str)) = false := by decide)
    (hcd : (x == ("__classdict__" : Str)) = false := by decide) : PE X (.Subscript (.Name x p1) (.Constant (.int j) jj pos2) pos) (tD X.K W (dBag i j)) := pd_bag' i hj (pe_var hN hv hd hcd)
theorem pd_bag3 (i : Nat) {x : Str} {jj : Nat} {p1 pos2 : Pos} (hN : X.N[i]? = some x := by rfl) (hv : Vis X.env.scope x := by first | exact Or.inl rfl | exact Or.inr (Or.inl rfl) | exact Or.inr (Or.inr rfl)) (hd : (x == ("__debug__" : Str)) = false := by decide)
    (hcd : (x == ("__classdict__" : Str)) = false := by decide) : PE X (.Subscript (.Name x p1) (.Constant (.int 3) jj pos2) pos) (tD X.K W (dBag3 i)) := pd_bag3' i (pe_var hN hv hd hcd)
/-- bag[j] = e -/
def dSetBag (i : Nat) (j : Int) (f : DE) : DS := fun D ρ => f ρ (fun d => ∃ n : Int, d = .int n ∧ 0 ≤ n ∧ (j = 1 → n < 2147483647) ∧ look ρ i = .bag ∧ D.nx ρ) D.ex
theorem Sd.bagAt {K : PySem.W.Frag} {C : Ctx} {F H : Hp} {σ : L2.St} {ρ : DEnv} {i : Nat} (S : Sd K C F H σ ρ) (h : look ρ i = .bag) : ∃ p, C.bg = some p ∧ val σ i = some (.ref p.1) ∧ BagOk K F H p := by
  have q := S.ok i
  rw [h] at q
  obtain ⟨p, h1, h2⟩ := q
  exact ⟨p, h1, h2, S.bag p h1⟩
/-- the first, second, third number is another one -/
theorem BagOk.put {K : PySem.W.Frag} {F H : Hp} {p : Addr × Addr} (B : BagOk K F H p) {j : Nat} (hj : j < 3) {n : Int} (h0 : 0 ≤ n) (h1 : j = 1 → n < 2147483647) : ∃ xs, H p.1 = some (.lst xs) ∧ ixN xs.length (j : Int) = some j ∧ BagOk K F (upd H p.1 (.lst (xs.set j (.int n)))) p := by
  obtain ⟨n1, n2, x, y, z, c, cells, t, g1, g2, g3, g4, g5, g6, g7, g8⟩ := B
  refine ⟨_, g1, ?_, ?_⟩
  · unfold ixN
    rw [if_pos (by omega), if_pos (by simp only [List.length_cons]; omega)]; simp
  · have e8 : ∀ o, (t = [] ∧ p.2 = p.1) ∨ (t = [.ref p.2] ∧ p.1 ≠ p.2 ∧ ∃ (words : List V) (wds : List Str), upd H p.1 o p.2 = some (.lst words) ∧ IsAll K F words (wds.map .str) ∧ wds.length ≤ 100) := fun o =>
      g8.imp id fun ⟨e, ne, words, wds, q1, q2, q3⟩ => ⟨e, ne, words, wds, by rw [upd_ne (Ne.symm ne)]; exact q1, q2, q3⟩
    match j, hj with
    | 0, _ => exact ⟨n1, n2, n, y, z, c, cells, t, upd_same, h0, g3, g4, g5, g6, g7, e8 _⟩
    | 1, _ => exact ⟨n1, n2, x, n, z, c, cells, t, upd_same, g2, h0, h1 rfl, g5, g6, g7, e8 _⟩
    | 2, _ => exact ⟨n1, n2, x, y, n, c, cells, t, upd_same, g2, g3, g4, h0, g6, g7, e8 _⟩
theorem dsetbag' (i : Nat) (j : Nat) {o ev : Expr} {jj : Nat} {p2 tpos : Pos} (hj : j < 3) (ho : PE X o (tVar i)) (hv : PE X ev (tD X.K W f)) (hsw : swapsWithSole [.Subscript o (.Constant (.int (j : Int)) jj p2) tpos] ev pos.line X.env = pure false := by rfl) (hw : swappedStores [.Subscript o (.Constant (.int (j : Int)) jj p2) tpos] ev X.env = pure none := by rfl)
    (h1 : (assignEach [.Subscript o (.Constant (.int (j : Int)) jj p2) tpos] X.env).map (·.2) = [assign (.Subscript o (.Constant (.int (j : Int)) jj p2) tpos) X.env] := by rfl) (ha : ∀ v, assign (.Subscript o (.Constant (.int (j : Int)) jj p2) tpos) X.env v = (do
      let ov ← holding [v] (eval o X.env)
      let iv ← holding [v, ov] (eval (.Constant (.int (j : Int)) jj p2) X.env)
      standAt tpos
      holding [v, ov, iv] (setItem ov iv v)
      release [v, ov, iv] []) := by intro _; rfl) : PS X (.Assign [.Subscript o (.Constant (.int (j : Int)) jj p2) tpos] ev pos) (tDS X.K W (dSetBag i j f)) :=
  PS.weak (ps_asg hv (pg_sub ho pe_int set_list ha) hsw hw h1) fun D σ H ⟨C, F, ρ, Dd, m, S, h, E⟩ => ⟨C, F, ρ, _, Dd.ex, S, h, fun F1 H1 v d S1 s1 i1 q1 => by
    obtain ⟨n, rfl, q1, q2, q3, q4⟩ := q1
    cases i1
    obtain ⟨p, b1, b2, B⟩ := S1.bagAt q3
    obtain ⟨xs, g1, g2, B'⟩ := B.put hj q1 (fun e => q2 (by omega))
    exact ⟨_, val_some b2, p.1, xs, j, j, rfl, rfl, g1, g2, E.nx F1 _ σ ρ (S1.bagSet b1 B') q4⟩, E.exits⟩
/-- bag[j] += e -/
def dAugBag (i : Nat) (j : Int) (f : DE) : DS := fun D ρ => look ρ i = .bag ∧ j ≠ 1 ∧ f ρ (fun d => ∃ n : Int, d = .int n ∧ 0 ≤ n ∧ look ρ i = .bag ∧ D.nx ρ) D.ex
theorem daugbag' (i : Nat) (j : Nat) {o ev : Expr} {jj : Nat} {p2 tpos : Pos} (hj : j < 3) (ho : PE X o (tVar i)) (hv : PE X ev (tD X.K W f)) (ha : ∀ ov iv new, augStore (.Constant (.int (j : Int)) jj p2) ov iv new = (do holding [new, ov, iv] (setItem ov iv new); release [new, ov, iv] []; pure .next) := by intros; rfl) :
    PS X (.AugAssign (.Subscript o (.Constant (.int (j : Int)) jj p2) tpos) .Add ev pos) (tDS X.K W (dAugBag i j f)) :=
  PS.weak (ps_augS ho pe_int get_list hv ip_add set_list ha) fun D σ H ⟨C, F, ρ, Dd, m, S, h, E⟩ => by
    obtain ⟨h, hne, q⟩ := h
    obtain ⟨p, b1, b2, B⟩ := S.bagAt h
    obtain ⟨n1, n2, x, y, z, c, cells, t, g1, g2, g3, g4, g5, g6, g7, g8⟩ := B
    have old : ∃ n : Int, 0 ≤ n ∧ atI (.int x :: .int y :: .int z :: .ref c :: t) (j : Int) = some (V.int n) := by
      match j, hj with
      | 0, _ => exact ⟨x, g2, atI_nat (j := 0) rfl⟩
      | 1, _ => exact absurd rfl hne
      | 2, _ => exact ⟨z, g5, atI_nat (j := 2) rfl⟩
    obtain ⟨n, hn, en⟩ := old
    refine ⟨_, val_some b2, p.1, _, (j : Int), .int n, rfl, rfl, SqL.of g1, en, C, F, ρ, _, Dd.ex, S, q, fun F1 H1 v d S1 s1 i1 q1 => ?_, E.exits⟩
    obtain ⟨m', rfl, q1, q3, q4⟩ := q1
    cases i1
    obtain ⟨p', b1', b2', B⟩ := S1.bagAt q3
    rw [b1] at b1'; cases b1'
    obtain ⟨xs, g1, g2, B'⟩ := B.put (n := n + m') hj (by omega) (fun e => absurd (show (j : Int) = 1 by omega) hne)
    exact ⟨n, m', rfl, rfl, p.1, xs, j, j, rfl, rfl, g1, g2, E.nx F1 _ σ ρ (S1.bagSet b1 B') q4⟩
end
end DL
set_option Elab.async false
set_option linter.all false
set_option maxRecDepth 100000
set_option maxHeartbeats 4000000
/-! DL, the data layer (12): dicts written -/
namespace DL
open PySem PySem.Spec PyProof.Rows L2
section
variable {X : Cx} {W : WX} {pos : Pos} {e : Expr}
/-- {k: v, ..}, new; keys are numbers or texts, no two alike -/
def dPairs : List (DE × DE) → DEnv → (List (PyData × PyData) → Prop) → (ExcD → Prop) → Prop
  | [], _, Q, _ => Q []
  | (fk, fv) :: r, ρ, Q, E => fk ρ (fun k => fv ρ (fun v => dPairs r ρ (fun kvs => Q ((k, v) :: kvs)) E) E) E
def keyOf : PyData → Option Key
  | .int i => some (.inl i)
  | .str x => some (.inr x)
  | _ => none
def keysOf : List (PyData × PyData) → Option (List Key)
  | [] => some []
  | (k, _) :: r => match keyOf k, keysOf r with | some k, some r => some (k :: r) | _, _ => none
def dDisp (fs : List (DE × DE)) : DK := fun ρ Q E => dPairs fs ρ (fun kvs => ∃ ks, keysOf kvs = some ks ∧ ks.Nodup ∧ Q kvs) E
inductive IsPairs (K : PySem.W.Frag) (F : Hp) : List (V × V) → List (PyData × PyData) → Prop
  | nil : IsPairs K F [] []
  | cons {k v : V} {ps : List (V × V)} {a b : PyData} {kvs : List (PyData × PyData)} : Is K F k a → Is K F v b → IsPairs K F ps kvs → IsPairs K F ((k, v) :: ps) ((a, b) :: kvs)
theorem pairs_read {K : PySem.W.Frag} {C : Ctx} {σ : L2.St} {ρ : DEnv} {Ed : ExcD → Prop} (hx : Exits K W C σ ρ Ed) : ∀ (fs : List (DE × DE)) {F H : Hp} {Qd : List (PyData × PyData) → Prop} {Q : List (V × V) → Hp → Prop}, Sd K C F H σ ρ → dPairs fs ρ Qd Ed →
    (∀ F' H' ps kvs, Sd K C F' H' σ ρ → Same F F' → IsPairs K F' ps kvs → kvs.length = fs.length → Qd kvs → Q ps H') → tPairs (fs.map fun p => (tD K W p.1, tD K W p.2)) σ H Q
  | [], F, H, Qd, Q, S, h, k => k F H [] [] S (Same.refl _) .nil rfl h
  | (fk, fv) :: r, F, H, Qd, Q, S, h, k => ⟨C, F, ρ, _, Ed, S, h, fun F1 H1 x a S1 s1 i1 q1 => ⟨C, F1, ρ, _, Ed, S1, q1, fun F2 H2 y b S2 s2 i2 q2 =>
      pairs_read hx r S2 q2 fun F3 H3 ps kvs S3 s3 i3 l3 q3 => k F3 H3 _ _ S3 (s1.trans (s2.trans s3)) (.cons (i1.up (s2.trans s3)) (i2.up s3) i3) (by rw [List.length_cons, List.length_cons, l3]) q3, hx⟩, hx⟩
theorem merge_new : ∀ {more kvs : List (Key × V)}, ((kvs ++ more).map (·.1)).Nodup → mergeK kvs more = kvs ++ more
  | [], kvs, _ => by rw [List.append_nil]; rfl
  | p :: r, kvs, h => by
    have hn : ∀ q ∈ kvs, q.1 ≠ p.1 := by
      intro q hq e
      rw [List.map_append, List.nodup_append] at h
      exact h.2.2 q.1 (List.mem_map.mpr ⟨q, hq, rfl⟩) p.1 (by simp) e
    have e : putK kvs p.1 p.2 = kvs ++ [(p.1, p.2)] := by
      unfold putK
      rw [if_neg]
      rw [Bool.not_eq_true, List.any_eq_false]
      intro q hq
      simpa using hn q hq
    show mergeK (putK kvs p.1 p.2) r = _
    rw [e, merge_new (by simpa using h)]
    simp
theorem pairs_keys {K : PySem.W.Frag} {F : Hp} : ∀ {ps : List (V × V)} {kvs : List (PyData × PyData)} {ks : List Key}, IsPairs K F ps kvs → keysOf kvs = some ks → ∃ kv : List (Key × V), ps = kv.map (fun p => (kV p.1, p.2)) ∧ kv.map (·.1) = ks ∧ IsKv K F kv kvs
  | _, _, ks, .nil, h => by
    cases h
    exact ⟨[], rfl, rfl, .nil⟩
  | _, _, ks, .cons (k := k) (v := v) (a := a) (b := b) i1 i2 t, h => by
    unfold keysOf at h
    split at h
    · rename_i k' r' e1 e2
      cases h
      obtain ⟨kv, h1, h2, h3⟩ := pairs_keys t e2
      have hk : k = kV k' ∧ a = keyD k' := by
        unfold keyOf at e1
        split at e1
        · cases e1; cases i1; exact ⟨rfl, rfl⟩
        · cases e1; cases i1; exact ⟨rfl, rfl⟩
        · cases e1
      obtain ⟨rfl, rfl⟩ := hk
      exact ⟨(k', v) :: kv, by rw [h1]; rfl, by rw [← h2]; rfl, .cons i2 h3⟩
    · cases h
/-- .. with its pairs' rules -/
theorem pg_disp {keys : List (Option Expr)} {values : List Expr} {fs : List (DE × DE)} (h : PPs X pos keys values (fs.map fun p => (tD X.K W p.1, tD X.K W p.2))) (hall : keys.all (·.isSome) = true := by rfl) (hl : keys.length = values.length := by rfl) (h0 : keys ≠ [] := by simp)
    (h15 : keys.length ≤ 15 := by decide) (hf : fs.length ≤ 15 := by decide) : PE X (.Dict keys values pos) (tG X.K W (dDisp fs)) := PE.weak (pe_disp h hall hl h0 h15) fun σ H Q ⟨C, F, ρ, Qd, Ed, S, h, k, x⟩ => fun p hp => by
  have S1 := S.fresh (o := .dK []) hp
  have ap := S.new hp
  have N1 := S1.nest
  refine pairs_read (C := ⟨upd H p (.dK []), F, C.bg, false⟩) (Ed := Ed) (fun F' H' c dd y S' e q => x F' H' c dd y (S1.unnest S') e q) fs N1 h fun F2 H2 ps kvs S2 s2 i2 l2 q2 => ?_
  obtain ⟨ks, hk, nd, q2⟩ := q2
  have hp2 : H2 p = some (.dK []) := S2.frame p _ upd_same ap.bg
  have fp : F2 p = none := S2.still p (by show upd H p (.dK []) p ≠ none; rw [upd_same]; simp) ap.f
  obtain ⟨kv, e1, e2, i3⟩ := pairs_keys i2 hk
  have hlen : kv.length ≤ 15 := by rw [isKv_length i3, l2]; exact hf
  have nd' : (kv.map (·.1)).Nodup := by rw [e2]; exact nd
  have em : mergeK [] kv = kv := merge_new nd'
  have ap2 : Apart C F2 H2 σ ρ p := ⟨fp, ap.h0, ap.bg, ap.no⟩
  refine ⟨hp2, kv, e1, hlen, ?_⟩
  rw [em]
  exact k F2 _ p kv kvs ((S1.unnest S2).write ap2) s2 ⟨fp, ap.h0, ap.bg, ap.no⟩ upd_same (Nat.le_trans hlen (by decide)) nd' i3 q2
end
end DL
set_option Elab.async false
set_option linter.all false
set_option maxRecDepth 100000
set_option maxHeartbeats 4000000
/-! DL, the data layer (13): a, b = x, y -/
namespace DL
open PySem PySem.Spec PyProof.Rows L2
section
variable {X : Cx} {W : WX} {pos : Pos} {a b c : Expr} {fs : DL'} {px py pz pt : Pos} {x y z : Str} {kt k2 : Nat} {pt2 : Pos}
def dPar (i j : Nat) (fs : DL') : DS := fun D ρ => i < ρ.length ∧ j < ρ.length ∧ fs ρ (fun ds => match ds with | [a, b] => D.nx (put (put ρ i (.data a)) j (.data b)) | _ => False) D.ex
theorem dpar (i j : Nat) (hN : X.N.Nodup) (ha : PA X [a, b] (tS X.K W fs)) (hi : X.N[i]? = some x := by rfl) (hj : X.N[j]? = some y := by rfl) (hij : i ≠ j := by decide) (hx : X.env.scope.names.lookup x = some .local := by rfl) (hy : X.env.scope.names.lookup y = some .local := by rfl) (hc : X.calm = true := by rfl)
    (hw : swappedStores [.Tuple [.Name x px, .Name y py] kt pt] (.Tuple [a, b] k2 pt2) X.env = pure (some [x, y]) := by rfl)
    (hs : swapsWithSole [.Tuple [.Name x px, .Name y py] kt pt] (.Tuple [a, b] k2 pt2) pos.line X.env = pure false := by rfl) :
    PS X (.Assign [.Tuple [.Name x px, .Name y py] kt pt] (.Tuple [a, b] k2 pt2) pos) (tDS X.K W (dPar i j fs)) :=
  PS.weak (ps_par hc hN hi hj hij hx hy ha hw hs) fun D σ H ⟨C, F, ρ, Dd, m, S, ⟨hi, hj, h⟩, E⟩ => ⟨C, F, ρ, _, Dd.ex, S, h, fun F1 H1 vs ds S1 s1 i1 q1 => by
    split at q1
    · cases i1 with | cons i1 t => cases t with | cons i2 t => cases t; exact ⟨_, _, rfl, E.nx F1 H1 _ _ ((S1.storeD (by rw [← S.len]; exact hi) i1).storeD (by rw [List.length_set, ← S.len]; exact hj) i2) q1⟩
    · exact q1.elim, E.exits⟩
def dPar3 (i j l : Nat) (fs : DL') : DS := fun D ρ => i < ρ.length ∧ j < ρ.length ∧ l < ρ.length ∧ fs ρ (fun ds => match ds with | [a, b, c] => D.nx (put (put (put ρ i (.data a)) j (.data b)) l (.data c)) | _ => False) D.ex
theorem dpar3 (i j l : Nat) (hN : X.N.Nodup) (ha : PA X [a, b, c] (tS X.K W fs)) (hi : X.N[i]? = some x := by rfl) (hj : X.N[j]? = some y := by rfl) (hl : X.N[l]? = some z := by rfl) (hij : i ≠ j := by decide) (hil : i ≠ l := by decide) (hjl : j ≠ l := by decide)
    (hx : X.env.scope.names.lookup x = some .local := by rfl) (hy : X.env.scope.names.lookup y = some .local := by rfl) (hz : X.env.scope.names.lookup z = some .local := by rfl) (hc : X.calm = true := by rfl)
    (hw : swappedStores [.Tuple [.Name x px, .Name y py, .Name z pz] kt pt] (.Tuple [a, b, c] k2 pt2) X.env = pure (some [x, y, z]) := by rfl)
    (hs : swapsWithSole [.Tuple [.Name x px, .Name y py, .Name z pz] kt pt] (.Tuple [a, b, c] k2 pt2) pos.line X.env = pure false := by rfl) :
    PS X (.Assign [.Tuple [.Name x px, .Name y py, .Name z pz] kt pt] (.Tuple [a, b, c] k2 pt2) pos) (tDS X.K W (dPar3 i j l fs)) :=
  PS.weak (ps_par3 hc hN hi hj hl hij hil hjl hx hy hz ha hw hs) fun D σ H ⟨C, F, ρ, Dd, m, S, ⟨hi, hj, hl, h⟩, E⟩ => ⟨C, F, ρ, _, Dd.ex, S, h, fun F1 H1 vs ds S1 s1 i1 q1 => by
    split at q1
    · cases i1 with | cons i1 t => cases t with | cons i2 t => cases t with | cons i3 t => cases t; exact ⟨_, _, _, rfl, E.nx F1 H1 _ _ (((S1.storeD (by rw [← S.len]; exact hi) i1).storeD (by rw [List.length_set, ← S.len]; exact hj) i2).storeD (by rw [List.length_set, List.length_set, ← S.len]; exact hl) i3) q1⟩
    · exact q1.elim, E.exits⟩
end
end DL
set_option Elab.async false
set_option linter.all false
set_option maxRecDepth 100000
set_option maxHeartbeats 4000000
/-! DL, the data layer (14): the source of draws is made; the law's def -/
namespace DL
open PySem PySem.Spec PyProof.Rows L2
/-- what the def promises that makes the source -/
def spBag (K : PySem.W.Frag) : Sp := fun vs H Q _ => ∃ (a : Addr) (ns : List Int), vs = [.ref a] ∧ SqL K H a (ns.map V.int) ∧ ns.length ≤ 63 ∧
  ∀ (F' H' : Hp) (p : Addr × Addr), Same H H' → Same F' H' → (∀ b, H b ≠ none → F' b = none) → BagOk K F' H' p → Q (.ref p.1) H'
def absI (i : Int) : Int := if i < 0 then -i else i
theorem absI_nn (i : Int) : 0 ≤ absI i := by unfold absI; split <;> omega
/-- its list of numbers -/
def tScr (K : PySem.W.Frag) : TE := fun σ H Q => ∃ (a : Addr) (ns : List Int), 1 < σ.length ∧ val σ 0 = some (.ref a) ∧ SqL K H a (ns.map V.int) ∧ ns.length ≤ 63 ∧ ∀ H' c, Same H H' → H c = none → H' c = some (.lst (ns.map fun i => V.int (absI i))) → Q (.ref c) H'
theorem cut63 {ns : List Int} (h : ns.length ≤ 63) : cutV (ns.map V.int) none (some 63) = ns.map V.int := by
  have e : HT.sIx (ns.map V.int).length (ns.map V.int).length (some 63) = (ns.map V.int).length := by
    rw [show (some (63 : Int)) = some (((63 : Nat)) : Int) from rfl, HT.sIx_nat, List.length_map]; omega
  unfold cutV
  rw [e, HT.sIx_none, List.drop_zero, Nat.sub_zero, List.take_length]
theorem scr_read {K : PySem.W.Frag} {σ : L2.St} {H : Hp} {Q : VK} (h : tScr K σ H Q) :
    tLc (iList K (tSl (rSlL K) (tVar 0) tNoPart (tPart (tC (.int 63))))) (gName 1) tYes (tCB (fun xs H Q => ∃ i, xs = [.int i] ∧ Q (.int (if i < 0 then -i else i)) H) (tCons (tVar 1) tNil)) [1] σ H Q := by
  obtain ⟨a, ns, h0, h1, h2, h3, h4⟩ := h
  refine ⟨_, val_some h1, 63, rfl, a, _, rfl, h2, fun p hp => ⟨p, rfl, ⟨_, SqL.of upd_same⟩, fun D hD => ?_⟩⟩
  rw [cut63 h3] at *
  have nD : D ≠ p := fun e => by rw [e, upd_same] at hD; cases hD
  have fD : H D = none := by rw [upd_ne nD] at hD; exact hD
  have len : (ns.map V.int).length = ns.length := List.length_map _
  refine lc_list (xs := ns.map V.int) (fun i H2 => Same H H2 ∧ H2 p = some (.lst (ns.map V.int)) ∧ H2 D = some (.lst ((ns.take i).map fun n => V.int (absI n)))) ?_ ?_ ?_ ?_
  · refine ⟨fun b u e => ?_, ?_, ?_⟩
    · rw [upd_ne (ne_of_none e fD), upd_ne (ne_of_none e hp)]; exact e
    · rw [upd_ne (Ne.symm nD)]; exact upd_same
    · rw [upd_same]; rfl
  · intro i H2 _ ⟨_, q, _⟩
    exact SqL.of q
  · intro i x H2 hx ⟨q1, q2, q3⟩
    rw [List.getElem?_map] at hx
    cases e : ns[i]? with
    | none => rw [e] at hx; cases hx
    | some n =>
      rw [e] at hx
      have hx : x = V.int n := by cases hx; rfl
      subst hx
      have lt : i < ns.length := (List.getElem?_eq_some_iff.mp e).1
      have hl : i < ns.length := lt
      have wl : 1 < (wipe σ [1]).length := by rw [wipe_length]; exact h0
      refine ⟨(wipe_set (by simp)).trans (wipe_wipe σ [1]), ?_⟩
      simp only [tYes, if_true]
      refine ⟨.int n, by rw [List.getElem?_set_self wl], n, rfl, _, q3, ?_, fun b u e => ?_, ?_, ?_⟩
      · rw [List.length_map, List.length_take]
        exact Nat.lt_of_le_of_lt (Nat.min_le_left _ _) (Nat.lt_of_lt_of_le (show i < 64 by omega) (by decide))
      · rw [upd_ne (ne_of_none e fD)]; exact q1 _ _ e
      · rw [upd_ne (Ne.symm nD)]; exact q2
      · rw [upd_same, List.take_add_one, e, List.map_append]; rfl
  · intro H2 ⟨q1, q2, q3⟩
    rw [len, List.take_length] at q3
    exact h4 H2 D q1 fD q3
theorem cells_is {K : PySem.W.Frag} {F : Hp} : ∀ ns : List Int, IsAll K F (ns.map V.int) (ns.map PyData.int)
  | [] => .nil
  | n :: r => .cons (.int n) (cells_is r)
/-- the heap behind: the source, and what is still -/
theorem bag_made {K : PySem.W.Frag} {H H1 H3 : Hp} {a c : Addr} {ns : List Int} (t : List V) (q : Addr) (s : Same H H1) (hc : H c = none) (e : H1 c = some (.lst (ns.map fun i => V.int (absI i)))) (l : ns.length ≤ 63) {b : Addr} (hb : H1 b = none) (s3 : Same H1 H3)
    (h3 : H3 b = some (.lst (.int 0 :: .int 1234567891 :: .int 0 :: .ref c :: t))) (ht : (t = [] ∧ q = b) ∨ (t = [.ref q] ∧ b ≠ q ∧ q ≠ c ∧ H3 q = some (.lst []))) :
    ∃ F', Same H H3 ∧ Same F' H3 ∧ (∀ b, H b ≠ none → F' b = none) ∧ BagOk K F' H3 (b, q) := by
  let F' : Hp := upd (fun _ => none) c (.lst (ns.map fun i => V.int (absI i)))
  have fc : F' c = some (.lst (ns.map fun i => V.int (absI i))) := upd_same
  have fo : ∀ x, x ≠ c → F' x = none := fun x h => upd_ne h
  have bc : b ≠ c := fun h => by rw [h, e] at hb; cases hb
  refine ⟨F', s.trans s3, fun x u h => ?_, fun x h => fo x fun z => h (by rw [z]; exact hc), fo b bc, ?_, 0, 1234567891, 0, c, ns.map absI, t, h3, by decide, by decide, by decide, by decide, ?_, ⟨by rw [List.length_map]; exact l, fun n hn => ?_⟩, ?_⟩
  · by_cases z : x = c
    · subst z; rw [fc] at h; rw [← h]; exact s3 _ _ e
    · rw [fo x z] at h; cases h
  · rcases ht with ⟨_, z⟩ | ⟨_, _, z, _⟩
    · show F' q = none
      rw [z]; exact fo b bc
    · exact fo q z
  · refine .lst (xs := ns.map fun i => V.int (absI i)) fc (by rw [List.length_map]; exact Nat.le_trans l (by decide)) ?_
    have := cells_is (K := K) (F := F') (ns.map absI)
    rw [List.map_map] at this
    exact this
  · obtain ⟨i, _, rfl⟩ := List.mem_map.mp hn
    exact absI_nn i
  · exact ht.imp id fun ⟨h1, h2, _, h4⟩ => ⟨h1, h2, [], [], h4, .nil, by decide⟩
/-- [0, 1234567891, 0, .., []] -/
abbrev tScrLc (K : PySem.W.Frag) : TE := tLc (iList K (tSl (rSlL K) (tVar 0) tNoPart (tPart (tC (.int 63))))) (gName 1) tYes (tCB (fun xs H Q => ∃ i, xs = [.int i] ∧ Q (.int (if i < 0 then -i else i)) H) (tCons (tVar 1) tNil)) [1]
theorem bag5_read {K : PySem.W.Frag} {σ : L2.St} {H : Hp} {Q : VK} {a : Addr} {ns : List Int} (hσ : 1 < σ.length) (h1 : val σ 0 = some (.ref a)) (h2 : SqL K H a (ns.map V.int)) (h3 : ns.length ≤ 63)
    (h4 : ∀ (F' H' : Hp) (p : Addr × Addr), Same H H' → Same F' H' → (∀ b, H b ≠ none → F' b = none) → BagOk K F' H' p → Q (.ref p.1) H') :
    tLst (tCons (tC (.int 0)) (tCons (tC (.int 1234567891)) (tCons (tC (.int 0)) (tCons (tScrLc K) (tCons (tLst tNil) tNil))))) σ H Q := by
  show tScrLc K σ H fun x H1 => tLst tNil σ H1 fun y H2 => [V.int 0, .int 1234567891, .int 0, x, y].length ≤ sizeLine ∧ ∀ p, H2 p = none → Q (.ref p) (upd H2 p (.lst [V.int 0, .int 1234567891, .int 0, x, y]))
  refine scr_read ⟨a, ns, hσ, h1, h2, h3, fun H1 c s hc e => ?_⟩
  refine ⟨(by show 0 ≤ sizeLine; decide), fun q hq => ⟨(by show 5 ≤ sizeLine; decide), fun b hb => ?_⟩⟩
  have nb : b ≠ q := fun z => by rw [z, upd_same] at hb; cases hb
  have hb1 : H1 b = none := by rw [upd_ne nb] at hb; exact hb
  have s3 : Same H1 (upd (upd H1 q (.lst [])) b (.lst [.int 0, .int 1234567891, .int 0, .ref c, .ref q])) := fun x u z => by
    rw [upd_ne (ne_of_none z hb1), upd_ne (ne_of_none z hq)]; exact z
  obtain ⟨F', g1, g2, g3, g4⟩ := bag_made (K := K) (a := a) [.ref q] q s hc e h3 hb1 s3 upd_same (.inr ⟨rfl, nb, (fun z => by rw [z, e] at hq; cases hq), (by rw [upd_ne (Ne.symm nb)]; exact upd_same)⟩)
  exact h4 F' _ (b, q) g1 g2 g3 g4
theorem bag4_read {K : PySem.W.Frag} {σ : L2.St} {H : Hp} {Q : VK} {a : Addr} {ns : List Int} (hσ : 1 < σ.length) (h1 : val σ 0 = some (.ref a)) (h2 : SqL K H a (ns.map V.int)) (h3 : ns.length ≤ 63)
    (h4 : ∀ (F' H' : Hp) (p : Addr × Addr), Same H H' → Same F' H' → (∀ b, H b ≠ none → F' b = none) → BagOk K F' H' p → Q (.ref p.1) H') :
    tLst (tCons (tC (.int 0)) (tCons (tC (.int 1234567891)) (tCons (tC (.int 0)) (tCons (tScrLc K) tNil)))) σ H Q := by
  show tScrLc K σ H fun x H2 => [V.int 0, .int 1234567891, .int 0, x].length ≤ sizeLine ∧ ∀ p, H2 p = none → Q (.ref p) (upd H2 p (.lst [V.int 0, .int 1234567891, .int 0, x]))
  refine scr_read ⟨a, ns, hσ, h1, h2, h3, fun H1 c s hc e => ?_⟩
  refine ⟨(by show 4 ≤ sizeLine; decide), fun b hb => ?_⟩
  have s3 : Same H1 (upd H1 b (.lst [.int 0, .int 1234567891, .int 0, .ref c])) := fun x u z => by
    rw [upd_ne (ne_of_none z hb)]; exact z
  obtain ⟨F', g1, g2, g3, g4⟩ := bag_made (K := K) (a := a) [] b s hc e h3 hb s3 upd_same (.inl ⟨rfl, rfl⟩)
  exact h4 F' _ (b, b) g1 g2 g3 g4
section
variable {X : Cx} {W : WX} {pos : Pos}
/-- bag = (a call that makes the source of the script) -/
def tLaw (K : PySem.W.Frag) (g : DS) : TS := fun D σ H => ∃ (a : Addr) (ns : List Int), 1 < σ.length ∧ val σ 0 = some (.ref a) ∧ SqL K H a (ns.map V.int) ∧ ns.length ≤ 63 ∧
  g (ends0 (fun d => d = .bool true) fun _ => False) (.undef :: .bag :: List.replicate (σ.length - 2) .undef) ∧ ∀ H', D.rt (.bl true) H'
theorem look_undef : ∀ (m i : Nat), look (List.replicate m .undef) i = .undef
  | 0, _ => rfl
  | m + 1, 0 => rfl
  | m + 1, i + 1 => look_undef m i
theorem dlaw {st : Stmt} {sts : List Stmt} {g : DS} (h : PS X st (tAsg (tCall (spBag X.K) [] E0 (tCons (tVar 0) tNil)) (gName 1))) (hg : PSs X sts (tDS X.K W0 g)) : PSs X (st :: sts) (tLaw X.K g) :=
  PSs.weak (pss_cons h hg) fun D σ H ⟨a, ns, hσ, h1, h2, h3, q, k⟩ => by
    refine ⟨_, val_some h1, a, ns, rfl, h2, h3, fun F' H' p s1 s2 s3 B => ?_⟩
    have hl : 1 < (σ.set 1 (some (V.ref p.1))).length := by rw [List.length_set]; exact hσ
    refine ⟨⟨H', F', some p, true⟩, F', _, _, rfl, ⟨Same.refl _, s2, fun _ _ e _ => e, fun _ _ h => h, fun q hq => by cases hq; exact B, ?_, fun i => ?_, fun i b o => ?_, fun i j b o _ => ?_⟩, q, ⟨(fun F2 H2 σ2 ρ2 S z => nomatch (show PyData.none = .bool true from z)), fun _ _ _ _ _ z => (show False from z).elim, fun _ _ _ _ _ z => (show False from z).elim, fun F2 H2 σ2 ρ2 v d S i z => ?_, fun _ _ _ _ _ _ _ _ _ z => (show False from z).elim⟩⟩
    · rw [List.length_set]; simp only [List.length_cons, List.length_replicate]; omega
    · match i with
      | 0 => trivial
      | 1 => exact ⟨p, rfl, by unfold val; rw [List.getElem?_set_self hσ]; rfl⟩
      | i + 2 =>
        show SlotOk _ _ _ _ _ (look (List.replicate _ _) i)
        rw [look_undef]; trivial
    · match i with
      | 0 => obtain ⟨_, ⟨_, z⟩ | ⟨_, z⟩⟩ := o <;> cases z
      | 1 => obtain ⟨_, ⟨_, z⟩ | ⟨_, z⟩⟩ := o <;> cases z
      | i + 2 => obtain ⟨_, ⟨_, z⟩ | ⟨_, z⟩⟩ := o <;> (have z : look (List.replicate _ _) i = _ := z; rw [look_undef] at z; cases z)
    · match i with
      | 0 => obtain ⟨_, ⟨_, z⟩ | ⟨_, z⟩⟩ := o <;> cases z
      | 1 => obtain ⟨_, ⟨_, z⟩ | ⟨_, z⟩⟩ := o <;> cases z
      | i + 2 => obtain ⟨_, ⟨_, z⟩ | ⟨_, z⟩⟩ := o <;> (have z : look (List.replicate _ _) i = _ := z; rw [look_undef] at z; cases z)
    · have z : d = .bool true := z
      subst z
      cases i
      exact k H2
end
section
variable {P : Program} {w : World} {K : PySem.W.Frag} {mg : Str → Option Value} {base : Heap} {k : Nat} {fa : Addr} {fd : FuncData}
/-- the law's def, by its body's reading -/
theorem law_d {x qual : Str} {st : Stmt} {N : List Str} (hN : 1 < N.length) (F : Fun K x qual st fa fd) (S : FnScope N ["script"] (defScope st)) {g : DS} (hg : g (ends0 (fun d => d = .bool true) fun _ => False) (.undef :: .bag :: List.replicate (N.length - 2) .undef))
    (hbody : ∀ (cdv : Value) (A : Around) (outer : List PySem.Env) (s : Shared) (H : Hp) (E : XK), RoomG k (A.deeper (envOfC qual (defScope st) s.heap.objs.size fa cdv)) →
      PSs (cxOf CX0 P w K mg base N qual (defScope st) fa cdv A outer s H E).nox (defBody st) (tLaw K g)) : FnG P w K mg base CX0 (k + 1) fa fd ["script"] (spLaw K) :=
  fun_g F S (fun vs H Q E ⟨a, ns, e, _⟩ => by subst e; rfl) fun cdv A outer s H vs Q E hr ⟨a, ns, e, h1, h2, h3⟩ => by
    subst e
    have hs : (start N [V.ref a]).length = N.length := by unfold L2.start; simp only [List.length_append, List.length_map, List.length_singleton, List.length_replicate]; omega
    exact ⟨_, hbody cdv A outer s H E hr, a, ns, by rw [hs]; exact hN, rfl, h1, h2, by rw [hs]; exact hg, h3⟩
theorem bag_d {x qual : Str} {st : Stmt} {N : List Str} (hN : 1 < N.length) (F : Fun K x qual st fa fd) (S : FnScope N ["script"] (defScope st)) {t : TE} (ht : ∀ {σ : L2.St} {H : Hp} {Q : VK} {a : Addr} {ns : List Int}, 1 < σ.length → val σ 0 = some (.ref a) → SqL K H a (ns.map V.int) → ns.length ≤ 63 →
      (∀ (F' H' : Hp) (p : Addr × Addr), Same H H' → Same F' H' → (∀ b, H b ≠ none → F' b = none) → BagOk K F' H' p → Q (.ref p.1) H') → t σ H Q)
    (hbody : ∀ (cdv : Value) (A : Around) (outer : List PySem.Env) (s : Shared) (H : Hp) (E : XK), PSs (cxOf CX0 P w K mg base N qual (defScope st) fa cdv A outer s H E).nox (defBody st) (tRet t)) : FnG P w K mg base CX0 (k + 1) fa fd ["script"] (spBag K) :=
  fun_g F S (fun vs H Q E ⟨a, ns, e, _⟩ => by subst e; rfl) fun cdv A outer s H vs Q E hr ⟨a, ns, e, h1, h2, h3⟩ => by
    subst e
    have hs : (start N [V.ref a]).length = N.length := by unfold L2.start; simp only [List.length_append, List.length_map, List.length_singleton, List.length_replicate]; omega
    exact ⟨_, hbody cdv A outer s H E, ht (by rw [hs]; exact hN) rfl h1 h2 h3⟩
end
end DL
set_option Elab.async false
set_option linter.all false
set_option maxRecDepth 100000
set_option maxHeartbeats 4000000
/-! DL, the data layer (15): list * int; is None; str of an int; targets that change what a name alone holds -/
namespace DL
open PySem PySem.Spec PyProof.Rows L2
section
variable {X : Cx}
/-! ### * with lists -/
def gMulA : PyData → PyData → (PyData → Prop) → Prop
  | .int i, .int j, Q => CMul i j ∧ Q (.int (i * j))
  | .str x, .int j, Q => 0 ≤ j ∧ j < 1000000 ∧ j.toNat * x.length ≤ sizeLine ∧ Q (.str (Txt.mul x j))
  | .list ds, .int j, Q => 0 ≤ j ∧ j < 1000000 ∧ ds.length * j.toNat ≤ sizeLine ∧ Q (.list (List.replicate j.toNat ds).flatten)
  | _, _, _ => False
theorem rep_is {K : PySem.W.Frag} {F : Hp} {vs : List V} {ds : List PyData} (t : IsAll K F vs ds) : ∀ n : Nat, IsAll K F (List.replicate n vs).flatten (List.replicate n ds).flatten
  | 0 => .nil
  | n + 1 => by
    rw [List.replicate_succ, List.replicate_succ, List.flatten_cons, List.flatten_cons]
    exact t.append (rep_is t n)
def rMulA : R2 := fun x y H Q => rMulD x y H Q ∨ rRep x y H Q
theorem op_mulA : OpR X (binaryOp .Mult) rMulA := OpR.or op_mulD op_rep
theorem d_mulA : OpD X rMulA gMulA := by
  intro C F H σ ρ v u x y Qz Q S hv hu q k
  unfold gMulA at q
  split at q
  · exact .inl (d_mul C F H σ ρ v u _ _ Qz Q S hv hu q k)
  · exact .inl (d_mul C F H σ ρ v u _ _ Qz Q S hv hu q k)
  · rename_i ds j
    obtain ⟨a, us, rfl, e, z, t⟩ := isO_list S.le hv
    have := isO_int hu; subst u
    refine .inr ⟨a, j, us, rfl, rfl, e, by omega, by omega, by rw [t.length]; exact q.2.2.1, fun p hp => ?_⟩
    obtain ⟨S', s'⟩ := new_still S (o := .lst (List.replicate j.toNat us).flatten) hp
    have r := rep_is (t.up s') j.toNat
    refine k _ _ _ _ S' s' (.lst upd_same ?_ r) q.2.2.2
    have e1 : (List.replicate j.toNat us).flatten.length = us.length * j.toNat := by simp [List.length_flatten, Nat.mul_comm]
    rw [e1, t.length]; exact q.2.2.1
  · exact q.elim
/-! ### is None -/
def isNon : PyData → Bool
  | .none => true
  | _ => false
theorem isO_non {K : PySem.W.Frag} {F H : Hp} {v : V} {d : PyData} (h : IsO K F H v d) : decide (v = V.non) = isNon d := by
  rcases h with h | ⟨a, xs, ds, rfl, rfl, _⟩ | ⟨a, ks, kvs, rfl, rfl, _⟩
  · cases h <;> rfl
  · rfl
  · rfl
def gIsN (neg : Bool) : PyData → PyData → (PyData → Prop) → Prop := fun x y Q => y = .none ∧ Q (.bool (neg ^^ isNon x))
theorem d_isN : OpD X (fun x y H Q => y = .non ∧ Q (.bl (decide (x = .non))) H) (gIsN false) := by
  intro C F H σ ρ v u x y Qz Q S hv hu ⟨e, q⟩ k
  subst e
  have := isO_none hu; subst u
  refine ⟨rfl, k F H _ _ S (Same.refl _) ?_ q⟩
  rw [isO_non hv, Bool.false_xor]; exact .bl _
theorem d_notN : OpD X (fun x y H Q => y = .non ∧ Q (.bl (!decide (x = .non))) H) (gIsN true) := by
  intro C F H σ ρ v u x y Qz Q S hv hu ⟨e, q⟩ k
  subst e
  have := isO_none hu; subst u
  refine ⟨rfl, k F H _ _ S (Same.refl _) ?_ q⟩
  rw [isO_non hv, Bool.true_xor]; exact .bl _
/-! ### str of an int -/
def gStrI : List PyData → (PyData → Prop) → Prop
  | [.int i], Q => i.natAbs.log2 < 1920 ∧ (Str.ofString (toString i)).length ≤ sizeLine ∧ Q (.str (toString i))
  | _, _ => False
theorem d_strI : CallD X (fun xs H Q => ∃ i, xs = [.int i] ∧ i.natAbs.log2 < 1920 ∧ Q (.str (toString i)) H) gStrI := by
  intro C F H σ ρ vs ds Qz Q S h q k
  unfold gStrI at q
  split at q
  · obtain ⟨v, rfl, o⟩ := allO_1 h
    have := isO_int o; subst v
    exact ⟨_, rfl, q.1, k F H _ _ S (Same.refl _) (.str _ q.2.1) q.2.2⟩
  · exact q.elim
end
/-! ### targets of an assignment that may change what a name alone holds -/
section
variable {X : Cx} {W : WX} {pos : Pos} {e tg : Expr}
def tGE (K : PySem.W.Frag) (g : DG) : TG := fun v σ H Q => ∃ C F ρ d Qd, C.mu = true ∧ Sd K C F H σ ρ ∧ Is K F v d ∧ g d ρ Qd ∧ ∀ F' H' σ' ρ', Sd K C F' H' σ' ρ' → Same F F' → Qd ρ' → Q σ' H'
def tGEs (K : PySem.W.Frag) (g : DGs) : TGs := fun us σ H Q => ∃ C F ρ ds Qd, C.mu = true ∧ Sd K C F H σ ρ ∧ IsAll K F us ds ∧ g ds ρ Qd ∧ ∀ F' H' σ' ρ', Sd K C F' H' σ' ρ' → Same F F' → Qd ρ' → Q σ' H'
theorem pg_nameE (i : Nat) {x : Str} {pos : Pos} (hN : X.N.Nodup) (hi : X.N[i]? = some x := by rfl) (hx : Loc X.env.scope x := by first | exact Or.inl rfl | exact Or.inr rfl)
    (hf : X.fn x = true ∨ X.env.scope.names.lookup x = some .local := by first | exact .inl rfl | exact .inr rfl | assumption) : PG X (.Name x pos) (tGE X.K (gN i)) :=
  PG.weak (pg_name hN hi hx hf) fun v σ H Q ⟨C, F, ρ, d, Qd, m, S, h, q, k⟩ => k F H _ _ (S.storeD (by rw [← S.len]; exact q.1) h) (Same.refl _) q.2
theorem pgs_nilE : PGs X [] (tGEs X.K gsNil) := PGs.weak pgs_nil fun v σ H Q ⟨C, F, ρ, ds, Qd, m, S, h, q, k⟩ => by
  obtain ⟨rfl, q⟩ := q
  cases h
  exact ⟨rfl, k F H σ ρ S (Same.refl _) q⟩
theorem pgs_consE {g : DG} {h : DGs} {ts : List Expr} (h1 : PG X e (tGE X.K g)) (h2 : PGs X ts (tGEs X.K h)) (hs : (assignEach (e :: ts) X.env).map (·.2) = assign e X.env :: (assignEach ts X.env).map (·.2) := by rfl) :
    PGs X (e :: ts) (tGEs X.K (gsCons g h)) := PGs.weak (pgs_cons h1 h2 hs) fun v σ H Q ⟨C, F, ρ, ds, Qd, m, S, h, q, k⟩ => by
  cases ds with
  | nil => exact q.elim
  | cons d r =>
    cases h with
    | cons a t => exact ⟨_, _, rfl, C, F, ρ, d, _, m, S, a, q, fun F1 H1 σ1 ρ1 S1 s1 q1 => ⟨C, F1, ρ1, r, Qd, m, S1, t.up s1, q1, fun F2 H2 σ2 ρ2 S2 s2 q2 => k F2 H2 σ2 ρ2 S2 (s1.trans s2) q2⟩⟩
theorem pg_tupE {gs : DGs} {ts : List Expr} {n k : Nat} (hc : X.calm = true) (h : PGs X ts (tGEs X.K gs)) (hn : (assignEach ts X.env).length = n := by rfl) (hst : (assignEach ts X.env).findIdx? (·.1) = none := by rfl) :
    PG X (.Tuple ts k pos) (tGE X.K (gT n gs)) := PG.weak (pg_tup hc h hn hst) fun v σ H Q ⟨C, F, ρ, d, Qd, m, S, h, q, k⟩ => by
  unfold gT at q
  split at q
  · rename_i ds
    cases h with
    | tup e z t => exact ⟨_, _, rfl, sqT_mono S.le e, by rw [t.length]; exact q.1, C, F, ρ, ds, Qd, m, S, t, q.2, k⟩
  · exact q.elim
/-- x[j] = .., a list that the name alone holds -/
def gIxE (i : Nat) (fi : DE) : DG := fun d ρ Q => match look ρ i with
  | .ownL ds => fi ρ (fun a => ∃ (k : Int) (j : Nat), a = .int k ∧ ixN ds.length k = some j ∧ Q (put ρ i (.ownL (ds.set j d)))) fun _ => False
  | _ => False
theorem pg_ixE (i : Nat) {o ix : Expr} {tpos : Pos} {fi : DE} (ho : PE X o (tVar i)) (hi : PE X ix (tD X.K W0 fi)) (ha : ∀ v, assign (.Subscript o ix tpos) X.env v = (do
      let ov ← holding [v] (eval o X.env)
      let iv ← holding [v, ov] (eval ix X.env)
      standAt tpos
      holding [v, ov, iv] (setItem ov iv v)
      release [v, ov, iv] []) := by intro _; rfl) : PG X (.Subscript o ix tpos) (tGE X.K (gIxE i fi)) :=
  PG.weak (pg_sub ho hi set_list ha) fun v σ H Q ⟨C, F, ρ, d, Qd, m, S, h, q, k⟩ => by
    unfold gIxE at q
    have q0 := S.ok i
    split at q
    · rename_i ds e
      rw [e] at q0
      obtain ⟨a, xs, h1, h2, h3, h4⟩ := q0
      refine ⟨_, val_some h1, C, F, ρ, _, _, S, q, fun F2 H2 w z S2 s2 i2 q2 => ?_, exits0⟩
      obtain ⟨kk, j, rfl, hk, q2⟩ := q2
      cases i2
      have q3 := S2.ok i
      rw [e] at q3
      obtain ⟨a', xs', g1, g2, g3, g4⟩ := q3
      rw [h1] at g1; cases g1
      have hw : Owns (val σ i) (look ρ i) a := by rw [e]; exact ⟨h1, .inl ⟨_, rfl⟩⟩
      exact ⟨a, xs', kk, j, rfl, rfl, g2, by rw [g4.length]; exact hk, k F2 _ σ _ (S2.mut (t := .ownL (ds.set j d)) m h1 hw ⟨a, xs'.set j v, rfl, upd_same, by rw [List.length_set]; exact g3, g4.set j (h.up s2)⟩ ⟨rfl, .inl ⟨_, rfl⟩⟩) s2 q2⟩
    · exact q.elim
theorem dasgE {f : DE} {g : DG} (he : PE X e (tD X.K W f)) (hg : PG X tg (tGE X.K g)) (hs : swapsWithSole [tg] e pos.line X.env = pure false := by rfl) (hw : swappedStores [tg] e X.env = pure none := by rfl)
    (h1 : (assignEach [tg] X.env).map (·.2) = [assign tg X.env] := by rfl) : PS X (.Assign [tg] e pos) (tDS X.K W (dAsg f g)) :=
  PS.weak (ps_asg he hg hs hw h1) fun D σ H ⟨C, F, ρ, Dd, m, S, h, E⟩ => ⟨C, F, ρ, _, Dd.ex, S, h, fun F' H' v d S' s' i' q => ⟨C, F', ρ, d, _, m, S', i', q, fun F2 H2 σ' ρ' S2 _ q2 => E.nx F2 H2 σ' ρ' S2 q2⟩, E.exits⟩
end
end DL
set_option Elab.async false
set_option linter.all false
set_option maxRecDepth 100000
set_option maxHeartbeats 4000000
/-! DL, the data layer: zip of a tuple and a list. A RUN is a walk along a sequence, whatever it is -/
namespace DL
open PySem PySem.Spec PyProof.Rows L2
/-- a walk (the object i) along the things xs that lie at l -/
structure Runs (P : Program) (w : World) (i l : Addr) (xs : Array Value) (at' : Nat → Heap → Prop) : Prop where
  live : ∀ {k h}, at' k h → (∃ o, h.get? i = some o ∧ ∀ v, o.data ≠ .cell v) ∧ l < h.objs.size
  stay : ∀ {k h h'}, at' k h → (∀ o, h.get? i = some o → h'.get? i = some o) → (∀ o, h.get? l = some o → h'.get? l = some o) → at' k h'
  step : ∀ {A : Around} {E : Value → Shared → Prop} {s : Shared} {k : Nat} {x : Value} {Q : Value → Shared → Prop}, at' k s.heap → xs[k]? = some x →
    (∀ h', at' (k + 1) h' → Heap.SameBut i s.heap h' → Q x { s with heap := h' }) → wpAny (model P w) A (Builtin.SmallTypes.nextOf (.ref i)) Q E s
  over : ∀ {A : Around} {E : Value → Shared → Prop} {s : Shared} {k : Nat} {Q : Value → Shared → Prop}, A.handled = none → at' k s.heap → xs[k]? = none →
    (∀ h' e, Heap.ExtBut i s.heap h' → (∃ o, h'.get? e = some o ∧ o.cls = .type "StopIteration") → E (.ref e) { s with heap := h' }) → wpAny (model P w) A (Builtin.SmallTypes.nextOf (.ref i)) Q E s
section
variable {P : Program} {w : World} {i l : Addr} {xs : Array Value}
theorem runs_tup (hil : i ≠ l) : Runs P w i l xs (fun k h => h.IsTupleIter i l k ∧ h.IsTuple l xs) where
  live := fun {k h} ⟨⟨o, e, _, d⟩, ⟨o2, e2, _⟩⟩ => ⟨⟨o, e, fun v q => by rw [d] at q; cases q⟩, Heap.lt_size e2⟩
  stay := fun ⟨⟨o, e, r⟩, ⟨o2, e2, r2⟩⟩ k1 k2 => ⟨⟨o, k1 o e, r⟩, ⟨o2, k2 o2 e2, r2⟩⟩
  step := fun {A E s k x Q} ⟨h1, h2⟩ hx q => RZ.nextOf_tuple_item h1 h2 hx fun h' g1 g2 => q h' ⟨g1, let ⟨o, e, r⟩ := h2; ⟨o, (g2.2 l (Ne.symm hil)).trans e, r⟩⟩ g2
  over := fun hh ⟨h1, h2⟩ hx q => RZ.nextOf_tuple_end hh h1 h2 hx q
theorem runs_lst (hil : i ≠ l) : Runs P w i l xs (fun k h => h.IsListIter i l k ∧ h.IsList l xs) where
  live := fun {k h} ⟨⟨o, e, _, d⟩, ⟨o2, e2, _⟩⟩ => ⟨⟨o, e, fun v q => by rw [d] at q; cases q⟩, Heap.lt_size e2⟩
  stay := fun ⟨⟨o, e, r⟩, ⟨o2, e2, r2⟩⟩ k1 k2 => ⟨⟨o, k1 o e, r⟩, ⟨o2, k2 o2 e2, r2⟩⟩
  step := fun {A E s k x Q} ⟨h1, h2⟩ hx q => wpAny_nextOf_list_item h1 h2 hx fun h' g1 g2 => q h' ⟨g1, let ⟨o, e, r⟩ := h2; ⟨o, (g2.2 l (Ne.symm hil)).trans e, r⟩⟩ g2
  over := fun hh ⟨h1, h2⟩ hx q => wpAny_nextOf_list_end hh h1 h2 hx q
end
section
variable {P : Program} {w : World} {A : Around} {E : Value → Shared → Prop} {s : Shared} {z TI TO i1 i2 l1 l2 : Addr} {k : Nat} {xs ys : Array Value} {at1 at2 : Nat → Heap → Prop} {x y a b : Value}
/-- one step of zip over two runs -/
theorem zipR_item {Q : Value → Shared → Prop} (R1 : Runs P w i1 l1 xs at1) (R2 : Runs P w i2 l2 ys at2) (D : ZipApart z TI TO i1 i2 l1 l2) (hz : IsZip s.heap z TI TO .none) (hTI : IsPair s.heap TI (.ref i1) (.ref i2)) (hTO : IsPair s.heap TO a b)
    (h1 : at1 k s.heap) (h2 : at2 k s.heap) (hx : xs[k]? = some x) (hy : ys[k]? = some y)
    (hQ : ∀ h', IsZip h' z TI TO (rawInt s.heap.objs.size) → IsPair h' TO x y → at1 (k + 1) h' → at2 (k + 1) h' → IsPair h' s.heap.objs.size x y →
      (∀ c o, c ≠ z → c ≠ TO → c ≠ i1 → c ≠ i2 → s.heap.get? c = some o → h'.get? c = some o) → Q (.ref s.heap.objs.size) { s with heap := h' }) :
    wpAny (model P w) A (Builtin.«zip.__next__» ⟨[.ref z], []⟩) (fun fin s' => ∃ v, fin = .done (.ret v) ∧ Q v s') E s := by
  refine wpAny_bind (m := field (.ref z) 2) (wpAny_field hz rfl (x := .bool false) rfl ?_)
  refine wpAny_bind (m := field (.ref z) 3) (wpAny_field hz rfl (x := .ref TI) rfl ?_)
  refine wpAny_bind (wpAny_seqItems hTI rfl ?_)
  refine wpAny_bind (m := Builtin.SmallTypes.ownedTupleIsFree (.ref z)) ?_
  unfold Builtin.SmallTypes.ownedTupleIsFree
  refine wpAny_bind (wpAny_field hz rfl (x := .none) rfl (wpAny_pure ?_))
  simp only [if_true]
  refine wpAny_bind (wpAny_rule ?_)
  refine wpAny_bind (wpAny_field hz rfl (x := .ref TO) rfl ?_)
  refine wpAny_bind (wpAny_setField_rec hz (by simp) fun m1 z1 c1 => ?_)
  have z1 : IsZip m1 z TI TO .ellipsis := z1
  refine wpAny_bind ?_
  simp only [List.zipIdx_cons, List.zipIdx_nil, List.forIn_cons, List.forIn_nil]
  refine wpAny_bind (wpAny_bind (wpAny_onRaise (wpAny_bind (m := Builtin.SmallTypes.nextOf (.ref i1)) ?_)))
  have a1 : at1 k m1 := R1.stay h1 (fun o e => c1.extBut _ _ D.i1z e) (fun o e => c1.extBut _ _ D.l1z e)
  refine R1.step (s := { s with heap := m1 }) a1 hx fun m2 a2 c2 => wpAny_pure ?_
  have t2 : IsPair m2 TO a b := c2.extBut _ _ D.TOi1 (c1.extBut _ _ D.TOz hTO)
  refine wpAny_bind (wpAny_seqItems t2 rfl (wpAny_bind (wpAny_updateSeq_pair t2 fun m3 t3 c3 => ?_)))
  have t3 : IsPair m3 TO x b := t3
  refine wpAny_bind (wpAny_letGo (wpAny_pure ?_))
  refine wpAny_bind (wpAny_bind (wpAny_onRaise (wpAny_bind (m := Builtin.SmallTypes.nextOf (.ref i2)) ?_)))
  have b1 : at2 k m3 := R2.stay h2 (fun o e => c3.extBut _ _ D.TOi2.symm (c2.extBut _ _ D.i12.symm (c1.extBut _ _ D.i2z e))) (fun o e => c3.extBut _ _ D.l2TO (c2.extBut _ _ D.l2i1 (c1.extBut _ _ D.l2z e)))
  refine R2.step (s := { s with heap := m3 }) b1 hy fun m4 b2 c4 => wpAny_pure ?_
  have t4 : IsPair m4 TO x b := c4.extBut _ _ D.TOi2 t3
  refine wpAny_bind (wpAny_seqItems t4 rfl (wpAny_bind (wpAny_updateSeq_pair t4 fun m5 t5 c5 => ?_)))
  have t5 : IsPair m5 TO x y := t5
  refine wpAny_bind (wpAny_letGo (wpAny_pure (wpAny_pure ?_)))
  have sz : m5.objs.size = s.heap.objs.size := by rw [c5.1, c4.1, c3.1, c2.1, c1.1]
  have zz : IsZip m5 z TI TO .ellipsis := c5.extBut _ _ D.TOz.symm (c4.extBut _ _ D.i2z.symm (c3.extBut _ _ D.TOz.symm (c2.extBut _ _ D.i1z.symm z1)))
  have kept : ∀ c o, c ≠ z → c ≠ TO → c ≠ i1 → c ≠ i2 → s.heap.get? c = some o → m5.get? c = some o := fun c o n1 n2 n3 n4 e => c5.extBut _ _ n2 (c4.extBut _ _ n4 (c3.extBut _ _ n2 (c2.extBut _ _ n3 (c1.extBut _ _ n1 e))))
  have a5 : at1 (k + 1) m5 := R1.stay a2 (fun o e => c5.extBut _ _ D.TOi1.symm (c4.extBut _ _ D.i12 (c3.extBut _ _ D.TOi1.symm e))) (fun o e => c5.extBut _ _ D.l1TO (c4.extBut _ _ D.l1i2 (c3.extBut _ _ D.l1TO e)))
  have b5 : at2 (k + 1) m5 := R2.stay b2 (fun o e => c5.extBut _ _ D.TOi2.symm e) (fun o e => c5.extBut _ _ D.l2TO e)
  have zlt : z < m5.objs.size := Heap.lt_size zz
  refine wpAny_bind (wpAny_seqItems t5 rfl (wpAny_bind (wpAny_newTuple ?_)))
  refine wpAny_bind (m := Builtin.SmallTypes.ownedTupleHandOut (.ref z) (.ref m5.objs.size)) ?_
  unfold Builtin.SmallTypes.ownedTupleHandOut
  have z6 : IsZip (m5.push { cls := .type "tuple", data := .seq #[x, y] }) z TI TO .ellipsis := Heap.get?_push_of_some _ zz
  refine wpAny_bind (wpAny_setField_rec z6 (by simp) fun m7 z7 c7 => ?_)
  have z7 : IsZip m7 z TI TO (rawInt m5.objs.size) := z7
  refine wpAny_setField_rec z7 (by simp) fun m8 z8 c8 => ?_
  have z8 : IsZip m8 z TI TO (rawInt m5.objs.size) := z8
  have lift : ∀ c o, c ≠ z → m5.get? c = some o → m8.get? c = some o := fun c o n e => c8.extBut _ _ n (c7.extBut _ _ n (Heap.get?_push_of_some _ e))
  have new : IsPair m8 m5.objs.size x y := c8.extBut _ _ (Nat.ne_of_gt zlt) (c7.extBut _ _ (Nat.ne_of_gt zlt) (Heap.get?_push_size _ rfl))
  rw [sz] at z8 new
  refine wpAny_pure ⟨_, rfl, ?_⟩
  rw [show (Value.ref m5.objs.size) = Value.ref s.heap.objs.size by rw [sz]]
  exact hQ m8 z8 (lift _ _ D.TOz t5) (R1.stay a5 (fun o e => lift _ o D.i1z e) (fun o e => lift _ o D.l1z e)) (R2.stay b5 (fun o e => lift _ o D.i2z e) (fun o e => lift _ o D.l2z e)) new fun c o n1 n2 n3 n4 e => lift c o n1 (kept c o n1 n2 n3 n4 e)
/-- .. at the end of one of them -/
theorem zipR_end {Q : Fin → Shared → Prop} (R1 : Runs P w i1 l1 xs at1) (R2 : Runs P w i2 l2 ys at2) (hh : A.handled = none) (D : ZipApart z TI TO i1 i2 l1 l2) (hz : IsZip s.heap z TI TO .none) (hTI : IsPair s.heap TI (.ref i1) (.ref i2)) (hTO : IsPair s.heap TO a b)
    (h1 : at1 k s.heap) (h2 : at2 k s.heap) (hend : xs[k]? = none ∨ ys[k]? = none)
    (hE : ∀ h' e, (∀ c o, c ≠ z → c ≠ TO → c ≠ i1 → c ≠ i2 → s.heap.get? c = some o → h'.get? c = some o) → (∃ o, h'.get? e = some o ∧ o.cls = .type "StopIteration") → E (.ref e) { s with heap := h' }) :
    wpAny (model P w) A (Builtin.«zip.__next__» ⟨[.ref z], []⟩) Q E s := by
  refine wpAny_bind (m := field (.ref z) 2) (wpAny_field hz rfl (x := .bool false) rfl ?_)
  refine wpAny_bind (m := field (.ref z) 3) (wpAny_field hz rfl (x := .ref TI) rfl ?_)
  refine wpAny_bind (wpAny_seqItems hTI rfl ?_)
  refine wpAny_bind (m := Builtin.SmallTypes.ownedTupleIsFree (.ref z)) ?_
  unfold Builtin.SmallTypes.ownedTupleIsFree
  refine wpAny_bind (wpAny_field hz rfl (x := .none) rfl (wpAny_pure ?_))
  simp only [if_true]
  refine wpAny_bind (wpAny_rule ?_)
  refine wpAny_bind (wpAny_field hz rfl (x := .ref TO) rfl ?_)
  refine wpAny_bind (wpAny_setField_rec hz (by simp) fun m1 z1 c1 => ?_)
  have z1 : IsZip m1 z TI TO .ellipsis := z1
  refine wpAny_bind ?_
  simp only [List.zipIdx_cons, List.zipIdx_nil, List.forIn_cons, List.forIn_nil]
  refine wpAny_bind (wpAny_bind (wpAny_onRaise (wpAny_bind (m := Builtin.SmallTypes.nextOf (.ref i1)) ?_)))
  have a1 : at1 k m1 := R1.stay h1 (fun o e => c1.extBut _ _ D.i1z e) (fun o e => c1.extBut _ _ D.l1z e)
  cases hx : xs[k]? with
  | none =>
    refine R1.over (s := { s with heap := m1 }) hh a1 hx fun m2 e c2 ⟨oe, g1, g2⟩ => ?_
    have z2 : IsZip m2 z TI TO .ellipsis := c2 _ _ D.i1z.symm z1
    have ne : e ≠ z := fun q => by rw [q, z2] at g1; cases g1; simp at g2
    refine wpAny_setField_rec z2 (by simp) fun m3 _ c3 => hE m3 e (fun c o n1 _ n3 _ q => c3.extBut _ _ n1 (c2 _ _ n3 (c1.extBut _ _ n1 q))) ⟨oe, c3.extBut _ _ ne g1, g2⟩
  | some x =>
    have hy : ys[k]? = none := hend.resolve_left (by rw [hx]; exact nofun)
    refine R1.step (s := { s with heap := m1 }) a1 hx fun m2 a2 c2 => wpAny_pure ?_
    have t2 : IsPair m2 TO a b := c2.extBut _ _ D.TOi1 (c1.extBut _ _ D.TOz hTO)
    refine wpAny_bind (wpAny_seqItems t2 rfl (wpAny_bind (wpAny_updateSeq_pair t2 fun m3 t3 c3 => ?_)))
    refine wpAny_bind (wpAny_letGo (wpAny_pure ?_))
    refine wpAny_bind (wpAny_bind (wpAny_onRaise (wpAny_bind (m := Builtin.SmallTypes.nextOf (.ref i2)) ?_)))
    have b1 : at2 k m3 := R2.stay h2 (fun o e => c3.extBut _ _ D.TOi2.symm (c2.extBut _ _ D.i12.symm (c1.extBut _ _ D.i2z e))) (fun o e => c3.extBut _ _ D.l2TO (c2.extBut _ _ D.l2i1 (c1.extBut _ _ D.l2z e)))
    refine R2.over (s := { s with heap := m3 }) hh b1 hy fun m4 e c4 ⟨oe, g1, g2⟩ => ?_
    have z4 : IsZip m4 z TI TO .ellipsis := c4 _ _ D.i2z.symm (c3.extBut _ _ D.TOz.symm (c2.extBut _ _ D.i1z.symm z1))
    have ne : e ≠ z := fun q => by rw [q, z4] at g1; cases g1; simp at g2
    refine wpAny_setField_rec z4 (by simp) fun m5 _ c5 => hE m5 e (fun c o n1 n2 n3 n4 q => c5.extBut _ _ n1 (c4 _ _ n4 (c3.extBut _ _ n2 (c2.extBut _ _ n3 (c1.extBut _ _ n1 q))))) ⟨oe, c5.extBut _ _ ne g1, g2⟩
theorem nextZ_item {Q : Option Value → Shared → Prop} (R1 : Runs P w i1 l1 xs at1) (R2 : Runs P w i2 l2 ys at2) (D : ZipApart z TI TO i1 i2 l1 l2) (hz : IsZip s.heap z TI TO .none) (hTI : IsPair s.heap TI (.ref i1) (.ref i2)) (hTO : IsPair s.heap TO a b)
    (h1 : at1 k s.heap) (h2 : at2 k s.heap) (hx : xs[k]? = some x) (hy : ys[k]? = some y)
    (hQ : ∀ h', IsZip h' z TI TO (rawInt s.heap.objs.size) → IsPair h' TO x y → at1 (k + 1) h' → at2 (k + 1) h' → IsPair h' s.heap.objs.size x y →
      (∀ c o, c ≠ z → c ≠ TO → c ≠ i1 → c ≠ i2 → s.heap.get? c = some o → h'.get? c = some o) → Q (some (.ref s.heap.objs.size)) { s with heap := h' }) : wpAny (model P w) A (pyNext (.ref z)) Q E s := by
  have ty : s.TypeIs (.ref z) "zip" := ⟨_, hz, rfl⟩
  unfold pyNext
  refine wpAny_bind (wpAny_attempt (wpAny_callSpecial?_slot (name := Str.ofString "__next__") ty F.slot_zip_next (wpAny_call_entry F.slot_zip_next ty F.entry_zip_next ?_ (F.args_zip_next_1 _))))
  exact zipR_item R1 R2 D hz hTI hTO h1 h2 hx hy fun h' g1 g2 g3 g4 g5 g6 => wpAny_pure (hQ h' g1 g2 g3 g4 g5 g6)
theorem nextZ_end {Q : Option Value → Shared → Prop} (R1 : Runs P w i1 l1 xs at1) (R2 : Runs P w i2 l2 ys at2) (hh : A.handled = none) (D : ZipApart z TI TO i1 i2 l1 l2) (hz : IsZip s.heap z TI TO .none) (hTI : IsPair s.heap TI (.ref i1) (.ref i2)) (hTO : IsPair s.heap TO a b)
    (h1 : at1 k s.heap) (h2 : at2 k s.heap) (hend : xs[k]? = none ∨ ys[k]? = none) (hQ : ∀ h', (∀ c o, c ≠ z → c ≠ TO → c ≠ i1 → c ≠ i2 → s.heap.get? c = some o → h'.get? c = some o) → Q none { s with heap := h' }) :
    wpAny (model P w) A (pyNext (.ref z)) Q E s := by
  have ty : s.TypeIs (.ref z) "zip" := ⟨_, hz, rfl⟩
  unfold pyNext
  refine wpAny_bind (wpAny_attempt (wpAny_callSpecial?_slot (name := Str.ofString "__next__") ty F.slot_zip_next (wpAny_call_entry F.slot_zip_next ty F.entry_zip_next ?_ (F.args_zip_next_1 _))))
  refine zipR_end R1 R2 hh D hz hTI hTO h1 h2 hend fun h' e kept ⟨o, g1, g2⟩ => ?_
  exact wpAny_bind (wpAny_isInstance (T := "StopIteration") (b := true) ⟨o, g1, g2⟩ isSubtype_stop (wpAny_pure (hQ _ kept)))
end
/-! ### as a walk: the first sequence is told by S, the second by T -/
def ItR (S T : Hp → List V → Prop) : It :=
  ⟨fun i H => ∃ (xs ys : List V) (x y : V), S H xs ∧ T H ys ∧ xs[i]? = some x ∧ ys[i]? = some y,
    fun i H v H' => ∃ q x y, v = .ref q ∧ H q = none ∧ H' = upd H q (.tup [x, y]) ∧ (∀ xs, S H xs → xs[i]? = some x) ∧ ∀ ys, T H ys → ys[i]? = some y,
    fun i H => ∃ xs ys : List V, S H xs ∧ T H ys ∧ (xs.length ≤ i ∨ ys.length ≤ i)⟩
/-- a tuple and a list -/
abbrev ItTL (K : PySem.W.Frag) (a b : Addr) : It := ItR (fun H xs => SqT K H a xs) fun H ys => SqL K H b ys
theorem turn_TL {P : Program} {w : World} {K : PySem.W.Frag} {elts : List Expr} {kk : Nat} {tpos : Pos} {a b z TI TO i1 i2 : Addr} (D : ZipApart z TI TO i1 i2 a b) :
    Turn P w K (.Tuple elts kk tpos) (ItTL K a b) [z, TI, TO, i1, i2] z (fun i h => IsZip h z TI TO .none ∧ IsPair h TI (.ref i1) (.ref i2) ∧ (∃ x y, IsPair h TO x y) ∧ h.IsTupleIter i1 a i ∧ h.IsListIter i2 b i) where
  mem := List.mem_cons_self
  self := fun A i s Q E st h => wpAny_pyIter_zip st.1 h
  keep := fun i h h' ⟨g1, g2, ⟨x, y, g3⟩, g4, g5⟩ k =>
    ⟨k z (by simp) _ g1, k TI (by simp) _ g2, ⟨x, y, k TO (by simp) _ g3⟩, g4.at fun o q => k i1 (by simp) o q, g5.at fun o q => k i2 (by simp) o q⟩
  obj := by
    rintro i h ⟨g1, g2, ⟨x, y, g3⟩, ⟨o1, e1, _, d1⟩, ⟨o2, e2, _, d2⟩⟩ c hc
    simp only [List.mem_cons, List.not_mem_nil, or_false] at hc
    rcases hc with rfl | rfl | rfl | rfl | rfl
    · exact ⟨_, g1, nofun⟩
    · exact ⟨_, g2, nofun⟩
    · exact ⟨_, g3, nofun⟩
    · exact ⟨o1, e1, fun v q => by rw [d1] at q; cases q⟩
    · exact ⟨o2, e2, fun v q => by rw [d2] at q; cases q⟩
  item := by
    rintro X rfl rfl rfl hc i pins s σ H E I hf ⟨g1, g2, ⟨x0, y0, g3⟩, g4, g5⟩ ⟨xs, ys, x, y, hqx, hqy, hx, hy⟩
    obtain ⟨us, rv, p, _⟩ := I.tuple hqx
    obtain ⟨ws, rv2, p2, _⟩ := I.list hqy
    obtain ⟨u, hu, ru⟩ := rv.get hx
    obtain ⟨u2, hu2, ru2⟩ := rv2.get hy
    have zl : z < s.heap.objs.size := Heap.lt_size g1
    refine nextZ_item (runs_tup (i := i1) (l := a) (xs := us.toArray) (Ne.symm D.l1i1)) (runs_lst (i := i2) (l := b) (xs := ws.toArray) (Ne.symm D.l2i2)) D g1 g2 g3 ⟨g4, p⟩ ⟨g5, p2.isList⟩ (x := u) (y := u2) (by simpa using hu) (by simpa using hu2) fun h' q1 q2 q3 q4 q5 q6 => ?_
    refine ⟨_, rfl, wpAny_letOwnedTupleGo_zip (s := { s with heap := h' }) q1 fun h2 z2 sb => ?_⟩
    have pair : h2.get? s.heap.objs.size = some { cls := .type "tuple", data := .seq #[u, u2] } := (sb.2 _ (Nat.ne_of_gt zl)).trans q5
    have ok2 : ObjOk X.prog X.w (upd H s.heap.objs.size (.tup [x, y])) h2 s.heap.objs.size (.tup [x, y]) := ⟨by show 2 ≤ sizeLine; decide, [u, u2], .cons ru (.cons ru2 .nil), ⟨_, pair, rfl, _, rfl⟩⟩
    have out : ∀ c, c ∉ [z, TI, TO, i1, i2] → c ≠ z ∧ c ≠ TO ∧ c ≠ i1 ∧ c ≠ i2 := fun c hn => by
      simp only [List.mem_cons, List.not_mem_nil, or_false, not_or] at hn
      exact ⟨hn.1, hn.2.2.1, hn.2.2.2.1, hn.2.2.2.2⟩
    have J : Inv X pins σ (upd H s.heap.objs.size (.tup [x, y])) { s with heap := h2 } :=
      I.turnedNew (t' := s.toks) (ch := [z, TI, TO, i1, i2]) (fun c o hb q => let ⟨n1, n2, n3, n4⟩ := out c hb; (sb.2 c n1).trans (q6 c o n1 n2 n3 n4 q)) hf (Nat.le_refl _) ok2
    refine ⟨.ref s.heap.objs.size, _, J, rfl, ⟨_, x, y, rfl, I.hok.fresh (Nat.le_refl _), rfl, fun l hl => by rw [I.tuple_inj hl hqx]; exact hx, fun l hl => by rw [I.list_inj hl hqy]; exact hy⟩, ⟨z2, ?_, ⟨u, u2, ?_⟩, ?_, ?_⟩, fun c hcm => ?_⟩
    · exact (sb.2 _ D.TIz).trans (q6 _ _ D.TIz D.TITO D.TIi1 D.TIi2 g2)
    · exact (sb.2 _ D.TOz).trans q2
    · exact q3.1.at fun o q => (sb.2 _ D.i1z).trans q
    · exact q4.1.at fun o q => (sb.2 _ D.i2z).trans q
    · have lt : c < s.heap.objs.size := by
        simp only [List.mem_cons, List.not_mem_nil, or_false] at hcm
        obtain ⟨o1, e1, _⟩ := g4
        obtain ⟨o2, e2, _⟩ := g5
        rcases hcm with rfl | rfl | rfl | rfl | rfl
        · exact zl
        · exact Heap.lt_size g2
        · exact Heap.lt_size g3
        · exact Heap.lt_size e1
        · exact Heap.lt_size e2
      rw [upd_ne (Nat.ne_of_lt lt)]
      exact (hf c hcm).1
  done := by
    rintro X rfl rfl rfl hc i pins s σ H E I hf ⟨g1, g2, ⟨x0, y0, g3⟩, g4, g5⟩ ⟨xs, ys, hqx, hqy, hend⟩
    obtain ⟨us, rv, p, _⟩ := I.tuple hqx
    obtain ⟨ws, rv2, p2, _⟩ := I.list hqy
    have n1 := rv.length
    have n2 := rv2.length
    refine nextZ_end (runs_tup (i := i1) (l := a) (xs := us.toArray) (Ne.symm D.l1i1)) (runs_lst (i := i2) (l := b) (xs := ws.toArray) (Ne.symm D.l2i2)) (I.ok.hd hc) D g1 g2 g3 ⟨g4, p⟩ ⟨g5, p2.isList⟩ ?_ fun h' q6 => ⟨rfl, ?_⟩
    · rcases hend with q | q
      · exact .inl (by simp; omega)
      · exact .inr (by simp; omega)
    · refine I.turnedL (t' := s.toks) (ch := [z, TI, TO, i1, i2]) (fun c o hn q => ?_) hf
      simp only [List.mem_cons, List.not_mem_nil, or_false, not_or] at hn
      exact q6 c o hn.1 hn.2.2.1 hn.2.2.2.1 hn.2.2.2.2 q
section
variable {prog : Program} {w : World} {A : Around} {E : Value → Shared → Prop} {s : Shared}
abbrev hpTL1 (h : Heap) (l1 : Addr) : Heap := h.push { cls := .type "tuple_iterator", data := .fields #[.ref l1, .int 0 0] }
abbrev hpTL2 (h : Heap) (l1 l2 : Addr) : Heap := (hpTL1 h l1).push { cls := .type "list_iterator", data := .fields #[.ref l2, .int 0 0] }
abbrev hpTL3 (h : Heap) (l1 l2 : Addr) : Heap := (hpTL2 h l1 l2).push { cls := .type "tuple", data := .seq #[.ref h.objs.size, .ref (hpTL1 h l1).objs.size] }
abbrev hpTL4 (h : Heap) (l1 l2 : Addr) : Heap := (hpTL3 h l1 l2).push { cls := .type "tuple", data := .seq #[.none, .none] }
abbrev hpTL5 (h : Heap) (l1 l2 : Addr) : Heap := (hpTL4 h l1 l2).push { cls := .type "zip", data := .fields #[.none, .bool false, .bool false, .ref (hpTL2 h l1 l2).objs.size, .ref (hpTL3 h l1 l2).objs.size] }
theorem newTL (l1 l2 : Addr) (xs ys : Array Value) :
    Meets (Builtin.«zip.__new__» ⟨[.type "zip", .ref l1, .ref l2], []⟩) (fun _ R s => s.heap.IsTuple l1 xs ∧ s.heap.IsList l2 ys ∧
      R (.ok (.ret (.ref (hpTL4 s.heap l1 l2).objs.size))) { s with heap := hpTL5 s.heap l1 l2 }) :=
  .of_wp fun prog w A R s h => by
    obtain ⟨hp, g, d, tk, os⟩ := s
    obtain ⟨t1, t2, h⟩ := h
    have hsub := sub_zip
    have u1 : Heap.IsTuple (Shared.heap ⟨hp, g, d, tk, os⟩) l1 xs := t1
    have u2 : Heap.IsList (Shared.heap ⟨hp.push { cls := .type "tuple_iterator", data := .fields #[.ref l1, .int 0 0] }, g, d, tk, os⟩) l2 ys := Heap.IsList.push t2 _
    wp_walk using wpAny_pyIter_tuple u1, wpAny_pyIter_list u2
    exact ⟨_, rfl, h⟩
theorem callTL {l1 l2 : Addr} {xs ys : Array Value} {Q : Value → Shared → Prop} (t1 : s.heap.IsTuple l1 xs) (t2 : s.heap.IsList l2 ys)
    (h : ∀ h', IsZip h' (s.heap.objs.size + 4) (s.heap.objs.size + 2) (s.heap.objs.size + 3) .none → IsPair h' (s.heap.objs.size + 2) (.ref s.heap.objs.size) (.ref (s.heap.objs.size + 1)) →
      IsPair h' (s.heap.objs.size + 3) .none .none → h'.IsTupleIter s.heap.objs.size l1 0 → h'.IsListIter (s.heap.objs.size + 1) l2 0 → (∀ c o, s.heap.get? c = some o → h'.get? c = some o) → Q (.ref (s.heap.objs.size + 4)) { s with heap := h' }) :
    wpAny (model prog w) A (call (.type "zip") [.ref l1, .ref l2]) Q E s := by
  refine callType_new F.called_zip (by decide) (F.typeCall_zip_2 _ _) (F.newCall_zip_2 _ _) (fun obj => F.args_object_init_3 obj _ _) F.entry_zip_new (newTL l1 l2 xs ys) ⟨t1, t2, ?_⟩
  generalize hn : s.heap.objs.size = n at h
  have n1 : (hpTL1 s.heap l1).objs.size = n + 1 := by rw [Heap.size_push, hn]
  have n2 : (hpTL2 s.heap l1 l2).objs.size = n + 2 := by rw [Heap.size_push, n1]
  have n3 : (hpTL3 s.heap l1 l2).objs.size = n + 3 := by rw [Heap.size_push, n2]
  have n4 : (hpTL4 s.heap l1 l2).objs.size = n + 4 := by rw [Heap.size_push, n3]
  have up : ∀ {h : Heap} {c : Addr} {o o' : Obj}, h.get? c = some o → (h.push o').get? c = some o := fun e => Heap.get?_push_of_some _ e
  have at' : ∀ {h : Heap} {o : Obj} {m : Nat}, h.objs.size = m → o.isFreed = false → (h.push o).get? m = some o := fun e f => by subst e; exact Heap.get?_push_size _ f
  have o5 : (hpTL5 s.heap l1 l2).get? (n + 4) = some { cls := .type "zip", data := .fields #[.none, .bool false, .bool false, .ref (n + 2), .ref (n + 3)] } := (at' n4 rfl).trans (by rw [n2, n3])
  have o4 : (hpTL5 s.heap l1 l2).get? (n + 3) = _ := up (at' (o := { cls := .type "tuple", data := .seq #[.none, .none] }) n3 rfl)
  have o3 : (hpTL5 s.heap l1 l2).get? (n + 2) = _ := up (up (at' (o := { cls := .type "tuple", data := .seq #[.ref s.heap.objs.size, .ref (hpTL1 s.heap l1).objs.size] }) n2 rfl))
  have o2 : (hpTL5 s.heap l1 l2).get? (n + 1) = _ := up (up (up (at' (o := { cls := .type "list_iterator", data := .fields #[.ref l2, .int 0 0] }) n1 rfl)))
  have o1 : (hpTL5 s.heap l1 l2).get? n = _ := up (up (up (up (at' (o := { cls := .type "tuple_iterator", data := .fields #[.ref l1, .int 0 0] }) hn rfl))))
  rw [hn, n1] at o3
  show _ ∧ _
  rw [n4]
  exact ⟨⟨_, o5, rfl⟩, h _ o5 o3 o4 ⟨_, o1, rfl, rfl⟩ ⟨_, o2, rfl, rfl⟩ fun c o e => up (up (up (up (up e))))⟩
end
/-- zip of a tuple and a list, walked -/
def iTL (K : PySem.W.Frag) (ta : TA) : TI := fun σ H R => ta σ H fun vs H1 => ∃ a b xs ys, vs = [.ref a, .ref b] ∧ SqT K H1 a xs ∧ SqL K H1 b ys ∧ R (ItTL K a b) H1
theorem pi_TL {X : Cx} {e e2 : Expr} {ta : TA} {p pos tpos : Pos} {elts : List Expr} {kk : Nat} (hg : Gl X "zip") (hm : X.mg "zip" = none) (ha : PA X [e, e2] ta)
    (hs : starEach [e, e2] X.env = (false, eval e X.env) :: starEach [e2] X.env := by rfl) (hpl : (backTo pos (starEach [e2] X.env)).any (·.1) = false := by rfl) :
    PI X (.Tuple elts kk tpos) (.Call (.Name "zip" p) [e, e2] [] pos) (iTL X.K ta) := ⟨fun pins s σ H R I h => by
  refine Call_ (ld_blt I hg hm PyProof.Rows.boot_zip (PyProof.Rows.callWith_type1 (thn (ha.run pos pins s σ H _ I h) ?_) hs hpl))
  rintro us s1 ⟨vs, H1, I1, r1, a, b, xs, ys, rfl, hqx, hqy, q⟩
  cases r1 with
  | cons r rr => cases rr with
    | cons r' rr =>
      cases rr; cases r; cases r'
      obtain ⟨ts, _, p1, _⟩ := I1.tuple hqx
      obtain ⟨ls, _, p2, _⟩ := I1.list hqy
      have lt1 : a < s1.heap.objs.size := let ⟨_, e, _⟩ := p1; Heap.lt_size e
      have lt2 : b < s1.heap.objs.size := p2.lt
      generalize hn : s1.heap.objs.size = n at lt1 lt2
      refine callTL p1 p2.isList fun h' g1 g2 g3 g4 g5 kept => wpAny_pyIter_zip g1 ?_
      rw [hn] at g1 g2 g3 g4 g5
      have fresh : ∀ c ∈ [n + 4, n + 2, n + 3, n, n + 1], FpOk X pins H1 c := fun c hc => by
        have le : s1.heap.objs.size ≤ c := by
          simp only [List.mem_cons, List.not_mem_nil, or_false] at hc
          rw [hn]; omega
        exact I1.fpOk le (I1.hok.fresh le)
      rw [hn]
      exact ⟨n + 4, [n + 4, n + 2, n + 3, n, n + 1], _, _, H1, rfl, I1.kept (t' := s1.toks) kept, turn_TL (PySem.W.ktu_apart n a b lt1 lt2), ⟨g1, g2, ⟨_, _, g3⟩, g4, g5⟩, fresh, q⟩⟩
theorem walk_TL {K : PySem.W.Frag} {a b : Addr} {xs ys : List V} {n : Nat} (hn : n = min xs.length ys.length) : Walk (ItTL K a b) n (fun H => SqT K H a xs ∧ SqL K H b ys) (YPair (fun i => xs[i]?) (fun i => ys[i]?)) := by
  refine ⟨fun i _ hi ⟨q1, q2⟩ => ?_, fun _ ⟨q1, q2⟩ => ⟨xs, ys, q1, q2, by omega⟩, fun i H v H' _ ⟨q1, q2⟩ ⟨q, x, y, h1, h2, h3, h4, h5⟩ => ⟨q, x, y, h1, h2, h3, h4 xs q1, h5 ys q2⟩⟩
  have l1 : i < xs.length := by omega
  have l2 : i < ys.length := by omega
  exact ⟨xs, ys, xs[i], ys[i], q1, q2, List.getElem?_eq_getElem l1, List.getElem?_eq_getElem l2⟩
def iZTL (fs : DL') : DL' := fun ρ Q E => fs ρ (fun ds => match ds with | [.tuple xs, .list ys] => Q (zipD xs ys) | _ => False) E
theorem pi_zipTLD {X : Cx} {W : WX} {e e2 : Expr} {fs : DL'} {p pos tpos : Pos} {elts : List Expr} {kk : Nat} (hm : X.mg "zip" = none) (ha : PA X [e, e2] (tS X.K W fs)) (hg : Gl X "zip" := by rfl)
    (hs : starEach [e, e2] X.env = (false, eval e X.env) :: starEach [e2] X.env := by rfl) (hpl : (backTo pos (starEach [e2] X.env)).any (·.1) = false := by rfl) :
    PI X (.Tuple elts kk tpos) (.Call (.Name "zip" p) [e, e2] [] pos) (tI X.K W (iZTL fs)) :=
  PI.weak (pi_TL hg hm ha hs hpl) fun σ H R ⟨C, F, ρ, Qd, Ed, S, h, k, x⟩ => ⟨C, F, ρ, _, Ed, S, h, fun F1 H1 vs ds S1 s1 i1 q => by
    split at q
    · cases i1 with | cons a t => cases t with | cons b t => cases t; cases a with | tup e1 z1 t1 => cases b with | lst e2 z2 t2 =>
        refine ⟨_, _, _, _, rfl, sqT_mono S1.le e1, .of (S1.le _ _ e2), k F1 H1 _ _ S1 s1 (by rw [zipD_length, ← t1.length]; omega) ?_ q⟩
        rw [zipD_length, ← t1.length, ← t2.length]
        refine walk_pair (walk_TL rfl) (fun H hH => ⟨sqT_mono hH e1, .of (hH _ _ e2)⟩) fun i u v h1 h2 => ?_
        obtain ⟨dx, g1, i1⟩ := t1.get h1
        obtain ⟨dy, g2, i2⟩ := t2.get h2
        exact ⟨dx, dy, i1, i2, zipD_get g1 g2⟩
    · exact q.elim, x⟩
end DL
set_option Elab.async false
set_option linter.all false
set_option maxRecDepth 100000
set_option maxHeartbeats 4000000
namespace LW
open PySem PySem.Spec PyProof.Rows L2 DL
abbrev gLt := gOrd (fun i j => decide (i < j)) ltS
abbrev gLe := gOrd (fun i j => decide (i ≤ j)) (fun x y => !ltS y x)
abbrev gGt := gOrd (fun i j => decide (j < i)) (fun x y => ltS y x)
abbrev gGe := gOrd (fun i j => decide (j ≤ i)) (fun x y => !ltS x y)
abbrev c_WAYS : PyData := .tuple [.str "fresh", .str "kept"]
abbrev c_STRIKES : PyData := .tuple [.str "always", .str "never", .str "own"]
abbrev c_FINDS : PyData := .tuple [.str "any", .str "live"]
abbrev c_DRAINS : PyData := .tuple [.str "ahead", .str "behind"]
abbrev c_HOLDS : PyData := .tuple [.str "address", .str "index"]
def top (i : Nat) : Stmt := PySem.Challenge.pw_besidealone_k28_books_and_what_makes_the.main.body.getD i (.Pass ⟨0, 0, 0, 0⟩)
abbrev s__law_bag : Stmt := top 13
abbrev N__law_bag : List Str := ["script", "cell"]
theorem sc__law_bag : FnScope N__law_bag ["script"] (defScope s__law_bag) := ⟨rfl, rfl, rfl, by decide +kernel, rfl, by decide +kernel, by decide +kernel⟩
abbrev s__law_take : Stmt := top 14
abbrev N__law_take : List Str := ["bag", "many", "begin", "second", "cell", "stirred", "drawn"]
theorem sc__law_take : FnScope N__law_take ["bag", "many"] (defScope s__law_take) := ⟨rfl, rfl, rfl, by decide +kernel, rfl, by decide +kernel, by decide +kernel⟩
def g__law_take : DS :=
  dSeq (dIfS (dTest (dOp gEq (dBag 0 0) (dC (.int 0)))) (dSeq (dSet 4 (dOp gIx (dOp gAdd (dSl gSl (dBag3 0) (dPt (dBag 0 2)) (dNoPt)) (dFrz (dLst (dCons (dC (.int 0)) (dNil))))) (dC (.int 0))))
    (dSeq (dAugBag 0 2 (dC (.int 1)))
    (dSeq (dIfS (dTest (dOp gGe (dPeek 4) (dOp gPow (dC (.int 10)) (dC (.int 18))))) (dSetBag 0 0 (dVar 4)) (dNext))
    (dSeq (dSet 5 (dOp gAdd (dOp gAdd (dOp gMulA (dBag 0 1) (dC (.int 48271))) (dOp gMod (dCall gIntC (dCons (dPeek 4) (dNil))) (dC (.int 2147483647)))) (dOp gMulA (dC (.int 7919)) (dBag 0 2))))
    (dSetBag 0 1 (dOp gMod (dCall gIntC (dCons (dPeek 5) (dNil))) (dC (.int 2147483647)))))))) (dNext))
    (dSeq (dIfS (dTest (dOp gGt (dBag 0 0) (dC (.int 0)))) (dSeq (dSet 6 (dOp gMod (dCall gIntC (dCons (dBag 0 0) (dNil))) (dPeek 1)))
    (dSeq (dSetBag 0 0 (dOp gFdiv (dCall gIntC (dCons (dBag 0 0) (dNil))) (dPeek 1)))
    (dRet (dVar 6)))) (dNext))
    (dSeq (dSet 2 (dOp gMod (dCall gIntC (dCons (dOp gMulA (dOp gAdd (dBag 0 1) (dC (.int 1))) (dC (.int 39373))) (dNil))) (dC (.int 1000000007))))
    (dSeq (dSet 3 (dOp gMod (dCall gIntC (dCons (dOp gMulA (dOp gMod (dCall gIntC (dCons (dOp gMulA (dPeek 2) (dPeek 2)) (dNil))) (dC (.int 998244353))) (dC (.int 30011))) (dNil))) (dC (.int 998244353))))
    (dRet (dOp gMod (dCall gIntC (dCons (dOp gFdiv (dPeek 3) (dC (.int 7))) (dNil))) (dPeek 1))))))
def fn__law_take : DFn := fun ss Q _ => ss.length = 2 ∧ g__law_take (ends0 Q fun _ => False) (startD 7 ss)
abbrev s__law_some : Stmt := top 15
abbrev N__law_some : List Str := ["bag", "things"]
theorem sc__law_some : FnScope N__law_some ["bag", "things"] (defScope s__law_some) := ⟨rfl, rfl, rfl, by decide +kernel, rfl, by decide +kernel, by decide +kernel⟩
def g__law_some : DS :=
  dRet (dOp gIx (dPeek 1) (dFn0 fn__law_take (aBag 0 (aCons (dCall gLen (dCons (dPeek 1) (dNil))) (aNil)))))
def fn__law_some : DFn := fun ss Q _ => ss.length = 2 ∧ g__law_some (ends0 Q fun _ => False) (startD 2 ss)
abbrev s__law_book : Stmt := top 22
abbrev N__law_book : List Str := ["bag", "drain", "book", "menus", "turn", "way", "many", "strike", "find", "at"]
theorem sc__law_book : FnScope N__law_book ["bag"] (defScope s__law_book) := ⟨rfl, rfl, rfl, by decide +kernel, rfl, by decide +kernel, by decide +kernel⟩
def g__law_book : DS :=
  dSeq (dPar 5 6 (dCons (dFn0 fn__law_some (aBag 0 (aCons (dFrz (dLst (dCons (dC (.str "kept")) (dCons (dC (.str "fresh")) (dCons (dC (.str "kept")) (dNil)))))) (aNil)))) (dCons (dFn0 fn__law_some (aBag 0 (aCons (dFrz (dLst (dCons (dC (.int 1)) (dCons (dC (.int 1)) (dCons (dC (.int 2)) (dCons (dC (.int 3)) (dNil))))))) (aNil)))) (dNil))))
    (dSeq (dSet 1 (dFn0 fn__law_some (aBag 0 (aCons (dFrz (dLst (dCons (dC (.str "ahead")) (dCons (dC (.str "behind")) (dNil))))) (aNil)))))
    (dSeq (dPar 7 8 (dCons (dFn0 fn__law_some (aBag 0 (aCons (dFrz (dLst (dCons (dC (.str "own")) (dCons (dC (.str "never")) (dNil))))) (aNil)))) (dCons (dC (.str "live")) (dNil))))
    (dSeq (dIfS (dTest (dOp gEq (dPeek 1) (dC (.str "ahead")))) (dAsg (dFn0 fn__law_some (aBag 0 (aCons (dFrz (dLst (dCons (dTup (dCons (dC (.str "own")) (dCons (dC (.str "live")) (dNil)))) (dCons (dTup (dCons (dC (.str "own")) (dCons (dC (.str "any")) (dNil)))) (dCons (dTup (dCons (dC (.str "always")) (dCons (dC (.str "any")) (dNil)))) (dCons (dTup (dCons (dC (.str "always")) (dCons (dC (.str "live")) (dNil)))) (dCons (dTup (dCons (dC (.str "never")) (dCons (dC (.str "live")) (dNil)))) (dNil)))))))) (aNil)))) (gT 2 (gsCons (gN 7) (gsCons (gN 8) (gsNil))))) (dNext))
    (dSeq (dSetL 2 (dLst (dCons (dVar 5) (dCons (dVar 6) (dCons (dC (.int 0)) (dCons (dVar 6) (dCons (dC (.int 1)) (dCons (dVar 7) (dCons (dVar 8) (dCons (dVar 1) (dCons (dC (.str "index")) (dNil))))))))))))
    (dSeq (dIfS (dTest (dOp gEq (dPeek 5) (dC (.str "fresh")))) (dAsg (dTup (dCons (dFn0 fn__law_take (aBag 0 (aCons (dC (.int 3)) (aNil)))) (dCons (dFn0 fn__law_some (aBag 0 (aCons (dFrz (dLst (dCons (dC (.str "index")) (dCons (dC (.str "address")) (dNil))))) (aNil)))) (dNil)))) (gT 2 (gsCons (gIxE 2 (dC (.int 2))) (gsCons (gIxE 2 (dC (.int 8))) (gsNil))))) (dNext))
    (dSeq (dSet 3 (dOp gAdd (dOp gAdd (dFrz (dLst (dCons (dFrz (dLst (dCons (dC (.str "fresh")) (dCons (dC (.str "kept")) (dNil))))) (dNil)))) (dOp gMulA (dFrz (dLst (dCons (dFrz (dLst (dCons (dC (.int 0)) (dCons (dC (.int 1)) (dCons (dC (.int 2)) (dCons (dC (.int 3)) (dNil))))))) (dNil)))) (dC (.int 4)))) (dFrz (dLst (dCons (dFrz (dLst (dCons (dC (.str "always")) (dCons (dC (.str "never")) (dCons (dC (.str "own")) (dNil)))))) (dCons (dFrz (dLst (dCons (dC (.str "any")) (dCons (dC (.str "live")) (dNil))))) (dCons (dFrz (dLst (dCons (dC (.str "ahead")) (dCons (dC (.str "behind")) (dNil))))) (dCons (dFrz (dLst (dCons (dC (.str "address")) (dCons (dC (.str "index")) (dNil))))) (dNil)))))))))
    (dSeq (dFor (iR1 (dCons (dFn0 fn__law_some (aBag 0 (aCons (dFrz (dLst (dCons (dC (.int 0)) (dCons (dC (.int 1)) (dCons (dC (.int 1)) (dCons (dC (.int 2)) (dCons (dC (.int 5)) (dNil)))))))) (aNil)))) (dNil))) (gN 4) (dSeq (dSet 9 (dFn0 fn__law_take (aBag 0 (aCons (dC (.int 9)) (aNil)))))
    (dSetIx 2 (dVar 9) (dFn0 fn__law_some (aBag 0 (aCons (dOp gIx (dPeek 3) (dPeek 9)) (aNil)))))))
    (dRet (dCall gTuple (dCons (dPeek 2) (dNil)))))))))))
def fn__law_book : DFn := fun ss Q _ => ss.length = 1 ∧ g__law_book (ends0 Q fun _ => False) (startD 10 ss)
abbrev s__law_odd : Stmt := top 19
abbrev N__law_odd : List Str := ["bag", "some"]
theorem sc__law_odd : FnScope N__law_odd ["bag"] (defScope s__law_odd) := ⟨rfl, rfl, rfl, by decide +kernel, rfl, by decide +kernel, by decide +kernel⟩
def g__law_odd : DS :=
  dSeq (dSet 1 (dFrz (dLst (dCons (dC .none) (dCons (dC (.bool true)) (dCons (dC (.bool false)) (dCons (dC (.int 0)) (dCons (dC (.int 1)) (dCons (dUn gNeg (dC (.int 1))) (dCons (dOp gPow (dC (.int 10)) (dC (.int 39))) (dCons (dC (.str "")) (dCons (dC (.str "a")) (dCons (dC (.str "no")) (dCons (dC (.str "thing")) (dCons (dC (.str "word")) (dCons (dTup (dNil)) (dCons (dFrz (dLst (dNil))) (dCons (dFrzD (dEmptyK)) (dCons (dTup (dCons (dC (.str "thing")) (dNil))) (dCons (dTup (dCons (dC (.str "hole")) (dNil))) (dNil)))))))))))))))))))))
    (dRet (dFn0 fn__law_some (aBag 0 (aCons (dOp gAdd (dPeek 1) (dFrz (dLst (dCons (dTup (dCons (dC (.str "raw")) (dCons (dC (.str "truth")) (dCons (dC (.str "yes")) (dNil))))) (dCons (dFrz (dLst (dCons (dC (.str "no")) (dNil)))) (dCons (dFrzD (dDisp [(dC (.str "a"), dC (.int 1))])) (dCons (dC (.str "a\n")) (dCons (dTup (dCons (dTup (dCons (dC (.str "a")) (dCons (dC (.str "b")) (dNil)))) (dNil))) (dCons (dTup (dCons (dC (.str "a")) (dCons (dC (.str "b")) (dCons (dTup (dCons (dC (.str "c")) (dNil))) (dNil))))) (dCons (dC (.str "abcdefghijklm")) (dNil))))))))))) (aNil)))))
def fn__law_odd : DFn := fun ss Q _ => ss.length = 1 ∧ g__law_odd (ends0 Q fun _ => False) (startD 2 ss)
abbrev s__law_is_int : Stmt := top 18
abbrev N__law_is_int : List Str := ["thing"]
theorem sc__law_is_int : FnScope N__law_is_int ["thing"] (defScope s__law_is_int) := ⟨rfl, rfl, rfl, by decide +kernel, rfl, by decide +kernel, by decide +kernel⟩
def g__law_is_int : DS :=
  dRet (dAndV (dIsi isInt (dPeek 0)) (dNotV (dIsi isBool (dPeek 0))))
def fn__law_is_int : DFn := fun ss Q _ => ss.length = 1 ∧ g__law_is_int (ends0 Q fun _ => False) (startD 1 ss)
abbrev s__law_mixed : Stmt := top 16
abbrev N__law_mixed : List Str := ["bag", "things", "found", "thing"]
theorem sc__law_mixed : FnScope N__law_mixed ["bag", "things"] (defScope s__law_mixed) := ⟨rfl, rfl, rfl, by decide +kernel, rfl, by decide +kernel, by decide +kernel⟩
def g__law_mixed : DS :=
  dSeq (dSetL 2 (dLst (dNil)))
    (dSeq (dFor (iSeq (dVar 1)) (gN 3) (dIns 2 (dFn0 fn__law_take (aBag 0 (aCons (dOp gAdd (dCall gLen (dCons (dPeek 2) (dNil))) (dC (.int 1))) (aNil)))) (dVar 3)))
    (dFz 2 (dRet (dVar 2))))
def fn__law_mixed : DFn := fun ss Q _ => ss.length = 2 ∧ g__law_mixed (ends0 Q fun _ => False) (startD 4 ss)
abbrev s__law_bent : Stmt := top 20
abbrev N__law_bent : List Str := ["bag", "thing", "deep", "items", "menu", "way", "at", "some", "key", "value"]
theorem sc__law_bent : FnScope N__law_bent ["bag", "thing", "deep"] (defScope s__law_bent) := ⟨rfl, rfl, rfl, by decide +kernel, rfl, by decide +kernel, by decide +kernel⟩
def g__law_bent (fn : DFn) : DS :=
  dSeq (dIfS (dOr (dTest (dOp gEq (dPeek 2) (dC (.int 0)))) (dTest (dOp gEq (dFn0 fn__law_take (aBag 0 (aCons (dC (.int 9)) (aNil)))) (dC (.int 0))))) (dRet (dFn0 fn__law_odd (aBag 0 (aNil)))) (dNext))
    (dSeq (dIfS (dTest (dFn0 fn__law_is_int (aCons (dVar 1) (aNil)))) (dRet (dFn0 fn__law_some (aBag 0 (aCons (dFrz (dLst (dCons (dOp gAdd (dPeek 1) (dC (.int 1))) (dCons (dOp gSub (dPeek 1) (dC (.int 1))) (dCons (dC (.int 0)) (dCons (dUn gNeg (dPeek 1)) (dCons (dOp gEq (dPeek 1) (dC (.int 1))) (dCons (dC .none) (dCons (dCall gStrI (dCons (dPeek 1) (dNil))) (dNil)))))))))) (aNil))))) (dNext))
    (dSeq (dIfS (dAnd (dTest (dIsi isDict (dPeek 1))) (dTest (dOp gNe (dPeek 1) (dFrzD (dEmptyK))))) (dNever) (dNext))
    (dSeq (dIfS (dTest (dIsi isStr (dPeek 1))) (dRet (dFn0 fn__law_some (aBag 0 (aCons (dFrz (dLst (dCons (dOp gAdd (dPeek 1) (dC (.str "a"))) (dCons (dSl gSl (dPeek 1) (dPt (dC (.int 1))) (dNoPt)) (dCons (dOp gAdd (dPeek 1) (dC (.str "1"))) (dCons (dMt "str" gUpper (dPeek 1) dNil) (dCons (dC (.str "no")) (dCons (dOp gMulA (dPeek 1) (dC (.int 12))) (dCons (dC (.str "thing")) (dCons (dOp gAdd (dPeek 1) (dC (.str "\n"))) (dCons (dC (.str "given")) (dNil)))))))))))) (aNil))))) (dNext))
    (dSeq (dIfS (dOr (dNot (dTest (dIsi isTup (dPeek 1)))) (dTest (dOp gEq (dPeek 1) (dTup (dNil))))) (dRet (dFn0 fn__law_odd (aBag 0 (aNil)))) (dNext))
    (dSeq (dPar 5 6 (dCons (dFn0 fn__law_take (aBag 0 (aCons (dC (.int 9)) (aNil)))) (dCons (dFn0 fn__law_take (aBag 0 (aCons (dCall gLen (dCons (dPeek 1) (dNil))) (aNil)))) (dNil))))
    (dSeq (dIfS (dTest (dOp gEq (dPeek 5) (dC (.int 0)))) (dSeq (dSet 7 (dFrz (dLst (dCons (dFrz (dCallF gList (dCons (dPeek 1) (dNil)))) (dCons (dRev (dPeek 1)) (dCons (dOp gAdd (dSl gSl (dPeek 1) (dNoPt) (dPt (dVar 6))) (dSl gSl (dPeek 1) (dPt (dOp gAdd (dPeek 6) (dC (.int 1)))) (dNoPt))) (dCons (dOp gAdd (dSl gSl (dPeek 1) (dNoPt) (dPt (dOp gAdd (dPeek 6) (dC (.int 1))))) (dSl gSl (dPeek 1) (dPt (dVar 6)) (dNoPt))) (dNil))))))))
    (dRet (dFn0 fn__law_some (aBag 0 (aCons (dOp gAdd (dPeek 7) (dFrz (dLst (dCons (dOp gAdd (dPeek 1) (dTup (dCons (dC .none) (dNil)))) (dNil))))) (aNil)))))) (dNext))
    (dRet (dOp gAdd (dOp gAdd (dSl gSl (dPeek 1) (dNoPt) (dPt (dVar 6))) (dTup (dCons (dFn0 fn (aBag 0 (aCons (dOp gIx (dPeek 1) (dPeek 6)) (aCons (dOp gSub (dPeek 2) (dC (.int 1))) (aNil))))) (dNil)))) (dSl gSl (dPeek 1) (dPt (dOp gAdd (dPeek 6) (dC (.int 1)))) (dNoPt))))))))))
def fn__law_bent : Nat → DFn
  | 0 => fun _ _ _ => False
  | n + 1 => fun ss Q _ => ss.length = 3 ∧ g__law_bent (fn__law_bent n) (ends0 Q fun _ => False) (startD 10 ss)
abbrev s__law_alike : Stmt := top 17
abbrev N__law_alike : List Str := ["found", "due"]
theorem sc__law_alike : FnScope N__law_alike ["found", "due"] (defScope s__law_alike) := ⟨rfl, rfl, rfl, by decide +kernel, rfl, by decide +kernel, by decide +kernel⟩
def g__law_alike : DS :=
  dRet (dAndV (dOp gEq (dPeek 0) (dPeek 1)) (dOp gEq (dCall gRepr (dCons (dPeek 0) (dNil))) (dCall gRepr (dCons (dPeek 1) (dNil)))))
def fn__law_alike : DFn := fun ss Q _ => ss.length = 2 ∧ g__law_alike (ends0 Q fun _ => False) (startD 2 ss)
abbrev s_is_row_of : Stmt := top 2
abbrev N_is_row_of : List Str := ["thing", "many"]
theorem sc_is_row_of : FnScope N_is_row_of ["thing", "many"] (defScope s_is_row_of) := ⟨rfl, rfl, rfl, by decide +kernel, rfl, by decide +kernel, by decide +kernel⟩
def g_is_row_of : DS :=
  dRet (dAndV (dIsi isTup (dPeek 0)) (dOp gEq (dCall gLen (dCons (dPeek 0) (dNil))) (dPeek 1)))
def fn_is_row_of : DFn := fun ss Q _ => ss.length = 2 ∧ g_is_row_of (ends0 Q fun _ => False) (startD 2 ss)
abbrev s_is_one_of : Stmt := top 3
abbrev N_is_one_of : List Str := ["thing", "words"]
theorem sc_is_one_of : FnScope N_is_one_of ["thing", "words"] (defScope s_is_one_of) := ⟨rfl, rfl, rfl, by decide +kernel, rfl, by decide +kernel, by decide +kernel⟩
def g_is_one_of : DS :=
  dRet (dAndV (dIsi isStr (dPeek 0)) (dOp (gIn false) (dPeek 0) (dPeek 1)))
def fn_is_one_of : DFn := fun ss Q _ => ss.length = 2 ∧ g_is_one_of (ends0 Q fun _ => False) (startD 2 ss)
abbrev s_is_integer : Stmt := top 1
abbrev N_is_integer : List Str := ["thing"]
theorem sc_is_integer : FnScope N_is_integer ["thing"] (defScope s_is_integer) := ⟨rfl, rfl, rfl, by decide +kernel, rfl, by decide +kernel, by decide +kernel⟩
def g_is_integer : DS :=
  dRet (dAndV (dIsi isInt (dPeek 0)) (dNotV (dIsi isBool (dPeek 0))))
def fn_is_integer : DFn := fun ss Q _ => ss.length = 1 ∧ g_is_integer (ends0 Q fun _ => False) (startD 1 ss)
abbrev s_is_book : Stmt := top 10
abbrev N_is_book : List Str := ["thing", "menus", "one", "menu"]
theorem sc_is_book : FnScope N_is_book ["thing"] (defScope s_is_book) := ⟨rfl, rfl, rfl, by decide +kernel, rfl, by decide +kernel, by decide +kernel⟩
def g_is_book : DS :=
  dSeq (dIfS (dOr (dNot (dTest (dFn0 fn_is_row_of (aCons (dVar 0) (aCons (dC (.int 9)) (aNil)))))) (dNot (dTest (dCall gAll (dCons (dFrz (dLc (iSeq (dSl gSl (dPeek 0) (dPt (dC (.int 1))) (dPt (dC (.int 5))))) (gN 2) (dYes) (dAndV (dFn0 fn_is_integer (aCons (dVar 2) (aNil))) (dOp gGe (dPeek 2) (dC (.int 0)))) [2])) (dNil)))))) (dRet (dC (.bool false))) (dNext))
    (dSeq (dSet 1 (dTup (dCons (dC c_WAYS) (dCons (dC c_STRIKES) (dCons (dC c_FINDS) (dCons (dC c_DRAINS) (dCons (dC c_HOLDS) (dNil))))))))
    (dRet (dCall gAll (dCons (dFrz (dLc (iZ (dCons (dOp gAdd (dSl gSl (dPeek 0) (dNoPt) (dPt (dC (.int 1)))) (dSl gSl (dPeek 0) (dPt (dC (.int 5))) (dNoPt))) (dCons (dVar 1) (dNil)))) (gT 2 (gsCons (gN 2) (gsCons (gN 3) (gsNil)))) (dYes) (dFn0 fn_is_one_of (aCons (dVar 2) (aCons (dVar 3) (aNil)))) [2, 3])) (dNil)))))
def fn_is_book : DFn := fun ss Q _ => ss.length = 1 ∧ g_is_book (ends0 Q fun _ => False) (startD 4 ss)
abbrev s_is_safe : Stmt := top 11
abbrev N_is_safe : List Str := ["book", "way", "up", "more", "down", "home", "strike", "find", "drain", "hold"]
theorem sc_is_safe : FnScope N_is_safe ["book"] (defScope s_is_safe) := ⟨rfl, rfl, rfl, by decide +kernel, rfl, by decide +kernel, by decide +kernel⟩
def g_is_safe : DS :=
  dSeq (dAsg (dVar 0) (gT 9 (gsCons (gN 1) (gsCons (gN 2) (gsCons (gN 3) (gsCons (gN 4) (gsCons (gN 5) (gsCons (gN 6) (gsCons (gN 7) (gsCons (gN 8) (gsCons (gN 9) (gsNil))))))))))))
    (dSeq (dIfS (dOr (dTest (dOp gNe (dPeek 5) (dC (.int 1)))) (dOr (dTest (dOp gNe (dPeek 2) (dPeek 4))) (dTest (dOp gLt (dPeek 2) (dC (.int 1)))))) (dRet (dC (.bool false))) (dNext))
    (dSeq (dIfS (dTest (dOp gEq (dPeek 1) (dC (.str "fresh")))) (dRet (dC (.bool true))) (dNext))
    (dSeq (dIfS (dOr (dTest (dOp gNe (dPeek 3) (dC (.int 0)))) (dTest (dOp gNe (dPeek 9) (dC (.str "index"))))) (dRet (dC (.bool false))) (dNext))
    (dSeq (dIfS (dTest (dOp gEq (dPeek 8) (dC (.str "ahead")))) (dRet (dOrV (dOp gNe (dPeek 6) (dC (.str "never"))) (dOp gNe (dPeek 7) (dC (.str "any"))))) (dNext))
    (dRet (dAndV (dOp gEq (dPeek 7) (dC (.str "live"))) (dOp gNe (dPeek 6) (dC (.str "always")))))))))
def fn_is_safe : DFn := fun ss Q _ => ss.length = 1 ∧ g_is_safe (ends0 Q fun _ => False) (startD 10 ss)
abbrev s__law_is_safe : Stmt := top 21
abbrev N__law_is_safe : List Str := ["book", "way", "up", "more", "down", "home", "strike", "find", "drain", "hold"]
theorem sc__law_is_safe : FnScope N__law_is_safe ["book"] (defScope s__law_is_safe) := ⟨rfl, rfl, rfl, by decide +kernel, rfl, by decide +kernel, by decide +kernel⟩
def g__law_is_safe : DS :=
  dSeq (dAsg (dVar 0) (gT 9 (gsCons (gN 1) (gsCons (gN 2) (gsCons (gN 3) (gsCons (gN 4) (gsCons (gN 5) (gsCons (gN 6) (gsCons (gN 7) (gsCons (gN 8) (gsCons (gN 9) (gsNil))))))))))))
    (dSeq (dIfS (dOr (dTest (dOp gNe (dPeek 5) (dC (.int 1)))) (dOr (dTest (dOp gNe (dPeek 2) (dPeek 4))) (dTest (dOp gLt (dPeek 2) (dC (.int 1)))))) (dRet (dC (.bool false))) (dNext))
    (dSeq (dIfS (dTest (dOp gEq (dPeek 1) (dC (.str "fresh")))) (dRet (dC (.bool true))) (dNext))
    (dSeq (dIfS (dOr (dTest (dOp gNe (dPeek 3) (dC (.int 0)))) (dTest (dOp gNe (dPeek 9) (dC (.str "index"))))) (dRet (dC (.bool false))) (dNext))
    (dRet (dIf (dTest (dOp gEq (dPeek 8) (dC (.str "ahead")))) (dNotV (dAndV (dOp gEq (dPeek 6) (dC (.str "never"))) (dOp gEq (dPeek 7) (dC (.str "any"))))) (dAndV (dOp gEq (dPeek 7) (dC (.str "live"))) (dOp gNe (dPeek 6) (dC (.str "always")))))))))
def fn__law_is_safe : DFn := fun ss Q _ => ss.length = 1 ∧ g__law_is_safe (ends0 Q fun _ => False) (startD 10 ss)
abbrev s__law_is_book : Stmt := top 23
abbrev N__law_is_book : List Str := ["thing", "menus", "one", "some"]
theorem sc__law_is_book : FnScope N__law_is_book ["thing"] (defScope s__law_is_book) := ⟨rfl, rfl, rfl, by decide +kernel, rfl, by decide +kernel, by decide +kernel⟩
def g__law_is_book : DS :=
  dSeq (dSet 1 (dFrz (dLst (dCons (dTup (dCons (dC (.str "fresh")) (dCons (dC (.str "kept")) (dNil)))) (dCons (dC .none) (dCons (dC .none) (dCons (dC .none) (dCons (dC .none) (dCons (dTup (dCons (dC (.str "always")) (dCons (dC (.str "never")) (dCons (dC (.str "own")) (dNil))))) (dCons (dTup (dCons (dC (.str "any")) (dCons (dC (.str "live")) (dNil)))) (dCons (dTup (dCons (dC (.str "ahead")) (dCons (dC (.str "behind")) (dNil)))) (dCons (dTup (dCons (dC (.str "address")) (dCons (dC (.str "index")) (dNil)))) (dNil)))))))))))))
    (dSeq (dIfS (dOr (dNot (dTest (dIsi isTup (dPeek 0)))) (dTest (dOp gNe (dCall gLen (dCons (dPeek 0) (dNil))) (dC (.int 9))))) (dRet (dC (.bool false))) (dNext))
    (dSeq (dFor (iZTL (dCons (dVar 0) (dCons (dVar 1) (dNil)))) (gT 2 (gsCons (gN 2) (gsCons (gN 3) (gsNil)))) (dSeq (dIfS (dAnd (dTest (dOp (gIsN false) (dPeek 3) (dC .none))) (dOr (dNot (dTest (dFn0 fn__law_is_int (aCons (dVar 2) (aNil))))) (dTest (dOp gLt (dPeek 2) (dC (.int 0)))))) (dRet (dC (.bool false))) (dNext))
    (dIfS (dAnd (dTest (dOp (gIsN true) (dPeek 3) (dC .none))) (dOr (dNot (dTest (dIsi isStr (dPeek 2)))) (dTest (dOp (gIn true) (dPeek 2) (dPeek 3))))) (dRet (dC (.bool false))) (dNext))))
    (dRet (dC (.bool true)))))
def fn__law_is_book : DFn := fun ss Q _ => ss.length = 1 ∧ g__law_is_book (ends0 Q fun _ => False) (startD 4 ss)
abbrev s_law : Stmt := top 24
abbrev N_law : List Str := ["script", "bag", "turn", "book", "at", "great", "one", "things", "thing", "shown"]
theorem sc_law : FnScope N_law ["script"] (defScope s_law) := ⟨rfl, rfl, rfl, by decide +kernel, rfl, by decide +kernel, by decide +kernel⟩
def g_law : DS :=
  dSeq (dFor (iR1 (dCons (dC (.int 12)) (dNil))) (gN 2) (dSeq (dSet 3 (dFn0 fn__law_book (aBag 1 (aNil))))
    (dSeq (dSet 4 (dFn0 fn__law_take (aBag 1 (aCons (dC (.int 9)) (aNil)))))
    (dSeq (dSet 5 (dOp gAdd (dOp gAdd (dSl gSl (dPeek 3) (dNoPt) (dPt (dC (.int 1)))) (dTup (dCons (dOp gPow (dC (.int 10)) (dC (.int 30))) (dCons (dC (.int 0)) (dCons (dOp gPow (dC (.int 10)) (dC (.int 30))) (dNil)))))) (dSl gSl (dPeek 3) (dPt (dC (.int 4))) (dNoPt))))
    (dSeq (dFor (iSeq (dTup (dCons (dVar 3) (dCons (dVar 5) (dNil))))) (gN 6) (dIfS (dNot (dTest (dFn0 fn__law_alike (aCons (dFrz (dLst (dCons (dFn0 fn_is_book (aCons (dVar 6) (aNil))) (dCons (dFn0 fn_is_safe (aCons (dVar 6) (aNil))) (dNil))))) (aCons (dFrz (dLst (dCons (dC (.bool true)) (dCons (dFn0 fn__law_is_safe (aCons (dVar 6) (aNil))) (dNil))))) (aNil)))))) (dRet (dC (.bool false))) (dNext)))
    (dSeq (dSet 7 (dFrz (dLst (dCons (dFrz (dCallF gList (dCons (dPeek 3) (dNil)))) (dCons (dSl gSl (dPeek 3) (dNoPt) (dPt (dC (.int 8)))) (dCons (dOp gAdd (dPeek 3) (dTup (dCons (dC (.str "own")) (dNil)))) (dCons (dRev (dPeek 3)) (dCons (dOp gAdd (dOp gAdd (dSl gSl (dPeek 3) (dNoPt) (dPt (dVar 4))) (dTup (dCons (dFn0 fn__law_odd (aBag 1 (aNil))) (dNil)))) (dSl gSl (dPeek 3) (dPt (dOp gAdd (dPeek 4) (dC (.int 1)))) (dNoPt))) (dCons (dFn0 fn__law_odd (aBag 1 (aNil))) (dCons (dFn0 (fn__law_bent 6) (aBag 1 (aCons (dVar 3) (aCons (dC (.int 2)) (aNil))))) (dNil)))))))))))
    (dFor (iSeq (dVar 7)) (gN 8) (dSeq (dSet 9 (dCall gRepr (dCons (dPeek 8) (dNil))))
    (dIfS (dOr (dNot (dTest (dFn0 fn__law_alike (aCons (dFn0 fn_is_book (aCons (dVar 8) (aNil))) (aCons (dFn0 fn__law_is_book (aCons (dVar 8) (aNil))) (aNil)))))) (dTest (dOp gNe (dCall gRepr (dCons (dPeek 8) (dNil))) (dPeek 9)))) (dRet (dC (.bool false))) (dNext))))))))))
    (dRet (dC (.bool true)))
structure Tops (K : PySem.W.Frag) (mg : Str → Option Value) where
  a__law_bag : Addr
  d__law_bag : FuncData
  f__law_bag : Fun K "_law_bag" "_law_bag" s__law_bag a__law_bag d__law_bag
  m__law_bag : mg "_law_bag" = some (.ref a__law_bag)
  b__law_bag : Binds K d__law_bag ["script"] []
  a__law_take : Addr
  d__law_take : FuncData
  f__law_take : Fun K "_law_take" "_law_take" s__law_take a__law_take d__law_take
  m__law_take : mg "_law_take" = some (.ref a__law_take)
  b__law_take : Binds K d__law_take ["bag", "many"] []
  a__law_some : Addr
  d__law_some : FuncData
  f__law_some : Fun K "_law_some" "_law_some" s__law_some a__law_some d__law_some
  m__law_some : mg "_law_some" = some (.ref a__law_some)
  b__law_some : Binds K d__law_some ["bag", "things"] []
  a__law_book : Addr
  d__law_book : FuncData
  f__law_book : Fun K "_law_book" "_law_book" s__law_book a__law_book d__law_book
  m__law_book : mg "_law_book" = some (.ref a__law_book)
  b__law_book : Binds K d__law_book ["bag"] []
  a__law_odd : Addr
  d__law_odd : FuncData
  f__law_odd : Fun K "_law_odd" "_law_odd" s__law_odd a__law_odd d__law_odd
  m__law_odd : mg "_law_odd" = some (.ref a__law_odd)
  b__law_odd : Binds K d__law_odd ["bag"] []
  a__law_is_int : Addr
  d__law_is_int : FuncData
  f__law_is_int : Fun K "_law_is_int" "_law_is_int" s__law_is_int a__law_is_int d__law_is_int
  m__law_is_int : mg "_law_is_int" = some (.ref a__law_is_int)
  b__law_is_int : Binds K d__law_is_int ["thing"] []
  a__law_mixed : Addr
  d__law_mixed : FuncData
  f__law_mixed : Fun K "_law_mixed" "_law_mixed" s__law_mixed a__law_mixed d__law_mixed
  m__law_mixed : mg "_law_mixed" = some (.ref a__law_mixed)
  b__law_mixed : Binds K d__law_mixed ["bag", "things"] []
  a__law_bent : Addr
  d__law_bent : FuncData
  f__law_bent : Fun K "_law_bent" "_law_bent" s__law_bent a__law_bent d__law_bent
  m__law_bent : mg "_law_bent" = some (.ref a__law_bent)
  b__law_bent : Binds K d__law_bent ["bag", "thing", "deep"] []
  a__law_alike : Addr
  d__law_alike : FuncData
  f__law_alike : Fun K "_law_alike" "_law_alike" s__law_alike a__law_alike d__law_alike
  m__law_alike : mg "_law_alike" = some (.ref a__law_alike)
  b__law_alike : Binds K d__law_alike ["found", "due"] []
  a_is_row_of : Addr
  d_is_row_of : FuncData
  f_is_row_of : Fun K "is_row_of" "is_row_of" s_is_row_of a_is_row_of d_is_row_of
  m_is_row_of : mg "is_row_of" = some (.ref a_is_row_of)
  b_is_row_of : Binds K d_is_row_of ["thing", "many"] []
  a_is_one_of : Addr
  d_is_one_of : FuncData
  f_is_one_of : Fun K "is_one_of" "is_one_of" s_is_one_of a_is_one_of d_is_one_of
  m_is_one_of : mg "is_one_of" = some (.ref a_is_one_of)
  b_is_one_of : Binds K d_is_one_of ["thing", "words"] []
  a_is_integer : Addr
  d_is_integer : FuncData
  f_is_integer : Fun K "is_integer" "is_integer" s_is_integer a_is_integer d_is_integer
  m_is_integer : mg "is_integer" = some (.ref a_is_integer)
  b_is_integer : Binds K d_is_integer ["thing"] []
  a_is_book : Addr
  d_is_book : FuncData
  f_is_book : Fun K "is_book" "is_book" s_is_book a_is_book d_is_book
  m_is_book : mg "is_book" = some (.ref a_is_book)
  b_is_book : Binds K d_is_book ["thing"] []
  a_is_safe : Addr
  d_is_safe : FuncData
  f_is_safe : Fun K "is_safe" "is_safe" s_is_safe a_is_safe d_is_safe
  m_is_safe : mg "is_safe" = some (.ref a_is_safe)
  b_is_safe : Binds K d_is_safe ["book"] []
  a__law_is_safe : Addr
  d__law_is_safe : FuncData
  f__law_is_safe : Fun K "_law_is_safe" "_law_is_safe" s__law_is_safe a__law_is_safe d__law_is_safe
  m__law_is_safe : mg "_law_is_safe" = some (.ref a__law_is_safe)
  b__law_is_safe : Binds K d__law_is_safe ["book"] []
  a__law_is_book : Addr
  d__law_is_book : FuncData
  f__law_is_book : Fun K "_law_is_book" "_law_is_book" s__law_is_book a__law_is_book d__law_is_book
  m__law_is_book : mg "_law_is_book" = some (.ref a__law_is_book)
  b__law_is_book : Binds K d__law_is_book ["thing"] []
  a_law : Addr
  d_law : FuncData
  f_law : Fun K "law" "law" s_law a_law d_law
  m_law : mg "law" = some (.ref a_law)
  b_law : Binds K d_law ["script"] []
  z_abs : mg "abs" = none
  z_int : mg "int" = none
  z_len : mg "len" = none
  z_range : mg "range" = none
  z_tuple : mg "tuple" = none
  z_isinstance : mg "isinstance" = none
  z_bool : mg "bool" = none
  z_str : mg "str" = none
  z_dict : mg "dict" = none
  z_list : mg "list" = none
  z_repr : mg "repr" = none
  z_all : mg "all" = none
  z_zip : mg "zip" = none
  u_WAYS : Value
  v_WAYS : V
  m_WAYS : mg "WAYS" = some u_WAYS
  r_WAYS : RelV v_WAYS u_WAYS
  i_WAYS : ∀ F : Hp, Is K F v_WAYS c_WAYS
  u_STRIKES : Value
  v_STRIKES : V
  m_STRIKES : mg "STRIKES" = some u_STRIKES
  r_STRIKES : RelV v_STRIKES u_STRIKES
  i_STRIKES : ∀ F : Hp, Is K F v_STRIKES c_STRIKES
  u_FINDS : Value
  v_FINDS : V
  m_FINDS : mg "FINDS" = some u_FINDS
  r_FINDS : RelV v_FINDS u_FINDS
  i_FINDS : ∀ F : Hp, Is K F v_FINDS c_FINDS
  u_DRAINS : Value
  v_DRAINS : V
  m_DRAINS : mg "DRAINS" = some u_DRAINS
  r_DRAINS : RelV v_DRAINS u_DRAINS
  i_DRAINS : ∀ F : Hp, Is K F v_DRAINS c_DRAINS
  u_HOLDS : Value
  v_HOLDS : V
  m_HOLDS : mg "HOLDS" = some u_HOLDS
  r_HOLDS : RelV v_HOLDS u_HOLDS
  i_HOLDS : ∀ F : Hp, Is K F v_HOLDS c_HOLDS
section
variable {P : Program} {w : World} {K : PySem.W.Frag} {mg : Str → Option Value} {base : Heap}
theorem ok__law_bag (T : Tops K mg) : FnG P w K mg base CX0 1 T.a__law_bag T.d__law_bag ["script"] (spBag K) :=
  bag_d (k := 0) (N := N__law_bag) (by decide) T.f__law_bag sc__law_bag bag5_read fun cdv A outer s H E =>
    pss_one (ps_ret (pe_lst (pa_cons pe_int (pa_cons pe_int (pa_cons pe_int (pa_cons (pe_lc (own := [("cell", 1)]) (g := gName 1) (tt := tYes) rfl sc__law_bag.nd (pi_list (pe_slice sl_list (pv 0) po_none (po_some pe_int)))
      (blkOk_by (own := [("cell", 1)]) (N := N__law_bag) (sc := defScope s__law_bag) (by decide +kernel)) (fun _ _ _ _ _ => pg_name (i := 1) sc__law_bag.nd rfl (Or.inl rfl)) (fun _ _ _ _ _ => pts_nil) (fun _ _ _ _ _ => pe_callB call_abs rfl T.z_abs (by first | rfl | decide +kernel) (pa_cons (pv 1) pa_nil))) (pa_cons (pe_lst pa_nil) pa_nil)))))))
theorem ok__law_take (T : Tops K mg) : FnG P w K mg base CX0 1 T.a__law_take T.d__law_take ["bag", "many"] (spD K fn__law_take) :=
  def_g (fn := fn__law_take) (k := 0) T.f__law_take sc__law_take (fun ss Q E h => h.1) fun cdv A outer s H E hr => ⟨g__law_take,
    ds_cons (difs (pt_cmpD (op_eqE hr.r.units) d_eq (dO (pd_bag 0)) (dO (pd_int))) (ds_cons (dset 4 sc__law_take.nd (pd_ix ix_seq d_ix (dO (pd_op op_addD d_add (dO (pd_slice sl_any d_sl (dO (pd_bag3 0)) (po_someD (pd_bag 0)) (po_noneD))) (dO (dF (pf_lst (ps_cons' (pd_int) (ps_nil'))))))) (dO (pd_int))))
      (ds_cons (daugbag' 0 2 (by decide) (pe_var (i := 0) rfl (by first | exact Or.inl rfl | exact Or.inr (Or.inl rfl)) (by decide) (by decide)) (pd_int))
      (ds_cons (difs (pt_cmpD op_geD d_ord (dp 4) (dO (pd_op op_pow d_int (dO (pd_int)) (dO (pd_int))))) (ds_one (dsetbag' 0 0 (by decide) (pe_var (i := 0) rfl (by first | exact Or.inl rfl | exact Or.inr (Or.inl rfl)) (by decide) (by decide)) (dv 4))) (ds_nil))
      (ds_cons (dset 5 sc__law_take.nd (pd_op op_addD d_add (dO (pd_op op_addD d_add (dO (pd_op op_mulA d_mulA (dO (pd_bag 0)) (dO (pd_int)))) (dO (pd_op op_mod d_int (dO (pd_callTy call_int1 d_intC T.z_int (pb_cons (dp 4) (pb_nil)))) (dO (pd_int)))))) (dO (pd_op op_mulA d_mulA (dO (pd_int)) (dO (pd_bag 0))))))
      (ds_one (dsetbag' 0 1 (by decide) (pe_var (i := 0) rfl (by first | exact Or.inl rfl | exact Or.inr (Or.inl rfl)) (by decide) (by decide)) (pd_op op_mod d_int (dO (pd_callTy call_int1 d_intC T.z_int (pb_cons (dp 5) (pb_nil)))) (dO (pd_int))))))))) (ds_nil))
      (ds_cons (difs (pt_cmpD op_gtD d_ord (dO (pd_bag 0)) (dO (pd_int))) (ds_cons (dset 6 sc__law_take.nd (pd_op op_mod d_int (dO (pd_callTy call_int1 d_intC T.z_int (pb_cons (dO (pd_bag 0)) (pb_nil)))) (dp 1)))
      (ds_cons (dsetbag' 0 0 (by decide) (pe_var (i := 0) rfl (by first | exact Or.inl rfl | exact Or.inr (Or.inl rfl)) (by decide) (by decide)) (pd_op op_fdiv d_int (dO (pd_callTy call_int1 d_intC T.z_int (pb_cons (dO (pd_bag 0)) (pb_nil)))) (dp 1)))
      (ds_one (dret (dv 6))))) (ds_nil))
      (ds_cons (dset 2 sc__law_take.nd (pd_op op_mod d_int (dO (pd_callTy call_int1 d_intC T.z_int (pb_cons (dO (pd_op op_mulA d_mulA (dO (pd_op op_addD d_add (dO (pd_bag 0)) (dO (pd_int)))) (dO (pd_int)))) (pb_nil)))) (dO (pd_int))))
      (ds_cons (dset 3 sc__law_take.nd (pd_op op_mod d_int (dO (pd_callTy call_int1 d_intC T.z_int (pb_cons (dO (pd_op op_mulA d_mulA (dO (pd_op op_mod d_int (dO (pd_callTy call_int1 d_intC T.z_int (pb_cons (dO (pd_op op_mulA d_mulA (dp 2) (dp 2))) (pb_nil)))) (dO (pd_int)))) (dO (pd_int)))) (pb_nil)))) (dO (pd_int))))
      (ds_one (dret (pd_op op_mod d_int (dO (pd_callTy call_int1 d_intC T.z_int (pb_cons (dO (pd_op op_fdiv d_int (dp 3) (dO (pd_int)))) (pb_nil)))) (dp 1))))))), fun ss Q h => h.2⟩
theorem ok__law_some (T : Tops K mg) : FnG P w K mg base CX0 2 T.a__law_some T.d__law_some ["bag", "things"] (spD K fn__law_some) :=
  def_g (fn := fn__law_some) (k := 1) T.f__law_some sc__law_some (fun ss Q E h => h.1) fun cdv A outer s H E hr => ⟨g__law_some,
    ds_one (dret (pd_ix ix_seq d_ix (dp 1) (dO (pd_fn ((ok__law_take T).mono (by first | decide | omega)) hr T.m__law_take T.f__law_take.kp T.b__law_take (qa_bag 0 (qa_cons (pd_callB call_lenA d_len T.z_len (pb_cons (dp 1) (pb_nil))) (qa_nil))))))), fun ss Q h => h.2⟩
theorem ok__law_book (T : Tops K mg) : FnG P w K mg base CX0 3 T.a__law_book T.d__law_book ["bag"] (spD K fn__law_book) :=
  def_g (fn := fn__law_book) (k := 2) T.f__law_book sc__law_book (fun ss Q E h => h.1) fun cdv A outer s H E hr => ⟨g__law_book,
    ds_cons (dpar 5 6 sc__law_book.nd (ps_cons' (pd_fn ((ok__law_some T).mono (by first | decide | omega)) hr T.m__law_some T.f__law_some.kp T.b__law_some (qa_bag 0 (qa_cons (dF (pf_lst (ps_cons' (pd_str) (ps_cons' (pd_str) (ps_cons' (pd_str) (ps_nil')))))) (qa_nil)))) (ps_cons' (pd_fn ((ok__law_some T).mono (by first | decide | omega)) hr T.m__law_some T.f__law_some.kp T.b__law_some (qa_bag 0 (qa_cons (dF (pf_lst (ps_cons' (pd_int) (ps_cons' (pd_int) (ps_cons' (pd_int) (ps_cons' (pd_int) (ps_nil'))))))) (qa_nil)))) (ps_nil'))))
      (ds_cons (dset 1 sc__law_book.nd (pd_fn ((ok__law_some T).mono (by first | decide | omega)) hr T.m__law_some T.f__law_some.kp T.b__law_some (qa_bag 0 (qa_cons (dF (pf_lst (ps_cons' (pd_str) (ps_cons' (pd_str) (ps_nil'))))) (qa_nil)))))
      (ds_cons (dpar 7 8 sc__law_book.nd (ps_cons' (pd_fn ((ok__law_some T).mono (by first | decide | omega)) hr T.m__law_some T.f__law_some.kp T.b__law_some (qa_bag 0 (qa_cons (dF (pf_lst (ps_cons' (pd_str) (ps_cons' (pd_str) (ps_nil'))))) (qa_nil)))) (ps_cons' (pd_str) (ps_nil'))))
      (ds_cons (difs (pt_cmpD (op_eqE hr.r.units) d_eq (dp 1) (dO (pd_str))) (ds_one (dasg (pd_fn ((ok__law_some T).mono (by first | decide | omega)) hr T.m__law_some T.f__law_some.kp T.b__law_some (qa_bag 0 (qa_cons (dF (pf_lst (ps_cons' (pd_tup (ps_cons' (pd_str) (ps_cons' (pd_str) (ps_nil')))) (ps_cons' (pd_tup (ps_cons' (pd_str) (ps_cons' (pd_str) (ps_nil')))) (ps_cons' (pd_tup (ps_cons' (pd_str) (ps_cons' (pd_str) (ps_nil')))) (ps_cons' (pd_tup (ps_cons' (pd_str) (ps_cons' (pd_str) (ps_nil')))) (ps_cons' (pd_tup (ps_cons' (pd_str) (ps_cons' (pd_str) (ps_nil')))) (ps_nil')))))))) (qa_nil)))) (pg_tupD rfl (pgs_consD (pg_nameD [7, 8] 7 sc__law_book.nd) (pgs_consD (pg_nameD [7, 8] 8 sc__law_book.nd) (pgs_nilD)))))) (ds_nil))
      (ds_cons (dsetL 2 sc__law_book.nd (pf_lst (ps_cons' (dv 5) (ps_cons' (dv 6) (ps_cons' (pd_int) (ps_cons' (dv 6) (ps_cons' (pd_int) (ps_cons' (dv 7) (ps_cons' (dv 8) (ps_cons' (dv 1) (ps_cons' (pd_str) (ps_nil'))))))))))))
      (ds_cons (difs (pt_cmpD (op_eqE hr.r.units) d_eq (dp 5) (dO (pd_str))) (ds_one (dasgE (pd_tup (ps_cons' (pd_fn ((ok__law_take T).mono (by first | decide | omega)) hr T.m__law_take T.f__law_take.kp T.b__law_take (qa_bag 0 (qa_cons (pd_int) (qa_nil)))) (ps_cons' (pd_fn ((ok__law_some T).mono (by first | decide | omega)) hr T.m__law_some T.f__law_some.kp T.b__law_some (qa_bag 0 (qa_cons (dF (pf_lst (ps_cons' (pd_str) (ps_cons' (pd_str) (ps_nil'))))) (qa_nil)))) (ps_nil')))) (pg_tupE rfl (pgs_consE (pg_ixE 2 (pe_var (i := 2) rfl (by first | exact Or.inl rfl | exact Or.inr (Or.inl rfl)) (by decide) (by decide)) (pd_int)) (pgs_consE (pg_ixE 2 (pe_var (i := 2) rfl (by first | exact Or.inl rfl | exact Or.inr (Or.inl rfl)) (by decide) (by decide)) (pd_int)) (pgs_nilE)))))) (ds_nil))
      (ds_cons (dset 3 sc__law_book.nd (pd_op op_addD d_add (dO (pd_op op_addD d_add (dO (dF (pf_lst (ps_cons' (dF (pf_lst (ps_cons' (pd_str) (ps_cons' (pd_str) (ps_nil'))))) (ps_nil'))))) (dO (pd_op op_mulA d_mulA (dO (dF (pf_lst (ps_cons' (dF (pf_lst (ps_cons' (pd_int) (ps_cons' (pd_int) (ps_cons' (pd_int) (ps_cons' (pd_int) (ps_nil'))))))) (ps_nil'))))) (dO (pd_int)))))) (dO (dF (pf_lst (ps_cons' (dF (pf_lst (ps_cons' (pd_str) (ps_cons' (pd_str) (ps_cons' (pd_str) (ps_nil')))))) (ps_cons' (dF (pf_lst (ps_cons' (pd_str) (ps_cons' (pd_str) (ps_nil'))))) (ps_cons' (dF (pf_lst (ps_cons' (pd_str) (ps_cons' (pd_str) (ps_nil'))))) (ps_cons' (dF (pf_lst (ps_cons' (pd_str) (ps_cons' (pd_str) (ps_nil'))))) (ps_nil'))))))))))
      (ds_cons (dfor PassesOwn.never rfl (pi_range1D T.z_range (pb_cons (dO (pd_fn ((ok__law_some T).mono (by first | decide | omega)) hr T.m__law_some T.f__law_some.kp T.b__law_some (qa_bag 0 (qa_cons (dF (pf_lst (ps_cons' (pd_int) (ps_cons' (pd_int) (ps_cons' (pd_int) (ps_cons' (pd_int) (ps_cons' (pd_int) (ps_nil')))))))) (qa_nil))))) (pb_nil))) (pg_nameD [4] 4 sc__law_book.nd) (ds_cons (dset 9 sc__law_book.nd (pd_fn ((ok__law_take T).mono (by first | decide | omega)) hr T.m__law_take T.f__law_take.kp T.b__law_take (qa_bag 0 (qa_cons (pd_int) (qa_nil)))))
      (ds_one (dsetix 2 (pe_var (i := 2) rfl (by first | exact Or.inl rfl | exact Or.inr (Or.inl rfl)) (by decide) (by decide)) (dv 9) (pd_fn ((ok__law_some T).mono (by first | decide | omega)) hr T.m__law_some T.f__law_some.kp T.b__law_some (qa_bag 0 (qa_cons (pd_ix ix_seq d_ix (dp 3) (dp 9)) (qa_nil))))))))
      (ds_one (dret (pd_callTy call_tuple_of d_tuple T.z_tuple (pb_cons (dp 2) (pb_nil)))))))))))), fun ss Q h => h.2⟩
theorem ok__law_odd (T : Tops K mg) : FnG P w K mg base CX0 3 T.a__law_odd T.d__law_odd ["bag"] (spD K fn__law_odd) :=
  def_g (fn := fn__law_odd) (k := 2) T.f__law_odd sc__law_odd (fun ss Q E h => h.1) fun cdv A outer s H E hr => ⟨g__law_odd,
    ds_cons (dset 1 sc__law_odd.nd (dF (pf_lst (ps_cons' (pd_non) (ps_cons' (pd_bl) (ps_cons' (pd_bl) (ps_cons' (pd_int) (ps_cons' (pd_int) (ps_cons' (pd_un un_neg d_neg (dO (pd_int))) (ps_cons' (pd_op op_pow d_int (dO (pd_int)) (dO (pd_int))) (ps_cons' (pd_str) (ps_cons' (pd_str) (ps_cons' (pd_str) (ps_cons' (pd_str) (ps_cons' (pd_str) (ps_cons' (pd_tup (ps_nil')) (ps_cons' (dF (pf_lst (ps_nil'))) (ps_cons' (dG (pg_empty)) (ps_cons' (pd_tup (ps_cons' (pd_str) (ps_nil'))) (ps_cons' (pd_tup (ps_cons' (pd_str) (ps_nil'))) (ps_nil')))))))))))))))))))))
      (ds_one (dret (pd_fn ((ok__law_some T).mono (by first | decide | omega)) hr T.m__law_some T.f__law_some.kp T.b__law_some (qa_bag 0 (qa_cons (pd_op op_addD d_add (dp 1) (dO (dF (pf_lst (ps_cons' (pd_tup (ps_cons' (pd_str) (ps_cons' (pd_str) (ps_cons' (pd_str) (ps_nil'))))) (ps_cons' (dF (pf_lst (ps_cons' (pd_str) (ps_nil')))) (ps_cons' (dG (pg_disp (fs := [(dC (.str "a"), dC (.int 1))]) (pps_cons (pd_str) (pd_int) (pps_nil)))) (ps_cons' (pd_str) (ps_cons' (pd_tup (ps_cons' (pd_tup (ps_cons' (pd_str) (ps_cons' (pd_str) (ps_nil')))) (ps_nil'))) (ps_cons' (pd_tup (ps_cons' (pd_str) (ps_cons' (pd_str) (ps_cons' (pd_tup (ps_cons' (pd_str) (ps_nil'))) (ps_nil'))))) (ps_cons' (pd_str) (ps_nil')))))))))))) (qa_nil)))))), fun ss Q h => h.2⟩
theorem ok__law_is_int (T : Tops K mg) : FnG P w K mg base CX0 1 T.a__law_is_int T.d__law_is_int ["thing"] (spD K fn__law_is_int) :=
  def_g (fn := fn__law_is_int) (k := 0) T.f__law_is_int sc__law_is_int (fun ss Q E h => h.1) fun cdv A outer s H E hr => ⟨g__law_is_int,
    ds_one (dret (pd_and (pd_isi isi_int T.z_isinstance T.z_int (dp 0)) (pd_one (pd_not (pd_isi isi_bool T.z_isinstance T.z_bool (dp 0)))))), fun ss Q h => h.2⟩
theorem ok__law_mixed (T : Tops K mg) : FnG P w K mg base CX0 2 T.a__law_mixed T.d__law_mixed ["bag", "things"] (spD K fn__law_mixed) :=
  def_g (fn := fn__law_mixed) (k := 1) T.f__law_mixed sc__law_mixed (fun ss Q E h => h.1) fun cdv A outer s H E hr => ⟨g__law_mixed,
    ds_cons (dsetL 2 sc__law_mixed.nd (pf_lst (ps_nil')))
      (ds_cons (dfor PassesOwn.never rfl (pi_seqD (dv 1)) (pg_nameD [3] 3 sc__law_mixed.nd) (ds_one (dins' 2 (pe_var (i := 2) rfl (by first | exact Or.inl rfl | exact Or.inr (Or.inl rfl)) (by decide) (by decide)) (pd_fn ((ok__law_take T).mono (by first | decide | omega)) hr T.m__law_take T.f__law_take.kp T.b__law_take (qa_bag 0 (qa_cons (pd_op op_addD d_add (dO (pd_callB call_lenA d_len T.z_len (pb_cons (dp 2) (pb_nil)))) (dO (pd_int))) (qa_nil)))) (dv 3))))
      (dfz 2 (ds_one (dret (dv 2))))), fun ss Q h => h.2⟩
theorem ok__law_bent (T : Tops K mg) : ∀ n : Nat, FnG P w K mg base CX0 (n + 4) T.a__law_bent T.d__law_bent ["bag", "thing", "deep"] (spD K (fn__law_bent n))
  | 0 => ⟨fun vs H Q E ⟨_, _, _, _, _, _, _, _, h, _⟩ => h.elim, fun A outer s H args us vs Q E _ _ _ _ ⟨_, _, _, _, _, _, _, _, h, _⟩ => h.elim⟩
  | n + 1 => (def_g (fn := fn__law_bent (n + 1)) (k := n + 4) T.f__law_bent sc__law_bent (fun ss Q E h => h.1) fun cdv A outer s H E hr => ⟨g__law_bent (fn__law_bent n), (by
    have IH := ok__law_bent T n
    exact ds_cons (difs (PW.pt (pw_orD (pt_cmpD (op_eqE hr.r.units) d_eq (dp 2) (dO (pd_int))) (pw_orD1 (pt_cmpD (op_eqE hr.r.units) d_eq (dO (pd_fn ((ok__law_take T).mono (by first | decide | omega)) hr T.m__law_take T.f__law_take.kp T.b__law_take (qa_bag 0 (qa_cons (pd_int) (qa_nil))))) (dO (pd_int)))))) (ds_one (dret (pd_fn ((ok__law_odd T).mono (by first | decide | omega)) hr T.m__law_odd T.f__law_odd.kp T.b__law_odd (qa_bag 0 (qa_nil))))) (ds_nil))
      (ds_cons (difs (pt_valD (pd_fn ((ok__law_is_int T).mono (by first | decide | omega)) hr T.m__law_is_int T.f__law_is_int.kp T.b__law_is_int (qa_cons (dv 1) (qa_nil)))) (ds_one (dret (pd_fn ((ok__law_some T).mono (by first | decide | omega)) hr T.m__law_some T.f__law_some.kp T.b__law_some (qa_bag 0 (qa_cons (dF (pf_lst (ps_cons' (pd_op op_addD d_add (dp 1) (dO (pd_int))) (ps_cons' (pd_op op_sub d_sub (dp 1) (dO (pd_int))) (ps_cons' (pd_int) (ps_cons' (pd_un un_neg d_neg (dp 1)) (ps_cons' (pd_cmp (op_eqE hr.r.units) d_eq (dp 1) (dO (pd_int))) (ps_cons' (pd_non) (ps_cons' (pd_callTy call_str_int d_strI T.z_str (pb_cons (dp 1) (pb_nil))) (ps_nil')))))))))) (qa_nil)))))) (ds_nil))
      (ds_cons (difs (PW.pt (pw_andD (pt_valD (pd_isi isi_dict T.z_isinstance T.z_dict (dp 1))) (pw_andD1 (pt_cmpD (op_neE hr.r.units) d_ne (dp 1) (dO (dG (pg_empty))))))) (dnevers) (ds_nil))
      (ds_cons (difs (pt_valD (pd_isi isi_str T.z_isinstance T.z_str (dp 1))) (ds_one (dret (pd_fn ((ok__law_some T).mono (by first | decide | omega)) hr T.m__law_some T.f__law_some.kp T.b__law_some (qa_bag 0 (qa_cons (dF (pf_lst (ps_cons' (pd_op op_addD d_add (dp 1) (dO (pd_str))) (ps_cons' (pd_slice sl_any d_sl (dp 1) (po_someD (pd_int)) (po_noneD)) (ps_cons' (pd_op op_addD d_add (dp 1) (dO (pd_str))) (ps_cons' (pd_bm0 PySem.F.plainAttrs_str PySem.F.slot_str_upper PySem.F.type_str_upper mt_upper d_upper (dp 1)) (ps_cons' (pd_str) (ps_cons' (pd_op op_mulA d_mulA (dp 1) (dO (pd_int))) (ps_cons' (pd_str) (ps_cons' (pd_op op_addD d_add (dp 1) (dO (pd_str))) (ps_cons' (pd_str) (ps_nil')))))))))))) (qa_nil)))))) (ds_nil))
      (ds_cons (difs (PW.pt (pw_orD (pt_notD (pt_valD (pd_isi isi_tup T.z_isinstance T.z_tuple (dp 1)))) (pw_orD1 (pt_cmpD (op_eqE hr.r.units) d_eq (dp 1) (dO (pd_tup (ps_nil'))))))) (ds_one (dret (pd_fn ((ok__law_odd T).mono (by first | decide | omega)) hr T.m__law_odd T.f__law_odd.kp T.b__law_odd (qa_bag 0 (qa_nil))))) (ds_nil))
      (ds_cons (dpar 5 6 sc__law_bent.nd (ps_cons' (pd_fn ((ok__law_take T).mono (by first | decide | omega)) hr T.m__law_take T.f__law_take.kp T.b__law_take (qa_bag 0 (qa_cons (pd_int) (qa_nil)))) (ps_cons' (pd_fn ((ok__law_take T).mono (by first | decide | omega)) hr T.m__law_take T.f__law_take.kp T.b__law_take (qa_bag 0 (qa_cons (pd_callB call_lenA d_len T.z_len (pb_cons (dp 1) (pb_nil))) (qa_nil)))) (ps_nil'))))
      (ds_cons (difs (pt_cmpD (op_eqE hr.r.units) d_eq (dp 5) (dO (pd_int))) (ds_cons (dset 7 sc__law_bent.nd (dF (pf_lst (ps_cons' (dF (pf_callTy call_list_of d_list T.z_list (pb_cons (dp 1) (pb_nil)))) (ps_cons' (pd_rev (dp 1)) (ps_cons' (pd_op op_addD d_add (dO (pd_slice sl_any d_sl (dp 1) (po_noneD) (po_someD (dv 6)))) (dO (pd_slice sl_any d_sl (dp 1) (po_someD (pd_op op_addD d_add (dp 6) (dO (pd_int)))) (po_noneD)))) (ps_cons' (pd_op op_addD d_add (dO (pd_slice sl_any d_sl (dp 1) (po_noneD) (po_someD (pd_op op_addD d_add (dp 6) (dO (pd_int)))))) (dO (pd_slice sl_any d_sl (dp 1) (po_someD (dv 6)) (po_noneD)))) (ps_nil'))))))))
      (ds_one (dret (pd_fn ((ok__law_some T).mono (by first | decide | omega)) hr T.m__law_some T.f__law_some.kp T.b__law_some (qa_bag 0 (qa_cons (pd_op op_addD d_add (dp 7) (dO (dF (pf_lst (ps_cons' (pd_op op_addD d_add (dp 1) (dO (pd_tup (ps_cons' (pd_non) (ps_nil'))))) (ps_nil')))))) (qa_nil))))))) (ds_nil))
      (ds_one (dret (pd_op op_addD d_add (dO (pd_op op_addD d_add (dO (pd_slice sl_any d_sl (dp 1) (po_noneD) (po_someD (dv 6)))) (dO (pd_tup (ps_cons' (pd_fn IH hr T.m__law_bent T.f__law_bent.kp T.b__law_bent (qa_bag 0 (qa_cons (pd_ix ix_seq d_ix (dp 1) (dp 6)) (qa_cons (pd_op op_sub d_sub (dp 2) (dO (pd_int))) (qa_nil))))) (ps_nil')))))) (dO (pd_slice sl_any d_sl (dp 1) (po_someD (pd_op op_addD d_add (dp 6) (dO (pd_int)))) (po_noneD))))))))))))), fun ss Q h => h.2⟩).mono (by omega)
theorem ok__law_alike (T : Tops K mg) : FnG P w K mg base CX0 1 T.a__law_alike T.d__law_alike ["found", "due"] (spD K fn__law_alike) :=
  def_g (fn := fn__law_alike) (k := 0) T.f__law_alike sc__law_alike (fun ss Q E h => h.1) fun cdv A outer s H E hr => ⟨g__law_alike,
    ds_one (dret (pd_and (pd_cmp (op_eqE hr.r.units) d_eq (dp 0) (dp 1)) (pd_one (pd_cmp (op_eqE hr.r.units) d_eq (dO (pd_callB (call_repr hr) d_repr T.z_repr (pb_cons (dp 0) (pb_nil)))) (dO (pd_callB (call_repr hr) d_repr T.z_repr (pb_cons (dp 1) (pb_nil)))))))), fun ss Q h => h.2⟩
theorem ok_is_row_of (T : Tops K mg) : FnG P w K mg base CX0 1 T.a_is_row_of T.d_is_row_of ["thing", "many"] (spD K fn_is_row_of) :=
  def_g (fn := fn_is_row_of) (k := 0) T.f_is_row_of sc_is_row_of (fun ss Q E h => h.1) fun cdv A outer s H E hr => ⟨g_is_row_of,
    ds_one (dret (pd_and (pd_isi isi_tup T.z_isinstance T.z_tuple (dp 0)) (pd_one (pd_cmp (op_eqE hr.r.units) d_eq (dO (pd_callB call_lenA d_len T.z_len (pb_cons (dp 0) (pb_nil)))) (dp 1))))), fun ss Q h => h.2⟩
theorem ok_is_one_of (T : Tops K mg) : FnG P w K mg base CX0 1 T.a_is_one_of T.d_is_one_of ["thing", "words"] (spD K fn_is_one_of) :=
  def_g (fn := fn_is_one_of) (k := 0) T.f_is_one_of sc_is_one_of (fun ss Q E h => h.1) fun cdv A outer s H E hr => ⟨g_is_one_of,
    ds_one (dret (pd_and (pd_isi isi_str T.z_isinstance T.z_str (dp 0)) (pd_one (pd_cmp (op_inD (hu_of hr.r)) d_in' (dp 0) (dp 1))))), fun ss Q h => h.2⟩
theorem ok_is_integer (T : Tops K mg) : FnG P w K mg base CX0 1 T.a_is_integer T.d_is_integer ["thing"] (spD K fn_is_integer) :=
  def_g (fn := fn_is_integer) (k := 0) T.f_is_integer sc_is_integer (fun ss Q E h => h.1) fun cdv A outer s H E hr => ⟨g_is_integer,
    ds_one (dret (pd_and (pd_isi isi_int T.z_isinstance T.z_int (dp 0)) (pd_one (pd_not (pd_isi isi_bool T.z_isinstance T.z_bool (dp 0)))))), fun ss Q h => h.2⟩
theorem ok_is_book (T : Tops K mg) : FnG P w K mg base CX0 2 T.a_is_book T.d_is_book ["thing"] (spD K fn_is_book) :=
  def_g (fn := fn_is_book) (k := 1) T.f_is_book sc_is_book (fun ss Q E h => h.1) fun cdv A outer s H E hr => ⟨g_is_book,
    ds_cons (difs (PW.pt (pw_orD (pt_notD (pt_valD (pd_fn ((ok_is_row_of T).mono (by first | decide | omega)) hr T.m_is_row_of T.f_is_row_of.kp T.b_is_row_of (qa_cons (dv 0) (qa_cons (pd_int) (qa_nil)))))) (pw_orD1 (pt_notD (pt_valD (pd_callB (cr_all rfl) d_all T.z_all (pb_cons (dO (dF (pf_lc (own := [("one", 2)]) rfl sc_is_book.nd (blkOk_by (own := [("one", 2)]) (N := N_is_book) (sc := defScope s_is_book) (by decide +kernel)) (pi_seqD (pd_slice sl_any d_sl (dp 0) (po_someD (pd_int)) (po_someD (pd_int)))) (fun _ _ _ _ _ => pg_nameD [2] 2 sc_is_book.nd) (fun _ _ _ _ _ => pts_nilD) (fun _ _ _ _ _ => pd_and (pd_fn ((ok_is_integer T).mono (by first | decide | omega)) hr T.m_is_integer T.f_is_integer.kp T.b_is_integer (qa_cons (dv 2) (qa_nil))) (pd_one (pd_cmp op_geD d_ord (dp 2) (dO (pd_int)))))))) (pb_nil)))))))) (ds_one (dret (pd_bl))) (ds_nil))
      (ds_cons (dset 1 sc_is_book.nd (pd_tup (ps_cons' (pd_glob rfl T.m_WAYS T.r_WAYS T.i_WAYS) (ps_cons' (pd_glob rfl T.m_STRIKES T.r_STRIKES T.i_STRIKES) (ps_cons' (pd_glob rfl T.m_FINDS T.r_FINDS T.i_FINDS) (ps_cons' (pd_glob rfl T.m_DRAINS T.r_DRAINS T.i_DRAINS) (ps_cons' (pd_glob rfl T.m_HOLDS T.r_HOLDS T.i_HOLDS) (ps_nil'))))))))
      (ds_one (dret (pd_callB (cr_all rfl) d_all T.z_all (pb_cons (dO (dF (pf_lc (own := [("one", 2), ("menu", 3)]) rfl sc_is_book.nd (blkOk_by (own := [("one", 2), ("menu", 3)]) (N := N_is_book) (sc := defScope s_is_book) (by decide +kernel)) (pi_zipD T.z_zip (ps_cons' (pd_op op_addD d_add (dO (pd_slice sl_any d_sl (dp 0) (po_noneD) (po_someD (pd_int)))) (dO (pd_slice sl_any d_sl (dp 0) (po_someD (pd_int)) (po_noneD)))) (ps_cons' (dv 1) (ps_nil')))) (fun _ _ _ _ _ => pg_tupD rfl (pgs_consD (pg_nameD [2, 3] 2 sc_is_book.nd) (pgs_consD (pg_nameD [2, 3] 3 sc_is_book.nd) (pgs_nilD)))) (fun _ _ _ _ _ => pts_nilD) (fun _ _ _ _ _ => pd_fn ((ok_is_one_of T).mono (by first | decide | omega)) hr T.m_is_one_of T.f_is_one_of.kp T.b_is_one_of (qa_cons (dv 2) (qa_cons (dv 3) (qa_nil))))))) (pb_nil)))))), fun ss Q h => h.2⟩
theorem ok_is_safe (T : Tops K mg) : FnG P w K mg base CX0 1 T.a_is_safe T.d_is_safe ["book"] (spD K fn_is_safe) :=
  def_g (fn := fn_is_safe) (k := 0) T.f_is_safe sc_is_safe (fun ss Q E h => h.1) fun cdv A outer s H E hr => ⟨g_is_safe,
    ds_cons (dasg (dv 0) (pg_tupD rfl (pgs_consD (pg_nameD [1, 2, 3, 4, 5, 6, 7, 8, 9] 1 sc_is_safe.nd) (pgs_consD (pg_nameD [1, 2, 3, 4, 5, 6, 7, 8, 9] 2 sc_is_safe.nd) (pgs_consD (pg_nameD [1, 2, 3, 4, 5, 6, 7, 8, 9] 3 sc_is_safe.nd) (pgs_consD (pg_nameD [1, 2, 3, 4, 5, 6, 7, 8, 9] 4 sc_is_safe.nd) (pgs_consD (pg_nameD [1, 2, 3, 4, 5, 6, 7, 8, 9] 5 sc_is_safe.nd) (pgs_consD (pg_nameD [1, 2, 3, 4, 5, 6, 7, 8, 9] 6 sc_is_safe.nd) (pgs_consD (pg_nameD [1, 2, 3, 4, 5, 6, 7, 8, 9] 7 sc_is_safe.nd) (pgs_consD (pg_nameD [1, 2, 3, 4, 5, 6, 7, 8, 9] 8 sc_is_safe.nd) (pgs_consD (pg_nameD [1, 2, 3, 4, 5, 6, 7, 8, 9] 9 sc_is_safe.nd) (pgs_nilD))))))))))))
      (ds_cons (difs (PW.pt (pw_orD (pt_cmpD (op_neE hr.r.units) d_ne (dp 5) (dO (pd_int))) (pw_orD (pt_cmpD (op_neE hr.r.units) d_ne (dp 2) (dp 4)) (pw_orD1 (pt_cmpD op_ltD d_ord (dp 2) (dO (pd_int))))))) (ds_one (dret (pd_bl))) (ds_nil))
      (ds_cons (difs (pt_cmpD (op_eqE hr.r.units) d_eq (dp 1) (dO (pd_str))) (ds_one (dret (pd_bl))) (ds_nil))
      (ds_cons (difs (PW.pt (pw_orD (pt_cmpD (op_neE hr.r.units) d_ne (dp 3) (dO (pd_int))) (pw_orD1 (pt_cmpD (op_neE hr.r.units) d_ne (dp 9) (dO (pd_str)))))) (ds_one (dret (pd_bl))) (ds_nil))
      (ds_cons (difs (pt_cmpD (op_eqE hr.r.units) d_eq (dp 8) (dO (pd_str))) (ds_one (dret (pd_or (pd_cmp (op_neE hr.r.units) d_ne (dp 6) (dO (pd_str))) (pd_one (pd_cmp (op_neE hr.r.units) d_ne (dp 7) (dO (pd_str))))))) (ds_nil))
      (ds_one (dret (pd_and (pd_cmp (op_eqE hr.r.units) d_eq (dp 7) (dO (pd_str))) (pd_one (pd_cmp (op_neE hr.r.units) d_ne (dp 6) (dO (pd_str))))))))))), fun ss Q h => h.2⟩
theorem ok__law_is_safe (T : Tops K mg) : FnG P w K mg base CX0 1 T.a__law_is_safe T.d__law_is_safe ["book"] (spD K fn__law_is_safe) :=
  def_g (fn := fn__law_is_safe) (k := 0) T.f__law_is_safe sc__law_is_safe (fun ss Q E h => h.1) fun cdv A outer s H E hr => ⟨g__law_is_safe,
    ds_cons (dasg (dv 0) (pg_tupD rfl (pgs_consD (pg_nameD [1, 2, 3, 4, 5, 6, 7, 8, 9] 1 sc__law_is_safe.nd) (pgs_consD (pg_nameD [1, 2, 3, 4, 5, 6, 7, 8, 9] 2 sc__law_is_safe.nd) (pgs_consD (pg_nameD [1, 2, 3, 4, 5, 6, 7, 8, 9] 3 sc__law_is_safe.nd) (pgs_consD (pg_nameD [1, 2, 3, 4, 5, 6, 7, 8, 9] 4 sc__law_is_safe.nd) (pgs_consD (pg_nameD [1, 2, 3, 4, 5, 6, 7, 8, 9] 5 sc__law_is_safe.nd) (pgs_consD (pg_nameD [1, 2, 3, 4, 5, 6, 7, 8, 9] 6 sc__law_is_safe.nd) (pgs_consD (pg_nameD [1, 2, 3, 4, 5, 6, 7, 8, 9] 7 sc__law_is_safe.nd) (pgs_consD (pg_nameD [1, 2, 3, 4, 5, 6, 7, 8, 9] 8 sc__law_is_safe.nd) (pgs_consD (pg_nameD [1, 2, 3, 4, 5, 6, 7, 8, 9] 9 sc__law_is_safe.nd) (pgs_nilD))))))))))))
      (ds_cons (difs (PW.pt (pw_orD (pt_cmpD (op_neE hr.r.units) d_ne (dp 5) (dO (pd_int))) (pw_orD (pt_cmpD (op_neE hr.r.units) d_ne (dp 2) (dp 4)) (pw_orD1 (pt_cmpD op_ltD d_ord (dp 2) (dO (pd_int))))))) (ds_one (dret (pd_bl))) (ds_nil))
      (ds_cons (difs (pt_cmpD (op_eqE hr.r.units) d_eq (dp 1) (dO (pd_str))) (ds_one (dret (pd_bl))) (ds_nil))
      (ds_cons (difs (PW.pt (pw_orD (pt_cmpD (op_neE hr.r.units) d_ne (dp 3) (dO (pd_int))) (pw_orD1 (pt_cmpD (op_neE hr.r.units) d_ne (dp 9) (dO (pd_str)))))) (ds_one (dret (pd_bl))) (ds_nil))
      (ds_one (dret (pd_if (pt_cmpD (op_eqE hr.r.units) d_eq (dp 8) (dO (pd_str))) (pd_not (pd_and (pd_cmp (op_eqE hr.r.units) d_eq (dp 6) (dO (pd_str))) (pd_one (pd_cmp (op_eqE hr.r.units) d_eq (dp 7) (dO (pd_str)))))) (pd_and (pd_cmp (op_eqE hr.r.units) d_eq (dp 7) (dO (pd_str))) (pd_one (pd_cmp (op_neE hr.r.units) d_ne (dp 6) (dO (pd_str))))))))))), fun ss Q h => h.2⟩
theorem ok__law_is_book (T : Tops K mg) : FnG P w K mg base CX0 2 T.a__law_is_book T.d__law_is_book ["thing"] (spD K fn__law_is_book) :=
  def_g (fn := fn__law_is_book) (k := 1) T.f__law_is_book sc__law_is_book (fun ss Q E h => h.1) fun cdv A outer s H E hr => ⟨g__law_is_book,
    ds_cons (dset 1 sc__law_is_book.nd (dF (pf_lst (ps_cons' (pd_tup (ps_cons' (pd_str) (ps_cons' (pd_str) (ps_nil')))) (ps_cons' (pd_non) (ps_cons' (pd_non) (ps_cons' (pd_non) (ps_cons' (pd_non) (ps_cons' (pd_tup (ps_cons' (pd_str) (ps_cons' (pd_str) (ps_cons' (pd_str) (ps_nil'))))) (ps_cons' (pd_tup (ps_cons' (pd_str) (ps_cons' (pd_str) (ps_nil')))) (ps_cons' (pd_tup (ps_cons' (pd_str) (ps_cons' (pd_str) (ps_nil')))) (ps_cons' (pd_tup (ps_cons' (pd_str) (ps_cons' (pd_str) (ps_nil')))) (ps_nil')))))))))))))
      (ds_cons (difs (PW.pt (pw_orD (pt_notD (pt_valD (pd_isi isi_tup T.z_isinstance T.z_tuple (dp 0)))) (pw_orD1 (pt_cmpD (op_neE hr.r.units) d_ne (dO (pd_callB call_lenA d_len T.z_len (pb_cons (dp 0) (pb_nil)))) (dO (pd_int)))))) (ds_one (dret (pd_bl))) (ds_nil))
      (ds_cons (dfor PassesOwn.never rfl (pi_zipTLD T.z_zip (ps_cons' (dv 0) (ps_cons' (dv 1) (ps_nil')))) (pg_tupD rfl (pgs_consD (pg_nameD [2, 3] 2 sc__law_is_book.nd) (pgs_consD (pg_nameD [2, 3] 3 sc__law_is_book.nd) (pgs_nilD)))) (ds_cons (difs (PW.pt (pw_andD (pt_cmpD op_isN d_isN (dp 3) (dO (pd_non))) (pw_andD1 (PW.pt (pw_orD (pt_notD (pt_valD (pd_fn ((ok__law_is_int T).mono (by first | decide | omega)) hr T.m__law_is_int T.f__law_is_int.kp T.b__law_is_int (qa_cons (dv 2) (qa_nil))))) (pw_orD1 (pt_cmpD op_ltD d_ord (dp 2) (dO (pd_int))))))))) (ds_one (dret (pd_bl))) (ds_nil))
      (ds_one (difs (PW.pt (pw_andD (pt_cmpD op_notN d_notN (dp 3) (dO (pd_non))) (pw_andD1 (PW.pt (pw_orD (pt_notD (pt_valD (pd_isi isi_str T.z_isinstance T.z_str (dp 2)))) (pw_orD1 (pt_cmpD (op_notinD (hu_of hr.r)) d_in' (dp 2) (dp 3)))))))) (ds_one (dret (pd_bl))) (ds_nil)))))
      (ds_one (dret (pd_bl))))), fun ss Q h => h.2⟩
theorem ok_law (T : Tops K mg) (hlaw : g_law (ends0 (fun d => d = .bool true) fun _ => False) (.undef :: .bag :: List.replicate 8 .undef)) : FnG P w K mg base CX0 11 T.a_law T.d_law ["script"] (spLaw K) :=
  law_d (k := 10) (N := N_law) (by decide) T.f_law sc_law hlaw fun cdv A outer s H E hr => dlaw (ps_set (i := 1) sc_law.nd rfl (Or.inl rfl) (pe_callG ((ok__law_bag T).mono (by decide)) hr rfl T.m__law_bag T.f__law_bag.kp T.b__law_bag (pa_cons (pv 0) pa_nil)))
    (ds_cons (dfor PassesOwn.never rfl (pi_range1D T.z_range (pb_cons (dO (pd_int)) (pb_nil))) (pg_nameD [2] 2 sc_law.nd) (ds_cons (dset 3 sc_law.nd (pd_fn ((ok__law_book T).mono (by first | decide | omega)) hr T.m__law_book T.f__law_book.kp T.b__law_book (qa_bag 1 (qa_nil))))
      (ds_cons (dset 4 sc_law.nd (pd_fn ((ok__law_take T).mono (by first | decide | omega)) hr T.m__law_take T.f__law_take.kp T.b__law_take (qa_bag 1 (qa_cons (pd_int) (qa_nil)))))
      (ds_cons (dset 5 sc_law.nd (pd_op op_addD d_add (dO (pd_op op_addD d_add (dO (pd_slice sl_any d_sl (dp 3) (po_noneD) (po_someD (pd_int)))) (dO (pd_tup (ps_cons' (pd_op op_pow d_int (dO (pd_int)) (dO (pd_int))) (ps_cons' (pd_int) (ps_cons' (pd_op op_pow d_int (dO (pd_int)) (dO (pd_int))) (ps_nil')))))))) (dO (pd_slice sl_any d_sl (dp 3) (po_someD (pd_int)) (po_noneD)))))
      (ds_cons (dfor PassesOwn.never rfl (pi_seqD (pd_tup (ps_cons' (dv 3) (ps_cons' (dv 5) (ps_nil'))))) (pg_nameD [6] 6 sc_law.nd) (ds_one (difs (pt_notD (pt_valD (pd_fn ((ok__law_alike T).mono (by first | decide | omega)) hr T.m__law_alike T.f__law_alike.kp T.b__law_alike (qa_cons (dF (pf_lst (ps_cons' (pd_fn ((ok_is_book T).mono (by first | decide | omega)) hr T.m_is_book T.f_is_book.kp T.b_is_book (qa_cons (dv 6) (qa_nil))) (ps_cons' (pd_fn ((ok_is_safe T).mono (by first | decide | omega)) hr T.m_is_safe T.f_is_safe.kp T.b_is_safe (qa_cons (dv 6) (qa_nil))) (ps_nil'))))) (qa_cons (dF (pf_lst (ps_cons' (pd_bl) (ps_cons' (pd_fn ((ok__law_is_safe T).mono (by first | decide | omega)) hr T.m__law_is_safe T.f__law_is_safe.kp T.b__law_is_safe (qa_cons (dv 6) (qa_nil))) (ps_nil'))))) (qa_nil)))))) (ds_one (dret (pd_bl))) (ds_nil))))
      (ds_cons (dset 7 sc_law.nd (dF (pf_lst (ps_cons' (dF (pf_callTy call_list_of d_list T.z_list (pb_cons (dp 3) (pb_nil)))) (ps_cons' (pd_slice sl_any d_sl (dp 3) (po_noneD) (po_someD (pd_int))) (ps_cons' (pd_op op_addD d_add (dp 3) (dO (pd_tup (ps_cons' (pd_str) (ps_nil'))))) (ps_cons' (pd_rev (dp 3)) (ps_cons' (pd_op op_addD d_add (dO (pd_op op_addD d_add (dO (pd_slice sl_any d_sl (dp 3) (po_noneD) (po_someD (dv 4)))) (dO (pd_tup (ps_cons' (pd_fn ((ok__law_odd T).mono (by first | decide | omega)) hr T.m__law_odd T.f__law_odd.kp T.b__law_odd (qa_bag 1 (qa_nil))) (ps_nil')))))) (dO (pd_slice sl_any d_sl (dp 3) (po_someD (pd_op op_addD d_add (dp 4) (dO (pd_int)))) (po_noneD)))) (ps_cons' (pd_fn ((ok__law_odd T).mono (by first | decide | omega)) hr T.m__law_odd T.f__law_odd.kp T.b__law_odd (qa_bag 1 (qa_nil))) (ps_cons' (pd_fn ((ok__law_bent T 6).mono (by decide)) hr T.m__law_bent T.f__law_bent.kp T.b__law_bent (qa_bag 1 (qa_cons (dv 3) (qa_cons (pd_int) (qa_nil))))) (ps_nil')))))))))))
      (ds_one (dfor PassesOwn.never rfl (pi_seqD (dv 7)) (pg_nameD [8] 8 sc_law.nd) (ds_cons (dset 9 sc_law.nd (pd_callB (call_repr hr) d_repr T.z_repr (pb_cons (dp 8) (pb_nil))))
      (ds_one (difs (PW.pt (pw_orD (pt_notD (pt_valD (pd_fn ((ok__law_alike T).mono (by first | decide | omega)) hr T.m__law_alike T.f__law_alike.kp T.b__law_alike (qa_cons (pd_fn ((ok_is_book T).mono (by first | decide | omega)) hr T.m_is_book T.f_is_book.kp T.b_is_book (qa_cons (dv 8) (qa_nil))) (qa_cons (pd_fn ((ok__law_is_book T).mono (by first | decide | omega)) hr T.m__law_is_book T.f__law_is_book.kp T.b__law_is_book (qa_cons (dv 8) (qa_nil))) (qa_nil)))))) (pw_orD1 (pt_cmpD (op_neE hr.r.units) d_ne (dO (pd_callB (call_repr hr) d_repr T.z_repr (pb_cons (dp 8) (pb_nil)))) (dp 9))))) (ds_one (dret (pd_bl))) (ds_nil))))))))))))
      (ds_one (dret (pd_bl))))
end
theorem all_mk {l : PySem.W.OpenLaw} {w : World} {K : PySem.W.Frag} {h : Heap} {mg : Str → Option Value} {fa : Addr} (hlaw : g_law (ends0 (fun d => d = .bool true) fun _ => False) (.undef :: .bag :: List.replicate 8 .undef)) (X : K.In h) (G : h.Ns mainGlobals mg) (hfa : mg "law" = some (.ref fa))
    {f0 f1 f2 f3 f4 f5 f6 f7 f8 f9 f10 f11 f12 f13 f14 f15 f16 : Addr} {od0 an0 od1 an1 od2 an2 od3 an3 od4 an4 od5 an5 od6 an6 od7 an7 od8 an8 od9 an9 od10 an10 od11 an11 od12 an12 od13 an13 od14 an14 od15 an15 od16 an16 : Option Addr} {sl0 sl1 sl2 sl3 sl4 sl5 sl6 sl7 sl8 sl9 sl10 sl11 sl12 sl13 sl14 sl15 sl16 : Array (Option Value)} {oc0 kV0 dc0 pm0 cd0 ct0 oc1 kV1 dc1 pm1 cd1 ct1 oc2 kV2 dc2 pm2 cd2 ct2 oc3 kV3 dc3 pm3 cd3 ct3 oc4 kV4 dc4 pm4 cd4 ct4 oc5 kV5 dc5 pm5 cd5 ct5 oc6 kV6 dc6 pm6 cd6 ct6 oc7 kV7 dc7 pm7 cd7 ct7 oc8 kV8 dc8 pm8 cd8 ct8 oc9 kV9 dc9 pm9 cd9 ct9 oc10 kV10 dc10 pm10 cd10 ct10 oc11 kV11 dc11 pm11 cd11 ct11 oc12 kV12 dc12 pm12 cd12 ct12 oc13 kV13 dc13 pm13 cd13 ct13 oc14 kV14 dc14 pm14 cd14 ct14 oc15 kV15 dc15 pm15 cd15 ct15 oc16 kV16 dc16 pm16 cd16 ct16 : Value}
    (a0 : PySem.W.nsIn K mainGlobals "_law_bag" = some (some (.ref f0))) (l0 : K.lookup f0 = some ⟨oc0, od0, .func (PySem.W.fnOf "_law_bag" "_law_bag" (defArgs s__law_bag) (defBody s__law_bag) (defScope s__law_bag) .none kV0 dc0 pm0 an0 cd0 ct0), sl0⟩) (c0 : PySem.W.codeIn K cd0 "_law_bag" = true) (k0 : PySem.W.keepIn K (.ref f0) = true)
    (a1 : PySem.W.nsIn K mainGlobals "_law_take" = some (some (.ref f1))) (l1 : K.lookup f1 = some ⟨oc1, od1, .func (PySem.W.fnOf "_law_take" "_law_take" (defArgs s__law_take) (defBody s__law_take) (defScope s__law_take) .none kV1 dc1 pm1 an1 cd1 ct1), sl1⟩) (c1 : PySem.W.codeIn K cd1 "_law_take" = true) (k1 : PySem.W.keepIn K (.ref f1) = true)
    (a2 : PySem.W.nsIn K mainGlobals "_law_some" = some (some (.ref f2))) (l2 : K.lookup f2 = some ⟨oc2, od2, .func (PySem.W.fnOf "_law_some" "_law_some" (defArgs s__law_some) (defBody s__law_some) (defScope s__law_some) .none kV2 dc2 pm2 an2 cd2 ct2), sl2⟩) (c2 : PySem.W.codeIn K cd2 "_law_some" = true) (k2 : PySem.W.keepIn K (.ref f2) = true)
    (a3 : PySem.W.nsIn K mainGlobals "_law_book" = some (some (.ref f3))) (l3 : K.lookup f3 = some ⟨oc3, od3, .func (PySem.W.fnOf "_law_book" "_law_book" (defArgs s__law_book) (defBody s__law_book) (defScope s__law_book) .none kV3 dc3 pm3 an3 cd3 ct3), sl3⟩) (c3 : PySem.W.codeIn K cd3 "_law_book" = true) (k3 : PySem.W.keepIn K (.ref f3) = true)
    (a4 : PySem.W.nsIn K mainGlobals "_law_odd" = some (some (.ref f4))) (l4 : K.lookup f4 = some ⟨oc4, od4, .func (PySem.W.fnOf "_law_odd" "_law_odd" (defArgs s__law_odd) (defBody s__law_odd) (defScope s__law_odd) .none kV4 dc4 pm4 an4 cd4 ct4), sl4⟩) (c4 : PySem.W.codeIn K cd4 "_law_odd" = true) (k4 : PySem.W.keepIn K (.ref f4) = true)
    (a5 : PySem.W.nsIn K mainGlobals "_law_is_int" = some (some (.ref f5))) (l5 : K.lookup f5 = some ⟨oc5, od5, .func (PySem.W.fnOf "_law_is_int" "_law_is_int" (defArgs s__law_is_int) (defBody s__law_is_int) (defScope s__law_is_int) .none kV5 dc5 pm5 an5 cd5 ct5), sl5⟩) (c5 : PySem.W.codeIn K cd5 "_law_is_int" = true) (k5 : PySem.W.keepIn K (.ref f5) = true)
    (a6 : PySem.W.nsIn K mainGlobals "_law_mixed" = some (some (.ref f6))) (l6 : K.lookup f6 = some ⟨oc6, od6, .func (PySem.W.fnOf "_law_mixed" "_law_mixed" (defArgs s__law_mixed) (defBody s__law_mixed) (defScope s__law_mixed) .none kV6 dc6 pm6 an6 cd6 ct6), sl6⟩) (c6 : PySem.W.codeIn K cd6 "_law_mixed" = true) (k6 : PySem.W.keepIn K (.ref f6) = true)
    (a7 : PySem.W.nsIn K mainGlobals "_law_bent" = some (some (.ref f7))) (l7 : K.lookup f7 = some ⟨oc7, od7, .func (PySem.W.fnOf "_law_bent" "_law_bent" (defArgs s__law_bent) (defBody s__law_bent) (defScope s__law_bent) .none kV7 dc7 pm7 an7 cd7 ct7), sl7⟩) (c7 : PySem.W.codeIn K cd7 "_law_bent" = true) (k7 : PySem.W.keepIn K (.ref f7) = true)
    (a8 : PySem.W.nsIn K mainGlobals "_law_alike" = some (some (.ref f8))) (l8 : K.lookup f8 = some ⟨oc8, od8, .func (PySem.W.fnOf "_law_alike" "_law_alike" (defArgs s__law_alike) (defBody s__law_alike) (defScope s__law_alike) .none kV8 dc8 pm8 an8 cd8 ct8), sl8⟩) (c8 : PySem.W.codeIn K cd8 "_law_alike" = true) (k8 : PySem.W.keepIn K (.ref f8) = true)
    (a9 : PySem.W.nsIn K mainGlobals "is_row_of" = some (some (.ref f9))) (l9 : K.lookup f9 = some ⟨oc9, od9, .func (PySem.W.fnOf "is_row_of" "is_row_of" (defArgs s_is_row_of) (defBody s_is_row_of) (defScope s_is_row_of) .none kV9 dc9 pm9 an9 cd9 ct9), sl9⟩) (c9 : PySem.W.codeIn K cd9 "is_row_of" = true) (k9 : PySem.W.keepIn K (.ref f9) = true)
    (a10 : PySem.W.nsIn K mainGlobals "is_one_of" = some (some (.ref f10))) (l10 : K.lookup f10 = some ⟨oc10, od10, .func (PySem.W.fnOf "is_one_of" "is_one_of" (defArgs s_is_one_of) (defBody s_is_one_of) (defScope s_is_one_of) .none kV10 dc10 pm10 an10 cd10 ct10), sl10⟩) (c10 : PySem.W.codeIn K cd10 "is_one_of" = true) (k10 : PySem.W.keepIn K (.ref f10) = true)
    (a11 : PySem.W.nsIn K mainGlobals "is_integer" = some (some (.ref f11))) (l11 : K.lookup f11 = some ⟨oc11, od11, .func (PySem.W.fnOf "is_integer" "is_integer" (defArgs s_is_integer) (defBody s_is_integer) (defScope s_is_integer) .none kV11 dc11 pm11 an11 cd11 ct11), sl11⟩) (c11 : PySem.W.codeIn K cd11 "is_integer" = true) (k11 : PySem.W.keepIn K (.ref f11) = true)
    (a12 : PySem.W.nsIn K mainGlobals "is_book" = some (some (.ref f12))) (l12 : K.lookup f12 = some ⟨oc12, od12, .func (PySem.W.fnOf "is_book" "is_book" (defArgs s_is_book) (defBody s_is_book) (defScope s_is_book) .none kV12 dc12 pm12 an12 cd12 ct12), sl12⟩) (c12 : PySem.W.codeIn K cd12 "is_book" = true) (k12 : PySem.W.keepIn K (.ref f12) = true)
    (a13 : PySem.W.nsIn K mainGlobals "is_safe" = some (some (.ref f13))) (l13 : K.lookup f13 = some ⟨oc13, od13, .func (PySem.W.fnOf "is_safe" "is_safe" (defArgs s_is_safe) (defBody s_is_safe) (defScope s_is_safe) .none kV13 dc13 pm13 an13 cd13 ct13), sl13⟩) (c13 : PySem.W.codeIn K cd13 "is_safe" = true) (k13 : PySem.W.keepIn K (.ref f13) = true)
    (a14 : PySem.W.nsIn K mainGlobals "_law_is_safe" = some (some (.ref f14))) (l14 : K.lookup f14 = some ⟨oc14, od14, .func (PySem.W.fnOf "_law_is_safe" "_law_is_safe" (defArgs s__law_is_safe) (defBody s__law_is_safe) (defScope s__law_is_safe) .none kV14 dc14 pm14 an14 cd14 ct14), sl14⟩) (c14 : PySem.W.codeIn K cd14 "_law_is_safe" = true) (k14 : PySem.W.keepIn K (.ref f14) = true)
    (a15 : PySem.W.nsIn K mainGlobals "_law_is_book" = some (some (.ref f15))) (l15 : K.lookup f15 = some ⟨oc15, od15, .func (PySem.W.fnOf "_law_is_book" "_law_is_book" (defArgs s__law_is_book) (defBody s__law_is_book) (defScope s__law_is_book) .none kV15 dc15 pm15 an15 cd15 ct15), sl15⟩) (c15 : PySem.W.codeIn K cd15 "_law_is_book" = true) (k15 : PySem.W.keepIn K (.ref f15) = true)
    (a16 : PySem.W.nsIn K mainGlobals "law" = some (some (.ref f16))) (l16 : K.lookup f16 = some ⟨oc16, od16, .func (PySem.W.fnOf "law" "law" (defArgs s_law) (defBody s_law) (defScope s_law) .none kV16 dc16 pm16 an16 cd16 ct16), sl16⟩) (c16 : PySem.W.codeIn K cd16 "law" = true) (k16 : PySem.W.keepIn K (.ref f16) = true)
    (z_abs : PySem.W.nsIn K mainGlobals "abs" = some none)
    (z_int : PySem.W.nsIn K mainGlobals "int" = some none)
    (z_len : PySem.W.nsIn K mainGlobals "len" = some none)
    (z_range : PySem.W.nsIn K mainGlobals "range" = some none)
    (z_tuple : PySem.W.nsIn K mainGlobals "tuple" = some none)
    (z_isinstance : PySem.W.nsIn K mainGlobals "isinstance" = some none)
    (z_bool : PySem.W.nsIn K mainGlobals "bool" = some none)
    (z_str : PySem.W.nsIn K mainGlobals "str" = some none)
    (z_dict : PySem.W.nsIn K mainGlobals "dict" = some none)
    (z_list : PySem.W.nsIn K mainGlobals "list" = some none)
    (z_repr : PySem.W.nsIn K mainGlobals "repr" = some none)
    (z_all : PySem.W.nsIn K mainGlobals "all" = some none)
    (z_zip : PySem.W.nsIn K mainGlobals "zip" = some none)
    {g_WAYS : Addr} {o_WAYS : Option Addr} {n_WAYS : Nat} {sl_WAYS : Array (Option Value)} {t_WAYS_0 t_WAYS_1 : Tok} (v_WAYS : PySem.W.nsIn K mainGlobals "WAYS" = some (some (.ref g_WAYS))) (w_WAYS : K.lookup g_WAYS = some ⟨.type "tuple", o_WAYS, .seq #[.str "fresh" t_WAYS_0, .str "kept" t_WAYS_1] n_WAYS, sl_WAYS⟩)
    {g_STRIKES : Addr} {o_STRIKES : Option Addr} {n_STRIKES : Nat} {sl_STRIKES : Array (Option Value)} {t_STRIKES_0 t_STRIKES_1 t_STRIKES_2 : Tok} (v_STRIKES : PySem.W.nsIn K mainGlobals "STRIKES" = some (some (.ref g_STRIKES))) (w_STRIKES : K.lookup g_STRIKES = some ⟨.type "tuple", o_STRIKES, .seq #[.str "always" t_STRIKES_0, .str "never" t_STRIKES_1, .str "own" t_STRIKES_2] n_STRIKES, sl_STRIKES⟩)
    {g_FINDS : Addr} {o_FINDS : Option Addr} {n_FINDS : Nat} {sl_FINDS : Array (Option Value)} {t_FINDS_0 t_FINDS_1 : Tok} (v_FINDS : PySem.W.nsIn K mainGlobals "FINDS" = some (some (.ref g_FINDS))) (w_FINDS : K.lookup g_FINDS = some ⟨.type "tuple", o_FINDS, .seq #[.str "any" t_FINDS_0, .str "live" t_FINDS_1] n_FINDS, sl_FINDS⟩)
    {g_DRAINS : Addr} {o_DRAINS : Option Addr} {n_DRAINS : Nat} {sl_DRAINS : Array (Option Value)} {t_DRAINS_0 t_DRAINS_1 : Tok} (v_DRAINS : PySem.W.nsIn K mainGlobals "DRAINS" = some (some (.ref g_DRAINS))) (w_DRAINS : K.lookup g_DRAINS = some ⟨.type "tuple", o_DRAINS, .seq #[.str "ahead" t_DRAINS_0, .str "behind" t_DRAINS_1] n_DRAINS, sl_DRAINS⟩)
    {g_HOLDS : Addr} {o_HOLDS : Option Addr} {n_HOLDS : Nat} {sl_HOLDS : Array (Option Value)} {t_HOLDS_0 t_HOLDS_1 : Tok} (v_HOLDS : PySem.W.nsIn K mainGlobals "HOLDS" = some (some (.ref g_HOLDS))) (w_HOLDS : K.lookup g_HOLDS = some ⟨.type "tuple", o_HOLDS, .seq #[.str "address" t_HOLDS_0, .str "index" t_HOLDS_1] n_HOLDS, sl_HOLDS⟩)
    : ∃ fd : FuncData, (∀ (s : Shared) (v : Value), BindsTo s fd ⟨[v], []⟩ [("script", v)]) ∧ ∀ base : Heap, K.In base → base.Ns mainGlobals mg → FnG l.prog w K mg base CX0 11 fa fd ["script"] (spLaw K) := by
  have e := hfa.symm.trans (PySem.W.mg_of X G a16)
  cases e
  have F0 := fun_mk (st := s__law_bag) l0 c0 k0
  have b0 := F0.binds (ps := ["script"]) fun _ _ _ _ _ _ us hl => match us, hl with | [_], _ => rfl
  have F1 := fun_mk (st := s__law_take) l1 c1 k1
  have b1 := F1.binds (ps := ["bag", "many"]) fun _ _ _ _ _ _ us hl => match us, hl with | [_, _], _ => rfl
  have F2 := fun_mk (st := s__law_some) l2 c2 k2
  have b2 := F2.binds (ps := ["bag", "things"]) fun _ _ _ _ _ _ us hl => match us, hl with | [_, _], _ => rfl
  have F3 := fun_mk (st := s__law_book) l3 c3 k3
  have b3 := F3.binds (ps := ["bag"]) fun _ _ _ _ _ _ us hl => match us, hl with | [_], _ => rfl
  have F4 := fun_mk (st := s__law_odd) l4 c4 k4
  have b4 := F4.binds (ps := ["bag"]) fun _ _ _ _ _ _ us hl => match us, hl with | [_], _ => rfl
  have F5 := fun_mk (st := s__law_is_int) l5 c5 k5
  have b5 := F5.binds (ps := ["thing"]) fun _ _ _ _ _ _ us hl => match us, hl with | [_], _ => rfl
  have F6 := fun_mk (st := s__law_mixed) l6 c6 k6
  have b6 := F6.binds (ps := ["bag", "things"]) fun _ _ _ _ _ _ us hl => match us, hl with | [_, _], _ => rfl
  have F7 := fun_mk (st := s__law_bent) l7 c7 k7
  have b7 := F7.binds (ps := ["bag", "thing", "deep"]) fun _ _ _ _ _ _ us hl => match us, hl with | [_, _, _], _ => rfl
  have F8 := fun_mk (st := s__law_alike) l8 c8 k8
  have b8 := F8.binds (ps := ["found", "due"]) fun _ _ _ _ _ _ us hl => match us, hl with | [_, _], _ => rfl
  have F9 := fun_mk (st := s_is_row_of) l9 c9 k9
  have b9 := F9.binds (ps := ["thing", "many"]) fun _ _ _ _ _ _ us hl => match us, hl with | [_, _], _ => rfl
  have F10 := fun_mk (st := s_is_one_of) l10 c10 k10
  have b10 := F10.binds (ps := ["thing", "words"]) fun _ _ _ _ _ _ us hl => match us, hl with | [_, _], _ => rfl
  have F11 := fun_mk (st := s_is_integer) l11 c11 k11
  have b11 := F11.binds (ps := ["thing"]) fun _ _ _ _ _ _ us hl => match us, hl with | [_], _ => rfl
  have F12 := fun_mk (st := s_is_book) l12 c12 k12
  have b12 := F12.binds (ps := ["thing"]) fun _ _ _ _ _ _ us hl => match us, hl with | [_], _ => rfl
  have F13 := fun_mk (st := s_is_safe) l13 c13 k13
  have b13 := F13.binds (ps := ["book"]) fun _ _ _ _ _ _ us hl => match us, hl with | [_], _ => rfl
  have F14 := fun_mk (st := s__law_is_safe) l14 c14 k14
  have b14 := F14.binds (ps := ["book"]) fun _ _ _ _ _ _ us hl => match us, hl with | [_], _ => rfl
  have F15 := fun_mk (st := s__law_is_book) l15 c15 k15
  have b15 := F15.binds (ps := ["thing"]) fun _ _ _ _ _ _ us hl => match us, hl with | [_], _ => rfl
  have F16 := fun_mk (st := s_law) l16 c16 k16
  have b16 := F16.binds (ps := ["script"]) fun _ _ _ _ _ _ us hl => match us, hl with | [_], _ => rfl
  let T : Tops K mg := { a__law_bag := _, d__law_bag := _, f__law_bag := F0, m__law_bag := PySem.W.mg_of X G a0, b__law_bag := b0, a__law_take := _, d__law_take := _, f__law_take := F1, m__law_take := PySem.W.mg_of X G a1, b__law_take := b1, a__law_some := _, d__law_some := _, f__law_some := F2, m__law_some := PySem.W.mg_of X G a2, b__law_some := b2, a__law_book := _, d__law_book := _, f__law_book := F3, m__law_book := PySem.W.mg_of X G a3, b__law_book := b3, a__law_odd := _, d__law_odd := _, f__law_odd := F4, m__law_odd := PySem.W.mg_of X G a4, b__law_odd := b4, a__law_is_int := _, d__law_is_int := _, f__law_is_int := F5, m__law_is_int := PySem.W.mg_of X G a5, b__law_is_int := b5, a__law_mixed := _, d__law_mixed := _, f__law_mixed := F6, m__law_mixed := PySem.W.mg_of X G a6, b__law_mixed := b6, a__law_bent := _, d__law_bent := _, f__law_bent := F7, m__law_bent := PySem.W.mg_of X G a7, b__law_bent := b7, a__law_alike := _, d__law_alike := _, f__law_alike := F8, m__law_alike := PySem.W.mg_of X G a8, b__law_alike := b8, a_is_row_of := _, d_is_row_of := _, f_is_row_of := F9, m_is_row_of := PySem.W.mg_of X G a9, b_is_row_of := b9, a_is_one_of := _, d_is_one_of := _, f_is_one_of := F10, m_is_one_of := PySem.W.mg_of X G a10, b_is_one_of := b10, a_is_integer := _, d_is_integer := _, f_is_integer := F11, m_is_integer := PySem.W.mg_of X G a11, b_is_integer := b11, a_is_book := _, d_is_book := _, f_is_book := F12, m_is_book := PySem.W.mg_of X G a12, b_is_book := b12, a_is_safe := _, d_is_safe := _, f_is_safe := F13, m_is_safe := PySem.W.mg_of X G a13, b_is_safe := b13, a__law_is_safe := _, d__law_is_safe := _, f__law_is_safe := F14, m__law_is_safe := PySem.W.mg_of X G a14, b__law_is_safe := b14, a__law_is_book := _, d__law_is_book := _, f__law_is_book := F15, m__law_is_book := PySem.W.mg_of X G a15, b__law_is_book := b15, a_law := _, d_law := _, f_law := F16, m_law := PySem.W.mg_of X G a16, b_law := b16, z_abs := PySem.W.mg_none_of X G z_abs, z_int := PySem.W.mg_none_of X G z_int, z_len := PySem.W.mg_none_of X G z_len, z_range := PySem.W.mg_none_of X G z_range, z_tuple := PySem.W.mg_none_of X G z_tuple, z_isinstance := PySem.W.mg_none_of X G z_isinstance, z_bool := PySem.W.mg_none_of X G z_bool, z_str := PySem.W.mg_none_of X G z_str, z_dict := PySem.W.mg_none_of X G z_dict, z_list := PySem.W.mg_none_of X G z_list, z_repr := PySem.W.mg_none_of X G z_repr, z_all := PySem.W.mg_none_of X G z_all, z_zip := PySem.W.mg_none_of X G z_zip, u_WAYS := _, v_WAYS := .ref g_WAYS, m_WAYS := PySem.W.mg_of X G v_WAYS, r_WAYS := rfl, i_WAYS := fun F => .tup (xs := [V.str "fresh", V.str "kept"]) (.inr ⟨_, _, _, w_WAYS, rfl, rfl, (by decide : 2 ≤ sizeLine), (.cons ⟨_, rfl⟩ (.cons ⟨_, rfl⟩ (.nil)))⟩) (by decide) (.cons (.str _ (by decide)) (.cons (.str _ (by decide)) (.nil))), u_STRIKES := _, v_STRIKES := .ref g_STRIKES, m_STRIKES := PySem.W.mg_of X G v_STRIKES, r_STRIKES := rfl, i_STRIKES := fun F => .tup (xs := [V.str "always", V.str "never", V.str "own"]) (.inr ⟨_, _, _, w_STRIKES, rfl, rfl, (by decide : 3 ≤ sizeLine), (.cons ⟨_, rfl⟩ (.cons ⟨_, rfl⟩ (.cons ⟨_, rfl⟩ (.nil))))⟩) (by decide) (.cons (.str _ (by decide)) (.cons (.str _ (by decide)) (.cons (.str _ (by decide)) (.nil)))), u_FINDS := _, v_FINDS := .ref g_FINDS, m_FINDS := PySem.W.mg_of X G v_FINDS, r_FINDS := rfl, i_FINDS := fun F => .tup (xs := [V.str "any", V.str "live"]) (.inr ⟨_, _, _, w_FINDS, rfl, rfl, (by decide : 2 ≤ sizeLine), (.cons ⟨_, rfl⟩ (.cons ⟨_, rfl⟩ (.nil)))⟩) (by decide) (.cons (.str _ (by decide)) (.cons (.str _ (by decide)) (.nil))), u_DRAINS := _, v_DRAINS := .ref g_DRAINS, m_DRAINS := PySem.W.mg_of X G v_DRAINS, r_DRAINS := rfl, i_DRAINS := fun F => .tup (xs := [V.str "ahead", V.str "behind"]) (.inr ⟨_, _, _, w_DRAINS, rfl, rfl, (by decide : 2 ≤ sizeLine), (.cons ⟨_, rfl⟩ (.cons ⟨_, rfl⟩ (.nil)))⟩) (by decide) (.cons (.str _ (by decide)) (.cons (.str _ (by decide)) (.nil))), u_HOLDS := _, v_HOLDS := .ref g_HOLDS, m_HOLDS := PySem.W.mg_of X G v_HOLDS, r_HOLDS := rfl, i_HOLDS := fun F => .tup (xs := [V.str "address", V.str "index"]) (.inr ⟨_, _, _, w_HOLDS, rfl, rfl, (by decide : 2 ≤ sizeLine), (.cons ⟨_, rfl⟩ (.cons ⟨_, rfl⟩ (.nil)))⟩) (by decide) (.cons (.str _ (by decide)) (.cons (.str _ (by decide)) (.nil))) }
  exact ⟨_, fun s v => .of_eq rfl, fun base _ _ => ok_law T hlaw⟩
end LW
set_option Elab.async false
set_option linter.all false
set_option maxRecDepth 100000
set_option maxHeartbeats 400000
namespace LW
open PySem PySem.Spec PyProof.Rows L2 DL
theorem eqOk_int (i j : Int) : EqOk (.int i) (.int j) := .inl ⟨rfl, rfl, Nat.zero_le _⟩
theorem cell_at {ns : List Int} (h : ∀ n ∈ ns, 0 ≤ n) (z : Int) : ∃ c : Int, 0 ≤ c ∧ atI (DL.cutD (ns.map PyData.int) (some z) none ++ [PyData.int 0]) 0 = some (PyData.int c) := by
  have all : ∀ d ∈ DL.cutD (ns.map PyData.int) (some z) none ++ [PyData.int 0], ∃ c : Int, 0 ≤ c ∧ d = .int c := by
    intro d hd
    rcases List.mem_append.mp hd with q | q
    · have q := List.mem_of_mem_drop (List.mem_of_mem_take q)
      obtain ⟨n, hn, rfl⟩ := List.mem_map.mp q
      exact ⟨n, h n hn, rfl⟩
    · simp only [List.mem_singleton] at q
      exact ⟨0, by decide, q⟩
  have ne : 0 < (DL.cutD (ns.map PyData.int) (some z) none ++ [PyData.int 0]).length := by simp
  obtain ⟨c, hc, e⟩ := all _ (List.getElem_mem ne)
  refine ⟨c, hc, ?_⟩
  rw [← e]
  exact atI_nat (j := 0) (List.getElem?_eq_getElem ne)
theorem cutD_len (ds : List PyData) (lo hi : Option Int) : (DL.cutD ds lo hi).length ≤ ds.length := by
  unfold DL.cutD
  rw [List.length_take, List.length_drop]
  omega
theorem S_take {many : Int} {Q : PyData → Prop} (h0 : 0 < many) (h1 : many < 1073741824) (h : ∀ k, 0 ≤ k → k < many → Q (.int k)) : fn__law_take [.bag, .data (.int many)] Q (fun _ => False) := by
  refine ⟨rfl, ?_⟩
  have fin : ∀ a b : DSlot, (dSeq (dIfS (dTest (dOp gGt (dBag 0 0) (dC (.int 0)))) (dSeq (dSet 6 (dOp gMod (dCall gIntC (dCons (dBag 0 0) (dNil))) (dPeek 1)))
    (dSeq (dSetBag 0 0 (dOp gFdiv (dCall gIntC (dCons (dBag 0 0) (dNil))) (dPeek 1)))
    (dRet (dVar 6)))) (dNext))
    (dSeq (dSet 2 (dOp gMod (dCall gIntC (dCons (dOp gMulA (dOp gAdd (dBag 0 1) (dC (.int 1))) (dC (.int 39373))) (dNil))) (dC (.int 1000000007))))
    (dSeq (dSet 3 (dOp gMod (dCall gIntC (dCons (dOp gMulA (dOp gMod (dCall gIntC (dCons (dOp gMulA (dPeek 2) (dPeek 2)) (dNil))) (dC (.int 998244353))) (dC (.int 30011))) (dNil))) (dC (.int 998244353))))
    (dRet (dOp gMod (dCall gIntC (dCons (dOp gFdiv (dPeek 3) (dC (.int 7))) (dNil))) (dPeek 1)))))) (ends0 Q fun _ => False) [.bag, .data (.int many), .undef, .undef, a, b, .undef] := by
    intro a b
    refine ⟨rfl, fun n hn _ => ⟨_, rfl, ?_⟩⟩
    refine ite2 (fun c => ?_) (fun c => ?_)
    · refine ⟨(by decide : 6 < 7), rfl, fun m hm _ => ⟨h0, ?_⟩⟩
      refine ⟨rfl, fun m' hm' _ => ⟨⟨h0, h1⟩, _, rfl, Int.ediv_nonneg hm' (Int.le_of_lt h0), nofun, rfl, ?_⟩⟩
      exact h _ (Int.emod_nonneg _ (by omega)) (Int.emod_lt_of_pos _ h0)
    · refine ⟨(by decide : 2 < 7), rfl, fun y hy hy2 => ⟨.inr ⟨by decide, by decide⟩, (by decide : (0 : Int) < 1000000007), ?_⟩⟩
      have b1 : 0 ≤ ((y + 1) * 39373) % 1000000007 := Int.emod_nonneg _ (by decide)
      have b2 : ((y + 1) * 39373) % 1000000007 < 1000000007 := Int.emod_lt_of_pos _ (by decide)
      refine ⟨(by decide : 3 < 7), ⟨.inl ⟨(by show -(2 ^ 64) < ((y + 1) * 39373) % 1000000007; omega), (by show ((y + 1) * 39373) % 1000000007 < 2 ^ 64; omega)⟩, (by decide : (0 : Int) < 998244353), .inr ⟨by decide, by decide⟩, (by decide : (0 : Int) < 998244353), ⟨⟨by decide, by decide⟩, h0, ?_⟩⟩⟩
      exact h _ (Int.emod_nonneg _ (by omega)) (Int.emod_lt_of_pos _ h0)
  refine ⟨rfl, fun n hn _ => ⟨eqOk_int _ _, _, rfl, ?_⟩⟩
  refine ite2 (fun c => ?_) (fun c => fin _ _)
  -- the next number of the script, and a stir
  refine ⟨(by decide : 4 < 7), rfl, fun ns hl hns => ⟨rfl, fun z hz _ => ⟨_, rfl, (by decide : 1 ≤ sizeLine), ?_, ?_⟩⟩⟩
  · have := cutD_len (ns.map PyData.int) (some z) none
    rw [List.length_map] at this
    exact Nat.le_trans (Nat.add_le_add_right (Nat.le_trans this hl) 1) (by decide)
  obtain ⟨c, hc, e⟩ := cell_at hns z
  refine ⟨_, e, rfl, (by decide : (2 : Int) ≠ 1), _, rfl, (by decide : (0 : Int) ≤ 1), rfl, ⟨⟨by decide, by decide, by decide⟩, _, rfl, ?_⟩⟩
  have two : ∀ D : DEnds, (∀ a b : DSlot, D.nx [.bag, .data (.int many), .undef, .undef, a, b, .undef]) → (dSeq (dSet 5 (dOp gAdd (dOp gAdd (dOp gMulA (dBag 0 1) (dC (.int 48271))) (dOp gMod (dCall gIntC (dCons (dPeek 4) (dNil))) (dC (.int 2147483647)))) (dOp gMulA (dC (.int 7919)) (dBag 0 2))))
    (dSetBag 0 1 (dOp gMod (dCall gIntC (dCons (dPeek 5) (dNil))) (dC (.int 2147483647))))) D [.bag, .data (.int many), .undef, .undef, .data (.int c), .undef, .undef] := fun D fin => ⟨(by decide : 5 < 7), rfl, fun y hy _ => ⟨.inr ⟨by decide, by decide⟩, (by decide : (0 : Int) < 2147483647), rfl, fun m hm _ => ⟨.inl ⟨by decide, by decide⟩, (by decide : (0 : Int) < 2147483647), _, rfl, Int.emod_nonneg _ (by decide), fun _ => Int.emod_lt_of_pos _ (by decide), rfl, fin _ _⟩⟩⟩
  exact ite2 (fun c => ⟨_, rfl, hc, nofun, rfl, two _ fin⟩) fun c => two _ fin
theorem atI_in {ds : List PyData} {k : Int} (h0 : 0 ≤ k) (h1 : k < ds.length) : ∃ d ∈ ds, atI ds k = some d := by
  have e : k = ((k.toNat : Nat) : Int) := by omega
  have lt : k.toNat < ds.length := by omega
  refine ⟨ds[k.toNat], List.getElem_mem lt, ?_⟩
  have q := atI_nat (xs := ds) (j := k.toNat) (List.getElem?_eq_getElem lt)
  rw [← e] at q
  exact q
theorem S_some {ds : List PyData} {Q : PyData → Prop} (h0 : ds ≠ []) (h1 : ds.length < 1073741824) (h : ∀ d ∈ ds, Q d) : fn__law_some [.bag, .data (.list ds)] Q (fun _ => False) := by
  refine ⟨rfl, ?_⟩
  have pos : 0 < ds.length := List.length_pos_iff.mpr h0
  show fn__law_take [.bag, .data (.int (ds.length : Nat))] (fun y => gIx (.list ds) y Q) fun _ => False
  refine S_take (by omega) (by omega) fun k k0 k1 => ?_
  obtain ⟨d, hd, e⟩ := atI_in k0 k1
  exact ⟨d, e, h d hd⟩
theorem S_mixed {xs : List PyData} {Q : PyData → Prop} (h1 : xs.length < 1048576) (h : ∀ zs : List PyData, zs.Perm xs → Q (.list zs)) : fn__law_mixed [.bag, .data (.list xs)] Q (fun _ => False) := by
  refine ⟨rfl, ⟨(by decide : 2 < 4), (by decide : 0 ≤ sizeLine), ?_⟩⟩
  have loop : ∀ (rest ys : List PyData) (s : DSlot), (ys ++ rest).length < 1048576 → (∀ zs : List PyData, zs.Perm (ys ++ rest) → Q (.list zs)) →
      forD (gN 3) (dIns 2 (dFn0 fn__law_take (aBag 0 (aCons (dOp gAdd (dCall gLen (dCons (dPeek 2) (dNil))) (dC (.int 1))) (aNil)))) (dVar 3))
        { ends0 Q fun _ => False with nx := fun ρ => dFz 2 (dRet (dVar 2)) (ends0 Q fun _ => False) ρ } rest [.bag, .data (.list xs), .ownL ys, s] := by
    intro rest
    induction rest with
    | nil =>
      intro ys s _ hq
      exact hq ys (by rw [List.append_nil])
    | cons d rest ih =>
      intro ys s hl hq
      refine ⟨(by decide : 3 < 4), ?_⟩
      show fn__law_take [.bag, .data (.int ((ys.length : Nat) + 1))] _ fun _ => False
      rw [List.length_append, List.length_cons] at hl
      refine S_take (by omega) (by omega) fun k k0 k1 => ?_
      refine ⟨k, rfl, k0, by omega, Nat.lt_of_lt_of_le (show ys.length < 1048576 by omega) (by decide), ?_⟩
      have pm : (ys.take k.toNat ++ [d] ++ ys.drop k.toNat).Perm (ys ++ [d]) := by
        have := List.take_append_drop k.toNat ys
        calc (ys.take k.toNat ++ [d] ++ ys.drop k.toNat).Perm (ys.take k.toNat ++ (ys.drop k.toNat ++ [d])) := by
              rw [List.append_assoc]; exact List.Perm.append_left _ List.perm_append_comm
          _ = ys ++ [d] := by rw [← List.append_assoc, this]
      refine ih _ _ ?_ fun zs hz => hq zs (hz.trans ?_)
      · have := pm.length_eq
        rw [List.length_append, this, List.length_append, List.length_singleton]; omega
      · rw [show ys ++ d :: rest = ys ++ [d] ++ rest by simp]
        exact pm.append_right rest
  exact loop xs [] _ (by simpa using h1) (by simpa using h)
abbrev tup (xs : List Str) : PyData := .tuple (xs.map PyData.str)
def odds : List PyData := [.none, .bool true, .bool false, .int 0, .int 1, .int (-1), (.int ((10 : Int) ^ (39 : Int).toNat)), .str "", .str "a", .str "no", .str "thing", .str "word", .tuple [], .list [], .dict [], tup ["thing"], tup ["hole"],
  tup ["raw", "truth", "yes"], .list [.str "no"], .dict [(.str "a", .int 1)], .str "a\n", .tuple [tup ["a", "b"]], .tuple [.str "a", .str "b", tup ["c"]], .str "abcdefghijklm"]
theorem S_odd {Q : PyData → Prop} (h : ∀ d ∈ odds, Q d) : fn__law_odd [.bag] Q (fun _ => False) := by
  have le : ∀ n, n ≤ 30 → n ≤ sizeLine := fun n h => Nat.le_trans h (by decide)
  refine ⟨rfl, ?_⟩
  refine ⟨(by decide : 1 < 2), ?_⟩
  refine ⟨⟨by decide, by decide, by decide⟩, ?_⟩
  refine ⟨le 0 (by decide), ?_⟩
  refine ⟨le 0 (by decide), ?_⟩
  refine ⟨le 1 (by decide), ?_⟩
  refine ⟨le 1 (by decide), ?_⟩
  refine ⟨le 17 (by decide), ?_⟩
  refine ⟨le 3 (by decide), ?_⟩
  refine ⟨le 1 (by decide), ?_⟩
  refine ⟨[.inr "a"], rfl, by decide, ?_⟩
  refine ⟨le 2 (by decide), ?_⟩
  refine ⟨le 1 (by decide), ?_⟩
  refine ⟨le 1 (by decide), ?_⟩
  refine ⟨le 3 (by decide), ?_⟩
  refine ⟨le 7 (by decide), ?_⟩
  refine ⟨le 24 (by decide), ?_⟩
  exact S_some (ds := odds) (by simp [odds]) (by simp [odds]) h
/-- a comprehension whose test and element are told by p and f -/
theorem lcD_is {g : DG} {t : DT} {fe : DE} {ρw : DEnv} (p : PyData → Bool) (f : PyData → PyData) : ∀ (ds acc : List PyData) {Q : List PyData → Prop},
    (∀ d ∈ ds, ∀ (Y : PyData → Prop) (N : Prop), (p d = true → Y (f d)) → (p d = false → N) → g d ρw fun ρ2 => t ρ2 (fun b => if b = true then fe ρ2 Y (fun _ => False) else N) fun _ => False) →
    Q (acc ++ (ds.filter p).map f) → lcD g t fe ρw ds acc Q
  | [], acc, Q, _, q => by
    show Q acc
    simpa using q
  | d :: ds, acc, Q, h, q => by
    refine h d (by simp) _ _ (fun e => ?_) fun e => ?_
    · refine lcD_is p f ds _ (fun x hx => h x (by simp [hx])) ?_
      rw [List.filter_cons_of_pos e] at q
      simpa using q
    · refine lcD_is p f ds _ (fun x hx => h x (by simp [hx])) ?_
      rw [List.filter_cons_of_neg (by rw [e]; decide)] at q
      exact q
/-- .. without a test -/
theorem lcD_map {g : DG} {fe : DE} {ρw : DEnv} (f : PyData → PyData) (ds : List PyData) {Q : List PyData → Prop} (h : ∀ d ∈ ds, ∀ Y : PyData → Prop, Y (f d) → g d ρw fun ρ2 => fe ρ2 Y fun _ => False) (q : Q (ds.map f)) : lcD g dYes fe ρw ds [] Q :=
  lcD_is (fun _ => true) f ds [] (fun d hd Y N hy _ => by
    have := h d hd Y (hy rfl)
    simpa [dYes] using this) (by rw [List.filter_eq_self.mpr (by simp)]; exact q)
theorem and_read {b : Bool} {Q : PyData → Prop} {A : Prop} (h1 : b = true → A) (h2 : b = false → Q (.bool false)) : ∃ k, PyData.bool b = .bool k ∧ if k = true then A else Q (.bool false) := by
  refine ⟨b, rfl, ?_⟩
  cases b with
  | true => exact iteT (h1 rfl)
  | false => exact iteF (h2 rfl)
theorem S_isint {d : PyData} {Q : PyData → Prop} (h : Q (.bool (isInt d && !isBool d))) : fn__law_is_int [.data d] Q (fun _ => False) := by
  refine ⟨rfl, and_read (fun e => ⟨_, rfl, ?_⟩) fun e => ?_⟩
  · rw [e] at h; exact h
  · rw [e] at h; exact h
theorem isStr_str {d : PyData} (h : isStr d = true) : ∃ x, d = .str x := by cases d with
  | str x => exact ⟨x, rfl⟩
  | _ => cases h
theorem eqOk_nil (xs : List PyData) : EqOk (.list xs) (.list []) := by
  cases xs with
  | nil => exact .inl ⟨rfl, rfl, by decide⟩
  | cons x xs => exact .inr (.inl ⟨_, _, rfl, rfl, by simp⟩)
theorem eqv_nil (xs : List PyData) : PyData.eqv (.list xs) (.list []) = xs.isEmpty := by
  rw [PyData.eqv]
  cases xs <;> rfl
theorem eqv_str (x y : Str) : PyData.eqv (.str x) (.str y) = (x == y) := by rw [PyData.eqv]
theorem eqOk_str (x y : Str) : EqOk (.str x) (.str y) := .inl ⟨rfl, rfl, Nat.zero_le _⟩
theorem eqOk_bool (x y : Bool) : EqOk (.bool x) (.bool y) := .inl ⟨rfl, rfl, Nat.zero_le _⟩
/-- short enough to be shown -/
structure Shows (d : PyData) : Prop where
  ok : d.showable = true
  deep : d.depth ≤ 60
  len : d.shown.length ≤ sizeLine
theorem S_alike_same {d : PyData} {Q : PyData → Prop} (hp : d.plain = true) (hs : Shows d) (h : Q (.bool true)) : fn__law_alike [.data d, .data d] Q (fun _ => False) := by
  refine ⟨rfl, .inl ⟨hp, hp, hs.deep⟩, ?_⟩
  rw [SeqAt.eqv_refl_plain d hp]
  refine ⟨true, rfl, iteT ?_⟩
  have dd : d.depth ≤ 100 := Nat.le_trans hs.deep (by decide)
  refine ⟨hs.ok, dd, hs.len, hs.ok, dd, hs.len, eqOk_str _ _, ?_⟩
  rw [eqv_str, beq_self_eq_true]
  exact h
theorem shows_bool (b : Bool) : Shows (.bool b) := by cases b <;> exact ⟨rfl, by decide, by decide +kernel⟩
theorem shows_bools2 (a b : Bool) : Shows (.list [.bool a, .bool b]) := by cases a <;> cases b <;> exact ⟨rfl, by decide, by decide +kernel⟩
theorem isTup_tup {d : PyData} (h : isTup d = true) : ∃ ds, d = .tuple ds := by cases d with
  | tuple ds => exact ⟨ds, rfl⟩
  | _ => cases h
/-- small enough -/
structure Fit (k n : Nat) (d : PyData) : Prop where
  ok : d.showable = true
  lv : d.leavesShort 41 = true
  deep : d.depth ≤ k
  wt : d.weight ≤ n
theorem Fit.mono {k k' n n' : Nat} {d : PyData} (h : Fit k n d) (hk : k ≤ k') (hn : n ≤ n') : Fit k' n' d := ⟨h.ok, h.lv, Nat.le_trans h.deep hk, Nat.le_trans h.wt hn⟩
theorem Fit.shows {k n : Nat} {d : PyData} (h : Fit k n d) (hk : k ≤ 60) (hn : n ≤ 380000) : Shows d := by
  refine ⟨h.ok, Nat.le_trans h.deep hk, ?_⟩
  have e := PyData.shown_le 41 (by decide) d h.lv
  have hw := h.wt
  rw [sizeLine_eq]
  omega
theorem fit_all {k n : Nat} : ∀ {ds : List PyData}, (∀ d ∈ ds, Fit k n d) → PyData.showableAll ds = true ∧ PyData.leavesShortAll 41 ds = true ∧ PyData.depthAll ds ≤ k ∧ PyData.weightAll ds ≤ ds.length * (n + 1)
  | [], _ => ⟨rfl, rfl, Nat.zero_le _, Nat.zero_le _⟩
  | d :: r, h => by
    obtain ⟨h1, h2, h3, h4⟩ := fit_all (ds := r) fun x hx => h x (by simp [hx])
    have f := h d (by simp)
    refine ⟨?_, ?_, ?_, ?_⟩
    · simp only [PyData.showableAll, f.ok, h1, Bool.and_self]
    · simp only [PyData.leavesShortAll, f.lv, h2, Bool.and_self]
    · have := f.deep
      simp only [PyData.depthAll]; omega
    · have := f.wt
      simp only [PyData.weightAll, List.length_cons]
      rw [Nat.add_mul]; omega
theorem fit_tuple {k n L : Nat} {ds : List PyData} (h : ∀ d ∈ ds, Fit k n d) (hl : ds.length ≤ L) : Fit (k + 1) (L * (n + 1)) (.tuple ds) := by
  obtain ⟨h1, h2, h3, h4⟩ := fit_all h
  exact ⟨by simpa only [PyData.showable] using h1, by simpa only [PyData.leavesShort] using h2, by simp only [PyData.depth]; omega, by simp only [PyData.weight]; exact Nat.le_trans h4 (Nat.mul_le_mul_right _ hl)⟩
theorem fit_list {k n L : Nat} {ds : List PyData} (h : ∀ d ∈ ds, Fit k n d) (hl : ds.length ≤ L) : Fit (k + 1) (L * (n + 1)) (.list ds) := by
  obtain ⟨h1, h2, h3, h4⟩ := fit_all h
  exact ⟨by simpa only [PyData.showable] using h1, by simpa only [PyData.leavesShort] using h2, by simp only [PyData.depth]; omega, by simp only [PyData.weight]; exact Nat.le_trans h4 (Nat.mul_le_mul_right _ hl)⟩
def fitB (k n : Nat) (d : PyData) : Bool := d.showable && d.leavesShort 41 && decide (d.depth ≤ k) && decide (d.weight ≤ n)
theorem fit_of {k n : Nat} {d : PyData} (h : fitB k n d = true) : Fit k n d := by
  simp only [fitB, Bool.and_eq_true, decide_eq_true_eq] at h
  exact ⟨h.1.1.1, h.1.1.2, h.1.2, h.2⟩
theorem odds_fit : ∀ d ∈ odds, Fit 3 200 d := by
  have : odds.all (fitB 3 200) = true := by decide +kernel
  exact fun d hd => fit_of (List.all_eq_true.mp this d hd)
theorem forD_inv {g : DG} {body : DS} {D : DEnds} (I : DEnv → Prop) (P : PyData → Prop) (step : ∀ d ρ (N : DEnv → Prop), P d → I ρ → (∀ ρ', I ρ' → N ρ') → g d ρ fun ρ2 => body { D with nx := N, ct := N, bk := D.nx } ρ2) :
    ∀ (xs : List PyData) (ρ : DEnv), (∀ x ∈ xs, P x) → I ρ → (∀ ρ', I ρ' → D.nx ρ') → forD g body D xs ρ
  | [], ρ, _, h, k => k ρ h
  | x :: xs, ρ, hx, h, k => step x ρ _ (hx x (by simp)) h fun ρ' h' => forD_inv I P step xs ρ' (fun y hy => hx y (by simp [hy])) h' k
theorem le_line {n : Nat} (h : n ≤ 1000000) : n ≤ sizeLine := Nat.le_trans h (by decide)
/-- for x in xs: where x isn't good, False -/
theorem forD_all {g : DG} {body : DS} {D : DEnds} (good : PyData → Bool) (I : DEnv → Prop) : ∀ (xs : List PyData) (ρ : DEnv),
    (∀ d ∈ xs, ∀ ρ (N : DEnv → Prop), I ρ → (good d = true → ∀ ρ', I ρ' → N ρ') → (good d = false → D.rt (.bool false)) → g d ρ fun ρ2 => body { D with nx := N, ct := N, bk := D.nx } ρ2) →
    I ρ → (xs.all good = true → ∀ ρ', I ρ' → D.nx ρ') → (xs.all good = false → D.rt (.bool false)) → forD g body D xs ρ
  | [], ρ, _, h, k, _ => k rfl ρ h
  | x :: xs, ρ, step, h, k, kf => step x (by simp) ρ _ h (fun e ρ' h' => forD_all good I xs ρ' (fun d hd => step d (by simp [hd])) h' (fun a => k (by rw [List.all_cons, e, a]; rfl)) fun a => kf (by rw [List.all_cons, a, Bool.and_false]))
      fun e => kf (by rw [List.all_cons, e, Bool.false_and])
/-! ### values near a nest of tuples, texts, numbers -/
def strOut (x : Str) : List PyData := [.str (x ++ "a"), .str (cutS x (some 1) none), .str (x ++ "1"), .str (Txt.upper x), .str "no", .str (Txt.mul x 12), .str "thing", .str (x ++ "\n"), .str "given"]
def intOut (i : Int) : List PyData := [.int (i + 1), .int (i - 1), .int 0, .int (-i), .bool (PyData.eqv (.int i) (.int 1)), .none, .str (toString i)]
def leafS (x : Str) : Bool := decide (x.length ≤ 13) && decide ((Txt.upper x).length ≤ 100) && (strOut x).all (fitB 3 200) && fitB 0 13 (.str x)
def leafI (i : Int) : Bool := decide (i.natAbs.log2 < 1920) && decide ((Str.ofString (toString i)).length ≤ 100) && (intOut i).all (fitB 3 200) && fitB 0 13 (.int i)
/-- a nest -/
inductive Nst : Nat → PyData → Prop
  | str {j : Nat} {x : Str} : leafS x = true → Nst j (.str x)
  | int {j : Nat} {i : Int} : leafI i = true → Nst j (.int i)
  | tup {j : Nat} {ds : List PyData} : ds.length ≤ 10 → (∀ d ∈ ds, Nst j d) → Nst (j + 1) (.tuple ds)
def V : Nat → Nat
  | 0 => 200
  | j + 1 => 24 * (V j + 1)
theorem V_ge : ∀ j, 200 ≤ V j
  | 0 => Nat.le_refl _
  | j + 1 => by have := V_ge j; show 200 ≤ 24 * (V j + 1); omega
theorem nst_fit : ∀ {j : Nat} {d : PyData}, Nst j d → Fit (j + 3) (V j) d := by
  have leaf : ∀ (j : Nat) {d : PyData}, fitB 0 13 d = true → Fit (j + 3) (V j) d := fun j d h => (fit_of h).mono (by omega) (by have := V_ge j; omega)
  intro j
  induction j with
  | zero =>
    intro d h
    cases h with
    | str hx => exact leaf 0 (by simp only [leafS, Bool.and_eq_true] at hx; exact hx.2)
    | int hx => exact leaf 0 (by simp only [leafI, Bool.and_eq_true] at hx; exact hx.2)
  | succ j ih =>
    intro d h
    cases h with
    | str hx => exact leaf _ (by simp only [leafS, Bool.and_eq_true] at hx; exact hx.2)
    | int hx => exact leaf _ (by simp only [leafI, Bool.and_eq_true] at hx; exact hx.2)
    | tup hl h => exact (fit_tuple (fun d hd => ih (h d hd)) (Nat.le_trans hl (by decide : 10 ≤ 24))).mono (by omega) (Nat.le_refl _)
theorem S_bent : ∀ (n : Nat) (deep : Nat) (j : Nat) (thing : PyData) (Q : PyData → Prop), deep < n → Nst j thing → (∀ d, Fit (j + 4) (V (j + 1)) d → Q d) → fn__law_bent n [.bag, .data thing, .data (.int (deep : Nat))] Q (fun _ => False)
  | 0, deep, j, thing, Q, hd, _, _ => absurd hd (Nat.not_lt_zero _)
  | n + 1, deep, j, thing, Q, hd, hn, h => by
    have vj := V_ge j
    have v1 : V (j + 1) = 24 * (V j + 1) := rfl
    have odd : fn__law_odd [.bag] Q (fun _ => False) := S_odd fun d hd => h d ((odds_fit d hd).mono (by omega) (by omega))
    refine ⟨rfl, eqOk_int _ _, _, rfl, ?_⟩
    refine ite2 (fun c => iteT odd) (fun c => ?_)
    have hd0 : deep ≠ 0 := fun e => by subst e; exact c (by rw [PyData.eqv]; rfl)
    refine S_take (by decide) (by decide) fun k k0 k1 => ⟨eqOk_int _ _, _, rfl, ?_⟩
    refine ite2 (fun c => odd) (fun c => ?_)
    cases hn with
    | @int _ i hx =>
      simp only [leafI, Bool.and_eq_true, decide_eq_true_eq] at hx
      refine S_isint ⟨true, rfl, iteT ?_⟩
      refine ⟨eqOk_int _ _, hx.1.1.1, Nat.le_trans hx.1.1.2 (by decide), le_line (by decide : 7 ≤ 1000000), ?_⟩
      dsimp only [aNil, ends0]
      refine S_some (by simp) (by simp) fun d hd => h d ((fit_of (List.all_eq_true.mp hx.1.2 d hd)).mono (by omega) (by omega))
    | @str _ x hx =>
      simp only [leafS, Bool.and_eq_true, decide_eq_true_eq] at hx
      refine S_isint ⟨false, rfl, iteF ?_⟩
      refine ⟨false, rfl, iteF (iteF ?_)⟩
      refine ⟨true, rfl, iteT ?_⟩
      have hl := hx.1.1.1
      have hup := hx.1.1.2
      have sl : (1000000 : Nat) ≤ sizeLine := by decide
      refine ⟨(by show x.length + 1 ≤ sizeLine; omega), 1, rfl, (by show x.length + 1 ≤ sizeLine; omega), rfl, (by show x.length ≤ 5592405; omega), (by omega), by decide, by decide, (by show 12 * x.length ≤ sizeLine; omega), (by show x.length + 1 ≤ sizeLine; omega), (by decide : 9 ≤ sizeLine), ?_⟩
      exact S_some (ds := strOut x) (by simp [strOut]) (by simp [strOut]) fun d hd => h d ((fit_of (List.all_eq_true.mp hx.1.2 d hd)).mono (by omega) (by omega))
    | @tup j ds hl hall =>
      refine S_isint ⟨false, rfl, iteF ?_⟩
      refine ⟨false, rfl, iteF (iteF ?_)⟩
      refine ⟨false, rfl, iteF ?_⟩
      refine ⟨true, rfl, iteF ⟨(by decide : 0 ≤ sizeLine), .inr (.inr ⟨_, rfl, rfl⟩), _, rfl, ?_⟩⟩
      rw [eqv_noTup]
      refine ite2 (fun _ => odd) (fun c => ?_)
      have pos : 0 < ds.length := by
        cases ds with
        | nil => exact absurd rfl c
        | cons d r => exact Nat.succ_pos _
      have sl : (1000000 : Nat) ≤ sizeLine := by decide
      have mem : ∀ lo hi, ∀ d ∈ DL.cutD ds lo hi, Fit (j + 3) (V j) d := fun lo hi d hd => nst_fit (hall d (List.mem_of_mem_drop (List.mem_of_mem_take hd)))
      have all : ∀ d ∈ ds, Fit (j + 3) (V j) d := fun d hd => nst_fit (hall d hd)
      have cl := cutD_len ds
      refine ⟨(by decide : 5 < 10), (by decide : 6 < 10), ?_⟩
      refine S_take (by decide) (by decide) fun way w0 w1 => ?_
      refine S_take (by omega) (by omega) fun at' a0 a1 => ?_
      refine ⟨eqOk_int _ _, _, rfl, ?_⟩
      refine ite2 (fun _ => ?_) (fun _ => ?_)
      · refine ⟨(by decide : 7 < 10), ⟨at', rfl, at' + 1, rfl, ?_, at' + 1, rfl, at', rfl, ?_, (by decide : 4 ≤ sizeLine), ?_⟩⟩
        · have h1 := cl none (some at'); have h2 := cl (some (at' + 1)) none
          show (DL.cutD ds none (some at')).length + (DL.cutD ds (some (at' + 1)) none).length ≤ sizeLine
          omega
        · have h1 := cl none (some (at' + 1)); have h2 := cl (some at') none
          show (DL.cutD ds none (some (at' + 1))).length + (DL.cutD ds (some at') none).length ≤ sizeLine
          omega
        · refine ⟨(by decide : 1 ≤ sizeLine), (by show ds.length + 1 ≤ sizeLine; omega), (by decide : 1 ≤ sizeLine), (by decide : 4 + 1 ≤ sizeLine), ?_⟩
          dsimp only [aNil, ends0]
          refine S_some (by simp) (by simp) fun d hd => h d ?_
          have two : ∀ {xs ys : List PyData}, xs.length ≤ 10 → ys.length ≤ 10 → (∀ d ∈ xs, Fit (j + 3) (V j) d) → (∀ d ∈ ys, Fit (j + 3) (V j) d) → Fit (j + 1 + 4) (V (j + 1 + 1)) (.tuple (xs ++ ys)) := fun h1 h2 g1 g2 =>
            (fit_tuple (fun d hd => (List.mem_append.mp hd).elim (g1 d) (g2 d)) (by rw [List.length_append]; omega : _ ≤ 24)).mono (by omega) (by show 24 * (V j + 1) ≤ 24 * (24 * (V j + 1) + 1); omega)
          have nn : Fit (j + 3) (V j) .none := ⟨rfl, rfl, Nat.zero_le _, Nat.zero_le _⟩
          simp only [List.cons_append, List.nil_append, List.mem_cons, List.not_mem_nil, or_false] at hd
          rcases hd with rfl | rfl | rfl | rfl | rfl
          · exact (fit_list all (by omega : _ ≤ 24)).mono (by omega) (by show 24 * (V j + 1) ≤ 24 * (24 * (V j + 1) + 1); omega)
          · exact (fit_tuple (fun d hd => all d (List.mem_reverse.mp hd)) (by rw [List.length_reverse]; omega : _ ≤ 24)).mono (by omega) (by show 24 * (V j + 1) ≤ 24 * (24 * (V j + 1) + 1); omega)
          · exact two (Nat.le_trans (cl _ _) hl) (Nat.le_trans (cl _ _) hl) (mem _ _) (mem _ _)
          · exact two (Nat.le_trans (cl _ _) hl) (Nat.le_trans (cl _ _) hl) (mem _ _) (mem _ _)
          · exact two hl (by decide) all (fun d hd => by rw [List.mem_singleton.mp hd]; exact nn)
      · refine ⟨at', rfl, ?_⟩
        obtain ⟨x, hx, ex⟩ := atI_in a0 a1
        refine ⟨x, ex, ?_⟩
        have e : ((deep : Nat) : Int) - 1 = ((deep - 1 : Nat) : Int) := by omega
        show fn__law_bent n [.bag, .data x, .data (.int ((deep : Nat) - 1))] _ fun _ => False
        rw [e]
        refine S_bent n (deep - 1) j x _ (by omega) (hall x hx) fun d hd => ?_
        have v0 : V (j + 1) = 24 * (V j + 1) := rfl
        have c1 := cl none (some at'); have c2 := cl (some (at' + 1)) none
        refine ⟨(by decide : 1 ≤ sizeLine), (by show (DL.cutD ds none (some at')).length + 1 ≤ sizeLine; omega), at' + 1, rfl, ?_, h _ ?_⟩
        · rw [List.length_append, List.length_singleton]
          omega
        · refine (fit_tuple (k := j + 4) (n := V (j + 1)) (L := 24) (fun y hy => ?_) ?_).mono (Nat.le_refl _) (Nat.le_refl _)
          · rcases List.mem_append.mp hy with q | q
            · rcases List.mem_append.mp q with q | q
              · exact (mem _ _ y q).mono (by omega) (by omega)
              · rw [List.mem_singleton.mp q]; exact hd
            · exact (mem _ _ y q).mono (by omega) (by omega)
          · rw [List.length_append, List.length_append, List.length_singleton]; omega
end LW
set_option Elab.async false
set_option linter.all false
set_option maxRecDepth 100000
set_option maxHeartbeats 400000
namespace LW
open PySem PySem.Spec PyProof.Rows L2 DL
/-- an integer of at least 0 -/
def nn : PyData → Bool
  | .int i => decide (0 ≤ i)
  | _ => false
/-- a text of these -/
def inW (ws : List PyData) : PyData → Bool
  | .str x => ws.any fun e => PyData.eqv e (.str x)
  | _ => false
abbrev mW : List PyData := [.str "fresh", .str "kept"]
abbrev mS : List PyData := [.str "always", .str "never", .str "own"]
abbrev mF : List PyData := [.str "any", .str "live"]
abbrev mD : List PyData := [.str "ahead", .str "behind"]
abbrev mH : List PyData := [.str "address", .str "index"]
def bookD : PyData → Bool
  | .tuple [a, b, c, d, e, f, g, h, i] => nn b && nn c && nn d && nn e && inW mW a && inW mS f && inW mF g && inW mD h && inW mH i
  | _ => false
theorem nine {ds : List PyData} (h : ds.length = 9) : ∃ a b c d e f g h' i, ds = [a, b, c, d, e, f, g, h', i] := by
  match ds, h with
  | [a, b, c, d, e, f, g, h', i], _ => exact ⟨a, b, c, d, e, f, g, h', i, rfl⟩
theorem bookD_len {ds : List PyData} (h : ds.length ≠ 9) : bookD (.tuple ds) = false := by
  unfold bookD
  split
  · rename_i e
    cases e
    exact absurd rfl h
  · rfl
theorem bookD_no {d : PyData} (h : isTup d = false) : bookD d = false := by cases d <;> first | rfl | cases h
theorem isint_nn {d : PyData} (h : (isInt d && !isBool d) = true) : ∃ i, d = .int i := by cases d with
  | int i => exact ⟨i, rfl⟩
  | bool b => cases h
  | _ => cases h
theorem nn_no {d : PyData} (h : (isInt d && !isBool d) = false) : nn d = false := by cases d <;> first | rfl | cases h
theorem inW_no {ws : List PyData} {d : PyData} (h : isStr d = false) : inW ws d = false := by cases d <;> first | rfl | cases h
theorem S_isinteger {d : PyData} {Q : PyData → Prop} (h : Q (.bool (isInt d && !isBool d))) : fn_is_integer [.data d] Q (fun _ => False) := by
  refine ⟨rfl, and_read (fun e => ⟨_, rfl, ?_⟩) fun e => ?_⟩
  · rw [e] at h; exact h
  · rw [e] at h; exact h
theorem S_oneof {ws : List PyData} (hw : ws.all flatD = true) {d : PyData} {Q : PyData → Prop} (h : Q (.bool (inW ws d))) : fn_is_one_of [.data d, .data (.tuple ws)] Q (fun _ => False) := by
  refine ⟨rfl, and_read (fun e => ?_) fun e => by rw [inW_no e] at h; exact h⟩
  obtain ⟨x, rfl⟩ := isStr_str e
  refine ⟨rfl, hw, ?_⟩
  rw [Bool.false_xor]
  exact h
theorem eqv_int (i j : Int) : PyData.eqv (.int i) (.int j) = (i == j) := by rw [PyData.eqv]
theorem S_rowof {d : PyData} {n : Nat} {Q : PyData → Prop} (h1 : ∀ ds, d = .tuple ds → Q (.bool ((ds.length : Int) == n))) (h2 : isTup d = false → Q (.bool false)) : fn_is_row_of [.data d, .data (.int (n : Nat))] Q (fun _ => False) := by
  refine ⟨rfl, and_read (fun e => ?_) fun e => h2 e⟩
  obtain ⟨ds, rfl⟩ := isTup_tup e
  refine ⟨eqOk_int _ _, ?_⟩
  rw [eqv_int]
  exact h1 ds rfl
theorem S_isbook {d : PyData} {Q : PyData → Prop} (h : Q (.bool (bookD d))) : fn_is_book [.data d] Q (fun _ => False) := by
  refine ⟨rfl, ?_⟩
  show g_is_book (ends0 Q fun _ => False) [.data d, .undef, .undef, .undef]
  refine S_rowof (n := 9) (fun ds e => ?_) (fun e => ⟨_, rfl, iteT (iteT (by rw [bookD_no e] at h; exact h))⟩)
  subst e
  by_cases hl : ds.length = 9
  case neg =>
    rw [bookD_len hl] at h
    refine ⟨_, rfl, ?_⟩
    have e9 : ((ds.length : Int) == ((9 : Nat) : Int)) = false := by
      rw [beq_eq_false_iff_ne]; omega
    rw [e9]
    exact iteT (iteT h)
  obtain ⟨a, b, c, d, e, f, g, h', i, rfl⟩ := nine hl
  refine ⟨true, rfl, iteF ?_⟩
  refine ⟨rfl, 1, rfl, 5, rfl, ?_⟩
  have cut : DL.cutD [a, b, c, d, e, f, g, h', i] (some 1) (some 5) = [b, c, d, e] := rfl
  dsimp only [gSl]
  rw [cut]
  refine lcD_map (fun d => .bool (nn d)) _ (fun d hd Y hy => ⟨(by decide : 2 < 4), ?_⟩) ?_
  · refine S_isinteger (and_read (fun z => ?_) fun z => by rw [nn_no z] at hy; exact hy)
    obtain ⟨i, rfl⟩ := isint_nn z
    exact hy
  refine ⟨[nn b, nn c, nn d, nn e], rfl, _, rfl, ?_⟩
  have all4 : ([nn b, nn c, nn d, nn e].all id) = (nn b && nn c && nn d && nn e) := by simp [Bool.and_assoc]
  rw [all4]
  cases n4 : (nn b && nn c && nn d && nn e) with
  | false =>
    have : bookD (.tuple [a, b, c, d, e, f, g, h', i]) = false := by
      show (nn b && nn c && nn d && nn e && inW mW a && inW mS f && inW mF g && inW mD h' && inW mH i) = false
      rw [n4]; simp
    rw [this] at h
    exact iteT h
  | true =>
    refine iteF ⟨(by decide : 1 < 4), le_line (by decide : 5 ≤ 1000000), rfl, 1, rfl, 5, rfl, le_line (by decide : 5 ≤ 1000000), ?_⟩
    have c1 : DL.cutD [a, b, c, d, e, f, g, h', i] none (some 1) = [a] := rfl
    have c5 : DL.cutD [a, b, c, d, e, f, g, h', i] (some 5) none = [f, g, h', i] := rfl
    rw [c1, c5]
    have ez : zipD ([a] ++ [f, g, h', i]) [c_WAYS, c_STRIKES, c_FINDS, c_DRAINS, c_HOLDS] = [.tuple [a, .tuple mW], .tuple [f, .tuple mS], .tuple [g, .tuple mF], .tuple [h', .tuple mD], .tuple [i, .tuple mH]] := rfl
    dsimp only [dCons, dNil, dVar, look, put]
    rw [ez]
    refine lcD_map (fun z => match z with | .tuple [x, .tuple ws] => .bool (inW ws x) | _ => .none) _ (fun z hz Y hy => ?_) ?_
    · have two : ∀ {x : PyData} {ws : List PyData}, ws.all flatD = true → Y (.bool (inW ws x)) → gT 2 (gsCons (gN 2) (gsCons (gN 3) gsNil)) (.tuple [x, .tuple ws]) (wipeD [.data (.tuple [a, b, c, d, e, f, g, h', i]), .data (.tuple [c_WAYS, c_STRIKES, c_FINDS, c_DRAINS, c_HOLDS]), .undef, .undef] [2, 3])
          fun ρ2 => dFn0 fn_is_one_of (aCons (dVar 2) (aCons (dVar 3) (aNil))) ρ2 Y fun _ => False := fun hf hy => ⟨rfl, (by decide : 2 < 4), (by decide : 3 < 4), rfl, S_oneof hf hy⟩
      simp only [List.mem_cons, List.not_mem_nil, or_false] at hz
      rcases hz with rfl | rfl | rfl | rfl | rfl
      · exact two rfl hy
      · exact two rfl hy
      · exact two rfl hy
      · exact two rfl hy
      · exact two rfl hy
    · refine ⟨[inW mW a, inW mS f, inW mF g, inW mD h', inW mH i], rfl, ?_⟩
      have : bookD (.tuple [a, b, c, d, e, f, g, h', i]) = ([inW mW a, inW mS f, inW mF g, inW mD h', inW mH i].all id) := by
        show (nn b && nn c && nn d && nn e && inW mW a && inW mS f && inW mF g && inW mD h' && inW mH i) = _
        rw [n4]; simp [Bool.and_assoc]
      rw [this] at h
      exact h
end LW
set_option Elab.async false
set_option linter.all false
set_option maxRecDepth 100000
set_option maxHeartbeats 400000
namespace LW
open PySem PySem.Spec PyProof.Rows L2 DL
def goodB : PyData → Bool
  | .tuple [x, .none] => nn x
  | .tuple [x, .tuple ws] => inW ws x
  | _ => false
abbrev menusB : List PyData := [.tuple mW, .none, .none, .none, .none, .tuple mS, .tuple mF, .tuple mD, .tuple mH]
/-- the loop's body -/
def BB : DS := dSeq (dIfS (dAnd (dTest (dOp (gIsN false) (dPeek 3) (dC .none))) (dOr (dNot (dTest (dFn0 fn__law_is_int (aCons (dVar 2) (aNil))))) (dTest (dOp gLt (dPeek 2) (dC (.int 0)))))) (dRet (dC (.bool false))) (dNext))
    (dIfS (dAnd (dTest (dOp (gIsN true) (dPeek 3) (dC .none))) (dOr (dNot (dTest (dIsi isStr (dPeek 2)))) (dTest (dOp (gIn true) (dPeek 2) (dPeek 3))))) (dRet (dC (.bool false))) (dNext))
abbrev gXY : DG := gT 2 (gsCons (gN 2) (gsCons (gN 3) (gsNil)))
def IB (d : PyData) (ρ : DEnv) : Prop := ∃ s2 s3 : DSlot, ρ = [.data d, .data (.list menusB), s2, s3]
theorem stepN {D : DEnds} {d x : PyData} {ρ : DEnv} {N : DEnv → Prop} (h : IB d ρ) (k : nn x = true → ∀ ρ', IB d ρ' → N ρ') (kf : nn x = false → D.rt (.bool false)) : gXY (.tuple [x, .none]) ρ fun ρ2 => BB { D with nx := N, ct := N, bk := D.nx } ρ2 := by
  obtain ⟨s2, s3, rfl⟩ := h
  refine ⟨rfl, (by decide : 2 < 4), (by decide : 3 < 4), rfl, ?_⟩
  refine ⟨rfl, true, rfl, iteT ?_⟩
  refine S_isint ?_
  cases e : (isInt x && !isBool x) with
  | false => exact ⟨false, rfl, iteT (iteT (kf (nn_no e)))⟩
  | true =>
    obtain ⟨i, rfl⟩ := isint_nn e
    refine ⟨true, rfl, iteF ⟨_, rfl, ?_⟩⟩
    refine ite2 (fun c => ?_) (fun c => ?_)
    · refine kf ?_
      have c : i < 0 := of_decide_eq_true c
      show decide (0 ≤ i) = false
      exact decide_eq_false (by omega)
    · have c : ¬ i < 0 := fun z => c (decide_eq_true z)
      refine ⟨rfl, false, rfl, iteF (iteF ?_)⟩
      exact k (show decide (0 ≤ i) = true from decide_eq_true (by omega)) _ ⟨_, _, rfl⟩
theorem stepW {D : DEnds} {d x : PyData} {ws : List PyData} (hf : ws.all flatD = true) {ρ : DEnv} {N : DEnv → Prop} (h : IB d ρ) (k : inW ws x = true → ∀ ρ', IB d ρ' → N ρ') (kf : inW ws x = false → D.rt (.bool false)) : gXY (.tuple [x, .tuple ws]) ρ fun ρ2 => BB { D with nx := N, ct := N, bk := D.nx } ρ2 := by
  obtain ⟨s2, s3, rfl⟩ := h
  refine ⟨rfl, (by decide : 2 < 4), (by decide : 3 < 4), rfl, ?_⟩
  refine ⟨rfl, false, rfl, iteF (iteF ?_)⟩
  refine ⟨rfl, true, rfl, iteT ⟨_, rfl, ?_⟩⟩
  cases e : isStr x with
  | false => exact iteT (iteT (kf (inW_no e)))
  | true =>
    obtain ⟨y, rfl⟩ := isStr_str e
    refine iteF ⟨rfl, hf, _, rfl, ?_⟩
    rw [Bool.true_xor]
    refine ite2 (fun c => kf ?_) (fun c => k ?_ _ ⟨_, _, rfl⟩)
    · simpa [inW] using c
    · simpa [inW] using c
theorem bookD_good (a b c d e f g h i : PyData) : bookD (.tuple [a, b, c, d, e, f, g, h, i]) = [PyData.tuple [a, .tuple mW], .tuple [b, .none], .tuple [c, .none], .tuple [d, .none], .tuple [e, .none], .tuple [f, .tuple mS], .tuple [g, .tuple mF], .tuple [h, .tuple mD], .tuple [i, .tuple mH]].all goodB := by
  show (nn b && nn c && nn d && nn e && inW mW a && inW mS f && inW mF g && inW mD h && inW mH i) = (inW mW a && (nn b && (nn c && (nn d && (nn e && (inW mS f && (inW mF g && (inW mD h && (inW mH i && true)))))))))
  cases inW mW a <;> cases nn b <;> cases nn c <;> cases nn d <;> cases nn e <;> simp [Bool.and_assoc]
theorem S_lawisbook {d : PyData} {Q : PyData → Prop} (h : Q (.bool (bookD d))) : fn__law_is_book [.data d] Q (fun _ => False) := by
  refine ⟨rfl, ?_⟩
  show g__law_is_book (ends0 Q fun _ => False) [.data d, .undef, .undef, .undef]
  refine ⟨(by decide : 1 < 4), le_line (by decide : 2 ≤ 1000000), le_line (by decide : 3 ≤ 1000000), le_line (by decide : 2 ≤ 1000000), le_line (by decide : 2 ≤ 1000000), le_line (by decide : 2 ≤ 1000000), le_line (by decide : 9 ≤ 1000000), ?_⟩
  refine ⟨_, rfl, ?_⟩
  cases e : isTup d with
  | false => rw [bookD_no e] at h; exact iteT (iteT h)
  | true =>
    obtain ⟨ds, rfl⟩ := isTup_tup e
    refine iteF ⟨eqOk_int _ _, _, rfl, ?_⟩
    rw [eqv_int]
    by_cases hl : ds.length = 9
    case neg =>
      rw [bookD_len hl] at h
      have : (!((ds.length : Int) == 9)) = true := by
        rw [show ((ds.length : Int) == 9) = false by rw [beq_eq_false_iff_ne]; omega]; rfl
      rw [this]
      exact iteT h
    obtain ⟨a, b, c, d, e5, f, g, h', i, rfl⟩ := nine hl
    refine iteF ?_
    show forD gXY BB _ [PyData.tuple [a, .tuple mW], .tuple [b, .none], .tuple [c, .none], .tuple [d, .none], .tuple [e5, .none], .tuple [f, .tuple mS], .tuple [g, .tuple mF], .tuple [h', .tuple mD], .tuple [i, .tuple mH]] [.data (.tuple [a, b, c, d, e5, f, g, h', i]), .data (.list menusB), .undef, .undef]
    rw [bookD_good] at h
    refine forD_all goodB (IB (.tuple [a, b, c, d, e5, f, g, h', i])) _ _ (fun z hz ρ N hI k kf => ?_) ⟨_, _, rfl⟩ (fun al ρ' _ => ?_) (fun al => ?_)
    · simp only [List.mem_cons, List.not_mem_nil, or_false] at hz
      rcases hz with rfl | rfl | rfl | rfl | rfl | rfl | rfl | rfl | rfl
      · exact stepW rfl hI k kf
      · exact stepN hI k kf
      · exact stepN hI k kf
      · exact stepN hI k kf
      · exact stepN hI k kf
      · exact stepW rfl hI k kf
      · exact stepW rfl hI k kf
      · exact stepW rfl hI k kf
      · exact stepW rfl hI k kf
    · rw [al] at h; exact h
    · rw [al] at h; exact h
end LW
set_option Elab.async false
set_option linter.all false
set_option maxRecDepth 100000
set_option maxHeartbeats 400000
namespace LW
open PySem PySem.Spec PyProof.Rows L2 DL
abbrev bk (way : Str) (up more down home : Int) (strike find drain hold : Str) : PyData := .tuple [.str way, .int up, .int more, .int down, .int home, .str strike, .str find, .str drain, .str hold]
def safeD (way : Str) (up more down home : Int) (strike find drain hold : Str) : Bool :=
  if (!(home == 1)) = true then false else if (!(up == down)) = true then false else if decide (up < 1) = true then false else if (way == "fresh") = true then true else if (!(more == 0)) = true then false else if (!(hold == "index")) = true then false else
  if (drain == "ahead") = true then (!(strike == "never") || !(find == "any")) else (find == "live" && !(strike == "always"))
section
variable {way : Str} {up more down home : Int} {strike find drain hold : Str} {Q : PyData → Prop}
theorem S_safe (h : Q (.bool (safeD way up more down home strike find drain hold))) : fn_is_safe [.data (bk way up more down home strike find drain hold)] Q (fun _ => False) := by
  refine ⟨rfl, ?_⟩
  show g_is_safe (ends0 Q fun _ => False) [.data (bk way up more down home strike find drain hold), .undef, .undef, .undef, .undef, .undef, .undef, .undef, .undef, .undef]
  refine ⟨rfl, (by decide : 1 < 10), (by decide : 2 < 10), (by decide : 3 < 10), (by decide : 4 < 10), (by decide : 5 < 10), (by decide : 6 < 10), (by decide : 7 < 10), (by decide : 8 < 10), (by decide : 9 < 10), rfl, ?_⟩
  unfold safeD at h
  refine ⟨eqOk_int _ _, _, rfl, ?_⟩
  rw [eqv_int]
  refine ite2 (fun c => iteT (by rw [if_pos c] at h; exact h)) fun c => ?_
  rw [if_neg c] at h
  refine ⟨eqOk_int _ _, _, rfl, ?_⟩
  rw [eqv_int]
  refine ite2 (fun c => iteT (by rw [if_pos c] at h; exact h)) fun c => ?_
  rw [if_neg c] at h
  refine ⟨_, rfl, ?_⟩
  refine ite2 (fun c => by rw [if_pos c] at h; exact h) fun c => ?_
  rw [if_neg c] at h
  refine ⟨eqOk_str _ _, _, rfl, ?_⟩
  rw [eqv_str]
  refine ite2 (fun c => by rw [if_pos c] at h; exact h) fun c => ?_
  rw [if_neg c] at h
  refine ⟨eqOk_int _ _, _, rfl, ?_⟩
  rw [eqv_int]
  refine ite2 (fun c => iteT (by rw [if_pos c] at h; exact h)) fun c => ?_
  rw [if_neg c] at h
  refine ⟨eqOk_str _ _, _, rfl, ?_⟩
  rw [eqv_str]
  refine ite2 (fun c => by rw [if_pos c] at h; exact h) fun c => ?_
  rw [if_neg c] at h
  refine ⟨eqOk_str _ _, _, rfl, ?_⟩
  rw [eqv_str]
  refine ite2 (fun c => ?_) fun c => ?_
  · rw [if_pos c] at h
    refine ⟨eqOk_str _ _, _, rfl, ?_⟩
    rw [eqv_str]
    refine ite2 (fun c => by rw [c] at h; exact h) fun c => ?_
    rw [(Bool.not_eq_true _).mp c, Bool.false_or] at h
    refine ⟨eqOk_str _ _, ?_⟩
    rw [eqv_str]
    exact h
  · rw [if_neg c] at h
    refine ⟨eqOk_str _ _, ?_⟩
    rw [eqv_str]
    refine and_read (fun c => ?_) fun c => ?_
    · rw [c, Bool.true_and] at h
      refine ⟨eqOk_str _ _, ?_⟩
      rw [eqv_str]
      exact h
    · rw [c, Bool.false_and] at h
      exact h
theorem S_lawsafe (h : Q (.bool (safeD way up more down home strike find drain hold))) : fn__law_is_safe [.data (bk way up more down home strike find drain hold)] Q (fun _ => False) := by
  refine ⟨rfl, ?_⟩
  show g__law_is_safe (ends0 Q fun _ => False) [.data (bk way up more down home strike find drain hold), .undef, .undef, .undef, .undef, .undef, .undef, .undef, .undef, .undef]
  refine ⟨rfl, (by decide : 1 < 10), (by decide : 2 < 10), (by decide : 3 < 10), (by decide : 4 < 10), (by decide : 5 < 10), (by decide : 6 < 10), (by decide : 7 < 10), (by decide : 8 < 10), (by decide : 9 < 10), rfl, ?_⟩
  unfold safeD at h
  refine ⟨eqOk_int _ _, _, rfl, ?_⟩
  rw [eqv_int]
  refine ite2 (fun c => iteT (by rw [if_pos c] at h; exact h)) fun c => ?_
  rw [if_neg c] at h
  refine ⟨eqOk_int _ _, _, rfl, ?_⟩
  rw [eqv_int]
  refine ite2 (fun c => iteT (by rw [if_pos c] at h; exact h)) fun c => ?_
  rw [if_neg c] at h
  refine ⟨_, rfl, ?_⟩
  refine ite2 (fun c => by rw [if_pos c] at h; exact h) fun c => ?_
  rw [if_neg c] at h
  refine ⟨eqOk_str _ _, _, rfl, ?_⟩
  rw [eqv_str]
  refine ite2 (fun c => by rw [if_pos c] at h; exact h) fun c => ?_
  rw [if_neg c] at h
  refine ⟨eqOk_int _ _, _, rfl, ?_⟩
  rw [eqv_int]
  refine ite2 (fun c => iteT (by rw [if_pos c] at h; exact h)) fun c => ?_
  rw [if_neg c] at h
  refine ⟨eqOk_str _ _, _, rfl, ?_⟩
  rw [eqv_str]
  refine ite2 (fun c => by rw [if_pos c] at h; exact h) fun c => ?_
  rw [if_neg c] at h
  refine ⟨eqOk_str _ _, _, rfl, ?_⟩
  rw [eqv_str]
  refine ite2 (fun c => ?_) fun c => ?_
  · rw [if_pos c] at h
    refine ⟨eqOk_str _ _, ?_⟩
    rw [eqv_str]
    refine ⟨_, rfl, ite2 (fun c => ?_) (fun c => ?_)⟩
    · rw [c] at h
      refine ⟨eqOk_str _ _, _, rfl, ?_⟩
      rw [eqv_str]
      exact h
    · rw [(Bool.not_eq_true _).mp c] at h
      exact ⟨_, rfl, h⟩
  · rw [if_neg c] at h
    refine ⟨eqOk_str _ _, ?_⟩
    rw [eqv_str]
    refine and_read (fun c => ?_) fun c => ?_
    · rw [c, Bool.true_and] at h
      refine ⟨eqOk_str _ _, ?_⟩
      rw [eqv_str]
      exact h
    · rw [c, Bool.false_and] at h
      exact h
end
end LW
set_option Elab.async false
set_option linter.all false
set_option maxRecDepth 100000
set_option maxHeartbeats 400000
namespace LW
open PySem PySem.Spec PyProof.Rows L2 DL
abbrev m4 : List PyData := [.int 0, .int 1, .int 2, .int 3]
def MN : List (List PyData) := [mW, m4, m4, m4, m4, mS, mF, mD, mH]
/-- a book as a list -/
def BookL (ds : List PyData) : Prop := ds.length = 9 ∧ ∀ (i : Nat) (x : PyData) (m : List PyData), ds[i]? = some x → MN[i]? = some m → x ∈ m
theorem BookL.put {ds : List PyData} (h : BookL ds) {i : Nat} {x : PyData} {m : List PyData} (hm : MN[i]? = some m) (hx : x ∈ m) : BookL (ds.set i x) := by
  refine ⟨by rw [List.length_set]; exact h.1, fun j y n hy hn => ?_⟩
  by_cases e : i = j
  · subst e
    rw [hm] at hn; cases hn
    have lt : i < ds.length := by
      have := (List.getElem?_eq_some_iff.mp hy).1
      rwa [List.length_set] at this
    rw [List.getElem?_set_self lt] at hy
    cases hy; exact hx
  · rw [List.getElem?_set_ne e] at hy
    exact h.2 j y n hy hn
theorem ixN_of {n : Nat} {k : Int} (h0 : 0 ≤ k) (h1 : k < n) : ixN n k = some k.toNat := by
  unfold ixN
  rw [if_pos h0, if_pos h1]
abbrev menusL : PyData := .list (MN.map PyData.list)
/-- one turn's change -/
def BS : DS := dSeq (dSet 9 (dFn0 fn__law_take (aBag 0 (aCons (dC (.int 9)) (aNil)))))
    (dSetIx 2 (dVar 9) (dFn0 fn__law_some (aBag 0 (aCons (dOp gIx (dPeek 3) (dPeek 9)) (aNil)))))
def IS (drain way many strike find : DSlot) (ρ : DEnv) : Prop := ∃ (ds : List PyData) (s4 s9 : DSlot), BookL ds ∧ ρ = [.bag, drain, .ownL ds, .data menusL, s4, way, many, strike, find, s9]
theorem stepS {D : DEnds} {drain way many strike find : DSlot} (d : PyData) (ρ : DEnv) (N : DEnv → Prop) (_ : True) (h : IS drain way many strike find ρ) (k : ∀ ρ', IS drain way many strike find ρ' → N ρ') : gN 4 d ρ fun ρ2 => BS { D with nx := N, ct := N, bk := D.nx } ρ2 := by
  obtain ⟨ds, s4, s9, hb, rfl⟩ := h
  refine ⟨(by decide : 4 < 10), (by decide : 9 < 10), ?_⟩
  refine S_take (by decide) (by decide) fun j j0 j1 => ?_
  have lt : j.toNat < MN.length := by show j.toNat < 9; omega
  have hm : MN[j.toNat]? = some MN[j.toNat] := List.getElem?_eq_getElem lt
  have ea : atI (MN.map PyData.list) j = some (.list MN[j.toNat]) := by
    have := atI_nat (xs := MN.map PyData.list) (j := j.toNat) (v := .list MN[j.toNat]) (by rw [List.getElem?_map, hm]; rfl)
    rwa [show ((j.toNat : Nat) : Int) = j by omega] at this
  have ne : ∀ m ∈ MN, m ≠ [] ∧ m.length < 1073741824 := by decide
  obtain ⟨n1, n2⟩ := ne _ (List.getElem_mem lt)
  refine ⟨_, ea, ?_⟩
  refine S_some n1 n2 fun x hx => ?_
  refine ⟨j, j.toNat, rfl, ?_, k _ ⟨_, _, _, hb.put hm hx, rfl⟩⟩
  rw [hb.1]
  exact ixN_of j0 j1
/-- behind the first list -/
def R2 : DS := (dSeq (dSet 3 (dOp gAdd (dOp gAdd (dFrz (dLst (dCons (dFrz (dLst (dCons (dC (.str "fresh")) (dCons (dC (.str "kept")) (dNil))))) (dNil)))) (dOp gMulA (dFrz (dLst (dCons (dFrz (dLst (dCons (dC (.int 0)) (dCons (dC (.int 1)) (dCons (dC (.int 2)) (dCons (dC (.int 3)) (dNil))))))) (dNil)))) (dC (.int 4)))) (dFrz (dLst (dCons (dFrz (dLst (dCons (dC (.str "always")) (dCons (dC (.str "never")) (dCons (dC (.str "own")) (dNil)))))) (dCons (dFrz (dLst (dCons (dC (.str "any")) (dCons (dC (.str "live")) (dNil))))) (dCons (dFrz (dLst (dCons (dC (.str "ahead")) (dCons (dC (.str "behind")) (dNil))))) (dCons (dFrz (dLst (dCons (dC (.str "address")) (dCons (dC (.str "index")) (dNil))))) (dNil)))))))))
    (dSeq (dFor (iR1 (dCons (dFn0 fn__law_some (aBag 0 (aCons (dFrz (dLst (dCons (dC (.int 0)) (dCons (dC (.int 1)) (dCons (dC (.int 1)) (dCons (dC (.int 2)) (dCons (dC (.int 5)) (dNil)))))))) (aNil)))) (dNil))) (gN 4) BS)
    (dRet (dCall gTuple (dCons (dPeek 2) (dNil))))))
theorem S_R2 {drain way many strike find : DSlot} {ds : List PyData} {Q : PyData → Prop} (hb : BookL ds) (h : ∀ ds, BookL ds → Q (.tuple ds)) : R2 (ends0 Q fun _ => False) [.bag, drain, .ownL ds, .undef, .undef, way, many, strike, find, .undef] := by
  have le : ∀ n, n ≤ 1000000 → n ≤ sizeLine := fun n h => le_line h
  refine ⟨(by decide : 3 < 10), le 2 (by decide), le 1 (by decide), le 4 (by decide), le 1 (by decide), (by decide), (by decide), le 4 (by decide), le 5 (by decide), ?_⟩
  refine ⟨le 3 (by decide), le 2 (by decide), le 2 (by decide), le 2 (by decide), le 4 (by decide), le 9 (by decide), ?_⟩
  refine ⟨le 5 (by decide), ?_⟩
  dsimp only [aNil, ends0]
  refine S_some (by simp) (by simp) fun t ht => ?_
  have : ∃ j : Int, t = .int j ∧ 0 ≤ j ∧ j ≤ 5 := by
    simp only [List.mem_cons, List.not_mem_nil, or_false] at ht
    rcases ht with rfl | rfl | rfl | rfl | rfl <;> exact ⟨_, rfl, by decide, by decide⟩
  obtain ⟨j, rfl, j0, j1⟩ := this
  refine ⟨j, rfl, by omega, by omega, ?_⟩
  refine forD_inv (g := gN 4) (body := BS) (IS drain way many strike find) (fun _ => True) stepS _ _ (fun _ _ => trivial) ⟨ds, _, _, hb, rfl⟩ fun ρ ⟨es, s4, s9, he, e⟩ => ?_
  subst e
  exact h es he
end LW
set_option Elab.async false
set_option linter.all false
set_option maxRecDepth 100000
set_option maxHeartbeats 400000
namespace LW
open PySem PySem.Spec PyProof.Rows L2 DL
theorem bookL_of {a b c d e f g h i : PyData} (ha : a ∈ mW) (hb : b ∈ m4) (hc : c ∈ m4) (hd : d ∈ m4) (he : e ∈ m4) (hf : f ∈ mS) (hg : g ∈ mF) (hh : h ∈ mD) (hi : i ∈ mH) : BookL [a, b, c, d, e, f, g, h, i] := by
  refine ⟨rfl, fun j x m hx hm => ?_⟩
  match j, hx, hm with
  | 0, hx, hm => cases hx; cases hm; exact ha
  | 1, hx, hm => cases hx; cases hm; exact hb
  | 2, hx, hm => cases hx; cases hm; exact hc
  | 3, hx, hm => cases hx; cases hm; exact hd
  | 4, hx, hm => cases hx; cases hm; exact he
  | 5, hx, hm => cases hx; cases hm; exact hf
  | 6, hx, hm => cases hx; cases hm; exact hg
  | 7, hx, hm => cases hx; cases hm; exact hh
  | 8, hx, hm => cases hx; cases hm; exact hi
  | n + 9, hx, hm => cases hx
/-- from strike and find on -/
def R1 : DS := (dSeq (dSetL 2 (dLst (dCons (dVar 5) (dCons (dVar 6) (dCons (dC (.int 0)) (dCons (dVar 6) (dCons (dC (.int 1)) (dCons (dVar 7) (dCons (dVar 8) (dCons (dVar 1) (dCons (dC (.str "index")) (dNil))))))))))))
    (dSeq (dIfS (dTest (dOp gEq (dPeek 5) (dC (.str "fresh")))) (dAsg (dTup (dCons (dFn0 fn__law_take (aBag 0 (aCons (dC (.int 3)) (aNil)))) (dCons (dFn0 fn__law_some (aBag 0 (aCons (dFrz (dLst (dCons (dC (.str "index")) (dCons (dC (.str "address")) (dNil))))) (aNil)))) (dNil)))) (gT 2 (gsCons (gIxE 2 (dC (.int 2))) (gsCons (gIxE 2 (dC (.int 8))) (gsNil))))) (dNext)) R2))
theorem S_R1 {x : Str} {drain many strike find : PyData} {Q : PyData → Prop} (hw : PyData.str x ∈ mW) (hm : many ∈ m4) (hs : strike ∈ mS) (hf : find ∈ mF) (hd : drain ∈ mD) (h : ∀ ds, BookL ds → Q (.tuple ds)) :
    R1 (ends0 Q fun _ => False) [.bag, .data drain, .undef, .undef, .undef, .data (.str x), .data many, .data strike, .data find, .undef] := by
  have le : ∀ n, n ≤ 1000000 → n ≤ sizeLine := fun n h => le_line h
  have b0 : BookL [.str x, many, .int 0, many, .int 1, strike, find, drain, .str "index"] := bookL_of hw hm (by simp) hm (by simp) hs hf hd (by simp)
  refine ⟨(by decide : 2 < 10), le 9 (by decide), ?_⟩
  refine ⟨eqOk_str _ _, _, rfl, ?_⟩
  refine ite2 (fun _ => ?_) fun _ => S_R2 b0 h
  refine S_take (by decide) (by decide) fun k k0 k1 => ?_
  refine ⟨le 2 (by decide), ?_⟩
  dsimp only [aNil, ends0]
  refine S_some (by simp) (by simp) fun y hy => ?_
  have yh : y ∈ mH := by
    simp only [List.mem_cons, List.not_mem_nil, or_false] at hy
    rcases hy with rfl | rfl <;> simp
  have k4 : PyData.int k ∈ m4 := by
    have : k = 0 ∨ k = 1 ∨ k = 2 := by omega
    rcases this with rfl | rfl | rfl <;> simp
  refine ⟨le 2 (by decide), rfl, 2, 2, rfl, rfl, 8, 8, rfl, rfl, rfl, ?_⟩
  exact S_R2 ((b0.put (i := 2) rfl k4).put (i := 8) rfl yh) h
theorem S_lawbook {Q : PyData → Prop} (h : ∀ ds, BookL ds → Q (.tuple ds)) : fn__law_book [.bag] Q (fun _ => False) := by
  have le : ∀ n, n ≤ 1000000 → n ≤ sizeLine := fun n h => le_line h
  refine ⟨rfl, ?_⟩
  show g__law_book (ends0 Q fun _ => False) [.bag, .undef, .undef, .undef, .undef, .undef, .undef, .undef, .undef, .undef]
  refine ⟨(by decide : 5 < 10), (by decide : 6 < 10), le 3 (by decide), ?_⟩
  dsimp only [aNil, ends0]
  refine S_some (by simp) (by simp) fun way hw => ?_
  refine ⟨le 4 (by decide), ?_⟩
  dsimp only [aNil]
  refine S_some (by simp) (by simp) fun many hm => ?_
  refine ⟨(by decide : 1 < 10), le 2 (by decide), ?_⟩
  dsimp only [aNil]
  refine S_some (by simp) (by simp) fun drain hd => ?_
  refine ⟨(by decide : 7 < 10), (by decide : 8 < 10), le 2 (by decide), ?_⟩
  dsimp only [aNil]
  refine S_some (by simp) (by simp) fun strike hs => ?_
  have hw' : ∃ x : Str, way = .str x ∧ PyData.str x ∈ mW := by
    simp only [List.mem_cons, List.not_mem_nil, or_false] at hw
    rcases hw with rfl | rfl | rfl <;> exact ⟨_, rfl, by simp⟩
  have hm' : many ∈ m4 := by
    simp only [List.mem_cons, List.not_mem_nil, or_false] at hm
    rcases hm with rfl | rfl | rfl | rfl <;> simp
  have hs' : strike ∈ mS := by
    simp only [List.mem_cons, List.not_mem_nil, or_false] at hs
    rcases hs with rfl | rfl <;> simp
  have hd' : ∃ y : Str, drain = .str y ∧ PyData.str y ∈ mD := by
    simp only [List.mem_cons, List.not_mem_nil, or_false] at hd
    rcases hd with rfl | rfl <;> exact ⟨_, rfl, by simp⟩
  obtain ⟨x, rfl, hx⟩ := hw'
  obtain ⟨y, rfl, hy⟩ := hd'
  refine ⟨eqOk_str _ _, _, rfl, ?_⟩
  refine ite2 (fun _ => ?_) fun _ => S_R1 hx hm' hs' (by simp) hy h
  refine ⟨le 2 (by decide), le 2 (by decide), le 2 (by decide), le 2 (by decide), le 2 (by decide), le 5 (by decide), ?_⟩
  dsimp only [aNil]
  refine S_some (by simp) (by simp) fun t ht => ?_
  have : ∃ s f, t = PyData.tuple [s, f] ∧ s ∈ mS ∧ f ∈ mF := by
    simp only [List.mem_cons, List.not_mem_nil, or_false] at ht
    rcases ht with rfl | rfl | rfl | rfl | rfl <;> exact ⟨_, _, rfl, by simp, by simp⟩
  obtain ⟨s, f, rfl, h1, h2⟩ := this
  refine ⟨rfl, (by decide : 7 < 10), (by decide : 8 < 10), rfl, ?_⟩
  exact S_R1 hx hm' h1 h2 hy h
end LW
set_option Elab.async false
set_option linter.all false
set_option maxRecDepth 100000
set_option maxHeartbeats 400000
namespace LW
open PySem PySem.Spec PyProof.Rows L2 DL
theorem mem_strs {d : PyData} {ws : List PyData} (hw : ws.all isStr = true) (h : d ∈ ws) : ∃ x : Str, d = .str x := isStr_str (List.all_eq_true.mp hw d h)
theorem mem_m4 {d : PyData} (h : d ∈ m4) : ∃ i : Int, d = .int i ∧ 0 ≤ i ∧ i ≤ 3 := by
  simp only [List.mem_cons, List.not_mem_nil, or_false] at h
  rcases h with rfl | rfl | rfl | rfl <;> exact ⟨_, rfl, by decide, by decide⟩
/-- a book's parts -/
structure Bk (way : Str) (up more down home : Int) (strike find drain hold : Str) : Prop where
  way : PyData.str way ∈ mW
  up : 0 ≤ up ∧ up ≤ 3
  more : 0 ≤ more ∧ more ≤ 3
  down : 0 ≤ down ∧ down ≤ 3
  home : 0 ≤ home ∧ home ≤ 3
  strike : PyData.str strike ∈ mS
  find : PyData.str find ∈ mF
  drain : PyData.str drain ∈ mD
  hold : PyData.str hold ∈ mH
theorem BookL.parts {ds : List PyData} (h : BookL ds) : ∃ way up more down home strike find drain hold, .tuple ds = bk way up more down home strike find drain hold ∧ Bk way up more down home strike find drain hold := by
  obtain ⟨a, b, c, d, e, f, g, h', i, rfl⟩ := nine h.1
  have ha := h.2 0 a mW rfl rfl
  have hf := h.2 5 f mS rfl rfl
  have hg := h.2 6 g mF rfl rfl
  have hh := h.2 7 h' mD rfl rfl
  have hi := h.2 8 i mH rfl rfl
  obtain ⟨way, rfl⟩ := mem_strs rfl ha
  obtain ⟨strike, rfl⟩ := mem_strs rfl hf
  obtain ⟨find, rfl⟩ := mem_strs rfl hg
  obtain ⟨drain, rfl⟩ := mem_strs rfl hh
  obtain ⟨hold, rfl⟩ := mem_strs rfl hi
  obtain ⟨up, rfl, u⟩ := mem_m4 (h.2 1 b m4 rfl rfl)
  obtain ⟨more, rfl, m⟩ := mem_m4 (h.2 2 c m4 rfl rfl)
  obtain ⟨down, rfl, n⟩ := mem_m4 (h.2 3 d m4 rfl rfl)
  obtain ⟨home, rfl, o⟩ := mem_m4 (h.2 4 e m4 rfl rfl)
  exact ⟨way, up, more, down, home, strike, find, drain, hold, rfl, ha, u, m, n, o, hf, hg, hh, hi⟩
theorem inW_mem {x : Str} {ws : List PyData} (h : PyData.str x ∈ ws) : inW ws (.str x) = true :=
  List.any_eq_true.mpr ⟨_, h, by rw [eqv_str, beq_self_eq_true]⟩
theorem bookD_bk {way : Str} {up more down home up' more' down' : Int} {strike find drain hold : Str} (h : Bk way up more down home strike find drain hold) (h1 : 0 ≤ up') (h2 : 0 ≤ more') (h3 : 0 ≤ down') : bookD (bk way up' more' down' home strike find drain hold) = true := by
  show (decide (0 ≤ up') && decide (0 ≤ more') && decide (0 ≤ down') && decide (0 ≤ home) && inW mW (.str way) && inW mS (.str strike) && inW mF (.str find) && inW mD (.str drain) && inW mH (.str hold)) = true
  rw [inW_mem h.way, inW_mem h.strike, inW_mem h.find, inW_mem h.drain, inW_mem h.hold, decide_eq_true h1, decide_eq_true h2, decide_eq_true h3, decide_eq_true h.home.1]
  rfl
/-- for one in (book, great) -/
def L1 : DS := dIfS (dNot (dTest (dFn0 fn__law_alike (aCons (dFrz (dLst (dCons (dFn0 fn_is_book (aCons (dVar 6) (aNil))) (dCons (dFn0 fn_is_safe (aCons (dVar 6) (aNil))) (dNil))))) (aCons (dFrz (dLst (dCons (dC (.bool true)) (dCons (dFn0 fn__law_is_safe (aCons (dVar 6) (aNil))) (dNil))))) (aNil)))))) (dRet (dC (.bool false))) (dNext)
def J1 (book : PyData) (at' : Int) (ρ : DEnv) : Prop := ∃ s2 s5 s6 s7 s8 s9 : DSlot, ρ = [.undef, .bag, s2, .data book, .data (.int at'), s5, s6, s7, s8, s9]
theorem shows_two (b : Bool) : Shows (.list [.bool true, .bool b]) := by cases b <;> exact ⟨rfl, by decide, by decide +kernel⟩
def IsBk (d : PyData) : Prop := ∃ way up more down home strike find drain hold, d = bk way up more down home strike find drain hold ∧ bookD d = true
theorem step1 {D : DEnds} {book : PyData} {at' : Int} (d : PyData) (ρ : DEnv) (N : DEnv → Prop) (hd : IsBk d) (h : J1 book at' ρ) (k : ∀ ρ', J1 book at' ρ' → N ρ') : gN 6 d ρ fun ρ2 => L1 { D with nx := N, ct := N, bk := D.nx } ρ2 := by
  obtain ⟨way, up, more, down, home, strike, find, drain, hold, rfl, hb⟩ := hd
  obtain ⟨s2, s5, s6, s7, s8, s9, rfl⟩ := h
  refine ⟨(by decide : 6 < 10), ?_⟩
  refine S_isbook ?_
  rw [hb]
  refine S_safe ⟨le_line (by decide : 2 ≤ 1000000), ?_⟩
  refine S_lawsafe ⟨le_line (by decide : 2 ≤ 1000000), ?_⟩
  refine S_alike_same rfl (shows_two _) ⟨true, rfl, iteF ?_⟩
  exact k _ ⟨_, _, _, _, _, _, rfl⟩
/-- for thing in things -/
def L2' : DS := (dSeq (dSet 9 (dCall gRepr (dCons (dPeek 8) (dNil))))
    (dIfS (dOr (dNot (dTest (dFn0 fn__law_alike (aCons (dFn0 fn_is_book (aCons (dVar 8) (aNil))) (aCons (dFn0 fn__law_is_book (aCons (dVar 8) (aNil))) (aNil)))))) (dTest (dOp gNe (dCall gRepr (dCons (dPeek 8) (dNil))) (dPeek 9)))) (dRet (dC (.bool false))) (dNext)))
def J2 (ρ : DEnv) : Prop := ∃ s2 s3 s4 s5 s6 s7 s8 s9 : DSlot, ρ = [.undef, .bag, s2, s3, s4, s5, s6, s7, s8, s9]
theorem shows_bool' (b : Bool) : Shows (.bool b) := by cases b <;> exact ⟨rfl, by decide, by decide +kernel⟩
theorem step2 {D : DEnds} (d : PyData) (ρ : DEnv) (N : DEnv → Prop) (hd : Shows d) (h : J2 ρ) (k : ∀ ρ', J2 ρ' → N ρ') : gN 8 d ρ fun ρ2 => L2' { D with nx := N, ct := N, bk := D.nx } ρ2 := by
  obtain ⟨s2, s3, s4, s5, s6, s7, s8, s9, rfl⟩ := h
  have dd : d.depth ≤ 100 := Nat.le_trans hd.deep (by decide)
  refine ⟨(by decide : 8 < 10), (by decide : 9 < 10), hd.ok, dd, hd.len, ?_⟩
  refine S_isbook (S_lawisbook ?_)
  refine S_alike_same rfl (shows_bool' _) ⟨true, rfl, iteF ?_⟩
  refine ⟨hd.ok, dd, hd.len, eqOk_str _ _, _, rfl, ?_⟩
  rw [eqv_str, beq_self_eq_true]
  exact iteF (k _ ⟨_, _, _, _, _, _, _, _, rfl⟩)
theorem leaf_strs : ∀ d ∈ mW ++ mS ++ mF ++ mD ++ mH, ∃ x, d = .str x ∧ leafS x = true := by
  have : ((mW ++ mS ++ mF ++ mD ++ mH).all fun d => match d with | .str x => leafS x | _ => false) = true := by decide +kernel
  intro d hd
  have q := List.all_eq_true.mp this d hd
  cases d with
  | str x => exact ⟨x, rfl, q⟩
  | _ => cases q
theorem leaf_str {x : Str} (h : PyData.str x ∈ mW ++ mS ++ mF ++ mD ++ mH) : leafS x = true := by
  obtain ⟨y, e, q⟩ := leaf_strs _ h
  cases e; exact q
theorem leaf_int {i : Int} (h0 : 0 ≤ i) (h1 : i ≤ 3) : leafI i = true := by
  have : ((List.range 4).all fun n => leafI (n : Nat)) = true := by decide +kernel
  have q := List.all_eq_true.mp this i.toNat (List.mem_range.mpr (by omega))
  rwa [show ((i.toNat : Nat) : Int) = i by omega] at q
theorem bk_nst {way : Str} {up more down home : Int} {strike find drain hold : Str} (h : Bk way up more down home strike find drain hold) : Nst 1 (bk way up more down home strike find drain hold) := by
  refine .tup (by decide : 9 ≤ 10) fun d hd => ?_
  have w := h.way; have s := h.strike; have f := h.find; have r := h.drain; have o := h.hold
  simp only [List.mem_cons, List.not_mem_nil, or_false] at hd
  rcases hd with rfl | rfl | rfl | rfl | rfl | rfl | rfl | rfl | rfl
  · exact .str (leaf_str (by simp only [List.mem_append]; simp [w]))
  · exact .int (leaf_int h.up.1 h.up.2)
  · exact .int (leaf_int h.more.1 h.more.2)
  · exact .int (leaf_int h.down.1 h.down.2)
  · exact .int (leaf_int h.home.1 h.home.2)
  · exact .str (leaf_str (by simp only [List.mem_append]; simp [s]))
  · exact .str (leaf_str (by simp only [List.mem_append]; simp [f]))
  · exact .str (leaf_str (by simp only [List.mem_append]; simp [r]))
  · exact .str (leaf_str (by simp only [List.mem_append]; simp [o]))
end LW
set_option Elab.async false
set_option linter.all false
set_option maxRecDepth 100000
set_option maxHeartbeats 400000
namespace LW
open PySem PySem.Spec PyProof.Rows L2 DL
/-- the things of a turn, looked at -/
def TH : DS := (dSeq (dSet 7 (dFrz (dLst (dCons (dFrz (dCallF gList (dCons (dPeek 3) (dNil)))) (dCons (dSl gSl (dPeek 3) (dNoPt) (dPt (dC (.int 8)))) (dCons (dOp gAdd (dPeek 3) (dTup (dCons (dC (.str "own")) (dNil)))) (dCons (dRev (dPeek 3)) (dCons (dOp gAdd (dOp gAdd (dSl gSl (dPeek 3) (dNoPt) (dPt (dVar 4))) (dTup (dCons (dFn0 fn__law_odd (aBag 1 (aNil))) (dNil)))) (dSl gSl (dPeek 3) (dPt (dOp gAdd (dPeek 4) (dC (.int 1)))) (dNoPt))) (dCons (dFn0 fn__law_odd (aBag 1 (aNil))) (dCons (dFn0 (fn__law_bent 6) (aBag 1 (aCons (dVar 3) (aCons (dC (.int 2)) (aNil))))) (dNil)))))))))))
    (dFor (iSeq (dVar 7)) (gN 8) L2'))
theorem things {D : DEnds} {N : DEnv → Prop} {ds : List PyData} {at' : Int} {s2 s5 s6 s7 s8 s9 : DSlot} (len9 : ds.length = 9) (a0 : 0 ≤ at') (a1 : at' < 9) (N9 : Nst 1 (.tuple ds)) (k : ∀ ρ', J2 ρ' → N ρ') :
    TH { D with nx := N, ct := N, bk := D.nx } [.undef, .bag, s2, .data (.tuple ds), .data (.int at'), s5, s6, s7, s8, s9] := by
  have le : ∀ n, n ≤ 1000000 → n ≤ sizeLine := fun n h => le_line h
  have sl : (1000000 : Nat) ≤ sizeLine := by decide
  have all9 : ∀ d ∈ ds, Fit 3 200 d := by
    cases N9 with
    | tup _ hall => exact fun d hd => nst_fit (j := 0) (hall d hd)
  have cl := cutD_len ds
  refine ⟨(by decide : 7 < 10), 8, rfl, le 1 (by decide), (by show ds.length + 1 ≤ sizeLine; omega), at', rfl, ?_⟩
  refine S_odd fun o1 ho1 => ?_
  have c1 := cl none (some at'); have c2 := cl (some (at' + 1)) none
  refine ⟨le 1 (by decide), (by show (DL.cutD ds none (some at')).length + 1 ≤ sizeLine; omega), at' + 1, rfl, ?_, ?_⟩
  · show (DL.cutD ds none (some at') ++ [o1]).length + (DL.cutD ds (some (at' + 1)) none).length ≤ sizeLine
    rw [List.length_append, List.length_singleton]; omega
  refine S_odd fun o2 ho2 => ?_
  refine S_bent 6 2 1 _ _ (by decide) N9 fun b hb => ?_
  refine ⟨le 7 (by decide), ?_⟩
  refine forD_inv J2 Shows step2 _ _ (fun x hx => ?_) ⟨_, _, _, _, _, _, _, _, rfl⟩ k
  have mem : ∀ lo hi, ∀ d ∈ DL.cutD ds lo hi, Fit 3 200 d := fun lo hi d hd => all9 d (List.mem_of_mem_drop (List.mem_of_mem_take hd))
  have st : ∀ {ds : List PyData}, (∀ d ∈ ds, Fit 3 200 d) → ds.length ≤ 24 → Shows (.tuple ds) := fun h hl => (fit_tuple h hl).shows (by decide) (by decide)
  simp only [List.mem_cons, List.not_mem_nil, or_false] at hx
  rcases hx with rfl | rfl | rfl | rfl | rfl | rfl | rfl
  · exact (fit_list all9 (by omega : ds.length ≤ 24)).shows (by decide) (by decide)
  · exact st (mem _ _) (Nat.le_trans (cl _ _) (by omega))
  · refine st (fun d hd => (List.mem_append.mp hd).elim (all9 d) fun hd => ?_) (by rw [List.length_append, List.length_singleton]; omega)
    rw [List.mem_singleton.mp hd]
    exact fit_of (by decide +kernel)
  · exact st (fun d hd => all9 d (List.mem_reverse.mp hd)) (by rw [List.length_reverse]; omega)
  · refine st (fun d hd => ?_) (by rw [List.length_append, List.length_append, List.length_singleton]; omega)
    rcases List.mem_append.mp hd with hd | hd
    · rcases List.mem_append.mp hd with hd | hd
      · exact mem _ _ d hd
      · rw [List.mem_singleton.mp hd]; exact odds_fit _ ho1
    · exact mem _ _ d hd
  · exact (odds_fit _ ho2).shows (by decide) (by decide)
  · exact hb.shows (by decide) (by decide)
/-- one turn -/
def BT : DS := (dSeq (dSet 3 (dFn0 fn__law_book (aBag 1 (aNil))))
    (dSeq (dSet 4 (dFn0 fn__law_take (aBag 1 (aCons (dC (.int 9)) (aNil)))))
    (dSeq (dSet 5 (dOp gAdd (dOp gAdd (dSl gSl (dPeek 3) (dNoPt) (dPt (dC (.int 1)))) (dTup (dCons (dOp gPow (dC (.int 10)) (dC (.int 30))) (dCons (dC (.int 0)) (dCons (dOp gPow (dC (.int 10)) (dC (.int 30))) (dNil)))))) (dSl gSl (dPeek 3) (dPt (dC (.int 4))) (dNoPt))))
    (dSeq (dFor (iSeq (dTup (dCons (dVar 3) (dCons (dVar 5) (dNil))))) (gN 6) L1)
    (dSeq (dSet 7 (dFrz (dLst (dCons (dFrz (dCallF gList (dCons (dPeek 3) (dNil)))) (dCons (dSl gSl (dPeek 3) (dNoPt) (dPt (dC (.int 8)))) (dCons (dOp gAdd (dPeek 3) (dTup (dCons (dC (.str "own")) (dNil)))) (dCons (dRev (dPeek 3)) (dCons (dOp gAdd (dOp gAdd (dSl gSl (dPeek 3) (dNoPt) (dPt (dVar 4))) (dTup (dCons (dFn0 fn__law_odd (aBag 1 (aNil))) (dNil)))) (dSl gSl (dPeek 3) (dPt (dOp gAdd (dPeek 4) (dC (.int 1)))) (dNoPt))) (dCons (dFn0 fn__law_odd (aBag 1 (aNil))) (dCons (dFn0 (fn__law_bent 6) (aBag 1 (aCons (dVar 3) (aCons (dC (.int 2)) (aNil))))) (dNil)))))))))))
    (dFor (iSeq (dVar 7)) (gN 8) L2'))))))
theorem turn {D : DEnds} (d : PyData) (ρ : DEnv) (N : DEnv → Prop) (_ : True) (h : J2 ρ) (k : ∀ ρ', J2 ρ' → N ρ') : gN 2 d ρ fun ρ2 => BT { D with nx := N, ct := N, bk := D.nx } ρ2 := by
  have le : ∀ n, n ≤ 1000000 → n ≤ sizeLine := fun n h => le_line h
  obtain ⟨s2, s3, s4, s5, s6, s7, s8, s9, rfl⟩ := h
  refine ⟨(by decide : 2 < 10), (by decide : 3 < 10), ?_⟩
  refine S_lawbook fun ds hb => ?_
  obtain ⟨way, up, more, down, home, strike, find, drain, hold, e, B⟩ := hb.parts
  have e' : ds = [.str way, .int up, .int more, .int down, .int home, .str strike, .str find, .str drain, .str hold] := by injection e
  subst e'
  refine ⟨(by decide : 4 < 10), ?_⟩
  refine S_take (by decide) (by decide) fun at' a0 a1 => ?_
  refine ⟨(by decide : 5 < 10), 1, rfl, ⟨by decide, by decide, by decide⟩, ⟨by decide, by decide, by decide⟩, le 3 (by decide), le 4 (by decide), 4, rfl, le 9 (by decide), ?_⟩
  -- the book, and a great one
  refine ⟨le 2 (by decide), ?_⟩
  have g1 : IsBk (bk way up more down home strike find drain hold) := ⟨_, _, _, _, _, _, _, _, _, rfl, bookD_bk B B.up.1 B.more.1 B.down.1⟩
  have g2 : IsBk (bk way ((10 : Int) ^ (30 : Int).toNat) 0 ((10 : Int) ^ (30 : Int).toNat) home strike find drain hold) := ⟨_, _, _, _, _, _, _, _, _, rfl, bookD_bk B (by decide) (by decide) (by decide)⟩
  refine forD_inv (J1 (bk way up more down home strike find drain hold) at') IsBk step1 _ _ (fun x hx => ?_) ⟨_, _, _, _, _, _, rfl⟩ fun ρ hρ => ?_
  · rcases List.mem_cons.mp hx with rfl | hx
    · exact g1
    · rw [List.mem_singleton.mp hx]; exact g2
  obtain ⟨s2, s5, s6, s7, s8, s9, rfl⟩ := hρ
  exact things rfl a0 a1 (bk_nst B) k
theorem law_true : g_law (ends0 (fun d => d = .bool true) fun _ => False) (.undef :: .bag :: List.replicate 8 .undef) := by
  refine ⟨12, rfl, by decide, by decide, ?_⟩
  exact forD_inv (g := gN 2) (body := BT) J2 (fun _ => True) turn _ _ (fun _ _ => trivial) ⟨_, _, _, _, _, _, _, _, rfl⟩ fun ρ _ => rfl
end LW
open PySem PySem.W PyProof.Rows
set_option maxRecDepth 100000 in
set_option maxHeartbeats 0 in
theorem PySem.Challenge.cw_besidealone_k28_books_and_what_makes_the_holds : PySem.Challenge.rw_besidealone_k28_books_and_what_makes_the.Holds := by
  w_on; o_law; k_head; (case hw => w_witness2)
  k_fill
  refine DL.walk_g (k := 11) (x := "script") (l := PySem.Challenge.rw_besidealone_k28_books_and_what_makes_the) rfl rfl ⟨⟨rfl, by decide, by decide⟩, rfl⟩ (fun w h Y => PySem.W.kIn_of Y) ?F
  case F =>
    intro w mg fa h KX G hmg
    refine' LW.all_mk LW.law_true KX G hmg ?a0 ?l0 ?c0 ?k0 ?a1 ?l1 ?c1 ?k1 ?a2 ?l2 ?c2 ?k2 ?a3 ?l3 ?c3 ?k3 ?a4 ?l4 ?c4 ?k4 ?a5 ?l5 ?c5 ?k5 ?a6 ?l6 ?c6 ?k6 ?a7 ?l7 ?c7 ?k7 ?a8 ?l8 ?c8 ?k8 ?a9 ?l9 ?c9 ?k9 ?a10 ?l10 ?c10 ?k10 ?a11 ?l11 ?c11 ?k11 ?a12 ?l12 ?c12 ?k12 ?a13 ?l13 ?c13 ?k13 ?a14 ?l14 ?c14 ?k14 ?a15 ?l15 ?c15 ?k15 ?a16 ?l16 ?c16 ?k16 ?z_abs ?z_int ?z_len ?z_range ?z_tuple ?z_isinstance ?z_bool ?z_str ?z_dict ?z_list ?z_repr ?z_all ?z_zip ?v_WAYS ?w_WAYS ?v_STRIKES ?w_STRIKES ?v_FINDS ?w_FINDS ?v_DRAINS ?w_DRAINS ?v_HOLDS ?w_HOLDS
    (case a0 => k_is)
    (case l0 => k_is)
    (case c0 => k_is)
    (case k0 => k_is)
    (case a1 => k_is)
    (case l1 => k_is)
    (case c1 => k_is)
    (case k1 => k_is)
    (case a2 => k_is)
    (case l2 => k_is)
    (case c2 => k_is)
    (case k2 => k_is)
    (case a3 => k_is)
    (case l3 => k_is)
    (case c3 => k_is)
    (case k3 => k_is)
    (case a4 => k_is)
    (case l4 => k_is)
    (case c4 => k_is)
    (case k4 => k_is)
    (case a5 => k_is)
    (case l5 => k_is)
    (case c5 => k_is)
    (case k5 => k_is)
    (case a6 => k_is)
    (case l6 => k_is)
    (case c6 => k_is)
    (case k6 => k_is)
    (case a7 => k_is)
    (case l7 => k_is)
    (case c7 => k_is)
    (case k7 => k_is)
    (case a8 => k_is)
    (case l8 => k_is)
    (case c8 => k_is)
    (case k8 => k_is)
    (case a9 => k_is)
    (case l9 => k_is)
    (case c9 => k_is)
    (case k9 => k_is)
    (case a10 => k_is)
    (case l10 => k_is)
    (case c10 => k_is)
    (case k10 => k_is)
    (case a11 => k_is)
    (case l11 => k_is)
    (case c11 => k_is)
    (case k11 => k_is)
    (case a12 => k_is)
    (case l12 => k_is)
    (case c12 => k_is)
    (case k12 => k_is)
    (case a13 => k_is)
    (case l13 => k_is)
    (case c13 => k_is)
    (case k13 => k_is)
    (case a14 => k_is)
    (case l14 => k_is)
    (case c14 => k_is)
    (case k14 => k_is)
    (case a15 => k_is)
    (case l15 => k_is)
    (case c15 => k_is)
    (case k15 => k_is)
    (case a16 => k_is)
    (case l16 => k_is)
    (case c16 => k_is)
    (case k16 => k_is)
    (case z_abs => k_is)
    (case z_int => k_is)
    (case z_len => k_is)
    (case z_range => k_is)
    (case z_tuple => k_is)
    (case z_isinstance => k_is)
    (case z_bool => k_is)
    (case z_str => k_is)
    (case z_dict => k_is)
    (case z_list => k_is)
    (case z_repr => k_is)
    (case z_all => k_is)
    (case z_zip => k_is)
    (case v_WAYS => k_is)
    (case w_WAYS => k_is)
    (case v_STRIKES => k_is)
    (case w_STRIKES => k_is)
    (case v_FINDS => k_is)
    (case w_FINDS => k_is)
    (case v_DRAINS => k_is)
    (case w_DRAINS => k_is)
    (case v_HOLDS => k_is)
    (case w_HOLDS => k_is)
#print axioms PySem.Challenge.cw_besidealone_k28_books_and_what_makes_the_holds
