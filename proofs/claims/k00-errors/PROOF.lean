import PyProof.Rows.All
import Wide.All
import OpenK.AllK
import Wide.FinOn
import HandS.ForMost
import HandS.TupAny
import HandS.Exc
import HandS.Lambda
import HandS.ExcOwn
import HandS.IsInst
import HandS.More
import KE.KeyNested
import HandS.Slots
import HandS.Walk
import HandS.Zip
import HandS.EndBits
import HandS.Style
import HandS.TupMul
import HandS.Deep
import KE.DataEq
import KE.SortData
import PyProof.DictMoreH
import KE.KDictPairs
import HandS.WordsExc
import HandS.Conv
import HandS.SetFor
import KE.GoesMore
import HandS.ExcInit
import HandS.ExcField
import HandS.DictComp
import HandS.ExcValue
import HandS.ExcIs
import KE.KExcIs
import KE.KEqNest
import PySem.Challenge.RW_besidealone_k00_errors_of_any_values
set_option Elab.async false
set_option linter.all false
set_option maxRecDepth 100000
set_option maxHeartbeats 4000000
/-! DT, strong tuples: tuples whose one object is known to have no dict of its own; every rule that makes one gives such -/
namespace DL
open PySem PySem.Spec PyProof.Rows L2
/-- the module's frame and the world -/
structure KW where
  K : PySem.W.Frag
  w : World
abbrev _root_.L2.Cx.kw (X : Cx) : KW := ⟨X.K, X.w⟩
/-- a tuple of which the object is known: it has no dict of its own -/
def StT (K : PySem.W.Frag) (H : Hp) (a : Addr) (xs : List V) : Prop :=
  (∃ o, H a = some (.frz o (.tup xs)) ∧ o.dict = none) ∨
    ∃ (o : Obj) (its : Array Value) (n : Nat), K.lookup a = some o ∧ o.cls = .type "tuple" ∧ o.dict = none ∧ o.data = .seq its n ∧ its.size ≤ sizeLine ∧ Vals xs its.toList
theorem StT.sq {K : PySem.W.Frag} {H : Hp} {a : Addr} {xs : List V} (h : StT K H a xs) : SqT K H a xs := by
  rcases h with ⟨o, h, _⟩ | ⟨o, its, n, h1, h2, h3, h4, h5, h6⟩
  · exact .inl (.inr ⟨o, h⟩)
  · exact .inr ⟨o, its, n, h1, h2, h4, h5, h6⟩
theorem StT.mono {K : PySem.W.Frag} {F F' : Hp} {a : Addr} {xs : List V} (s : Same F F') (h : StT K F a xs) : StT K F' a xs := by
  rcases h with ⟨o, h, d⟩ | h
  · exact .inl ⟨o, s _ _ h, d⟩
  · exact .inr h
theorem StT.of {K : PySem.W.Frag} {H : Hp} {a : Addr} {xs : List V} {o : Obj} (h : H a = some (.frz o (.tup xs))) (d : o.dict = none) : StT K H a xs := .inl ⟨o, h, d⟩
/-- a new strong tuple -/
def NewT (H : Hp) (Q : VK) (xs : List V) : Prop := ∀ (p : Addr) (o : Obj), H p = none → o.dict = none → Q (.ref p) (upd H p (.frz o (.tup xs)))
section
variable {X : Cx} {pins : List (Addr × Obj)} {σ : L2.St} {H : Hp} {s : Shared}
abbrev tupObj (its : Array Value) : Obj := { cls := .type "tuple", data := .seq its }
theorem _root_.L2.Inv.laidT {xs : List V} {its : List Value} (I : Inv X pins σ H s) (r : Vals xs its) (hz : xs.length ≤ sizeLine) :
    Inv X pins σ (upd H s.heap.objs.size (.frz (tupObj its.toArray) (.tup xs))) { s with heap := s.heap.push (tupObj its.toArray) } :=
  I.laid (t' := s.toks) (o := .frz (tupObj its.toArray) (.tup xs)) (fun b ob q => Heap.get?_push_of_some _ q) (Nat.le_refl _) ⟨Heap.get?_push_size _ rfl, hz, its, r, IsTup.new _ _⟩
theorem _root_.L2.Inv.newT {xs : List V} {its : List Value} {Q : VK} (I : Inv X pins σ H s) (r : Vals xs its) (hz : xs.length ≤ sizeLine) (q : NewT H Q xs) :
    EP X pins σ Q (.ref s.heap.objs.size) { s with heap := s.heap.push (tupObj its.toArray) } :=
  ⟨.ref s.heap.objs.size, _, I.laidT r hz, rfl, q _ (tupObj its.toArray) (I.hok.fresh (Nat.le_refl _)) rfl⟩
theorem _root_.L2.Inv.stt {a : Addr} {xs : List V} (I : Inv X pins σ H s) (h : StT X.K H a xs) : ∃ (its : List Value) (o : Obj) (n : Nat), Vals xs its ∧ s.heap.get? a = some o ∧ o.cls = .type "tuple" ∧ o.dict = none ∧ o.data = .seq its.toArray n ∧ xs.length ≤ sizeLine := by
  rcases h with ⟨o, h, d⟩ | ⟨o, its, n, hk, hc, hd, hs, hz, r⟩
  · obtain ⟨e, z, its, r, o', e', hc, n, hs⟩ := (show ObjOk X.prog X.w H s.heap a (.frz o (.tup xs)) from I.hok a _ h)
    rw [e] at e'; cases e'
    exact ⟨its, o, n, r, e, hc, d, hs, z⟩
  · refine ⟨its.toList, o, n, r, I.kIn a o hk, hc, hd, by simpa using hs, ?_⟩
    have e := r.length
    simp only [Array.length_toList] at e
    omega
variable {es : List Expr} {t : TA} {pos : Pos}
def tTupS (t : TA) : TE := fun σ H Q => t σ H fun xs H1 => xs.length ≤ sizeLine ∧ NewT H1 Q xs
theorem pe_tupS {x1} (h : PA X es t) : PE X (.Tuple es x1 pos) (tTupS t) := by
  refine ⟨fun pins s σ H Q I hq => ?_⟩
  refine wpAny_Tuple_spliced (thn (h.run pos pins s σ H _ I hq) fun us s1 ⟨xs, H1, I1, r, z, q⟩ => ⟨by rw [← r.length]; exact z, ?_⟩)
  exact I1.newT r z q
/-- t + u -/
def rCatS (K : PySem.W.Frag) : R2 := fun x y H Q => ∃ a b xs ys, x = .ref a ∧ y = .ref b ∧ SqT K H a xs ∧ SqT K H b ys ∧ xs.length + ys.length ≤ sizeLine ∧
  (xs = [] → Q (.ref b) H) ∧ (xs ≠ [] → ys = [] → Q (.ref a) H) ∧ (xs ≠ [] → ys ≠ [] → NewT H Q (xs ++ ys))
theorem op_catS : OpR X (binaryOp .Add) (rCatS X.K) := by
  intro pins s σ H x y v u Q I rx ry h
  obtain ⟨a, b, xs, ys, rfl, rfl, ha, hb, hz, q0, q1, q2⟩ := h
  cases rx
  cases ry
  obtain ⟨its, r1, p1, _⟩ := I.tuple ha
  obtain ⟨its2, r2, p2, _⟩ := I.tuple hb
  by_cases hx : xs = []
  · subst hx
    cases r1
    exact cat_tup0 p1 p2 ⟨.ref b, H, I, rfl, q0 rfl⟩
  · refine HT.cat_tup p1 p2 (fun z => hx (r1.nil_iff.mp z)) (fun z => ⟨.ref a, H, I, rfl, q1 hx (r2.nil_iff.mp z)⟩) (fun z => ?_) (by rw [← r1.length, ← r2.length]; exact hz)
    exact I.newT (r1.append r2) (by rw [List.length_append]; exact hz) (q2 hx fun w => z (r2.nil_iff.mpr w))
/-- t[lo:hi]: the whole of it is t itself -/
def rSlS (K : PySem.W.Frag) : V → Option Int → Option Int → Hp → VK → Prop := fun x lo hi H Q => ∃ a xs, x = .ref a ∧ SqT K H a xs ∧
  (HT.sIx xs.length 0 lo = 0 ∧ HT.sIx xs.length xs.length hi = xs.length → Q (.ref a) H) ∧ (¬ (HT.sIx xs.length 0 lo = 0 ∧ HT.sIx xs.length xs.length hi = xs.length) → NewT H Q (cutV xs lo hi))
theorem sl_tupS : SlR X (rSlS X.K) := by
  intro pins s σ H x v vl vu lo hi sl Q I rx hs pl pu h
  obtain ⟨a, xs, rfl, hx, q1, q2⟩ := h
  cases rx
  obtain ⟨its, r, ht, hz⟩ := I.tuple hx
  have hlen : its.toArray.size = xs.length := by rw [List.size_toArray]; exact r.length.symm
  refine ⟨"tuple", _, PyProof.Rows.slot_tuple_getitem.lookup, ht.typeIs, ?_⟩
  by_cases hw : HT.sIx xs.length 0 lo = 0 ∧ HT.sIx xs.length xs.length hi = xs.length
  · exact getItem_tuple_whole ht hs pl pu (by rw [hlen]; exact hw) ⟨.ref a, H, I, rfl, q1 hw⟩
  · refine HT.getItem_tuple_cut ht hs pl pu (by rw [hlen]; exact hw) ?_ (by rw [hlen]; exact hz)
    rw [hlen]
    exact I.newT ((r.drop (HT.sIx xs.length 0 lo)).take (HT.sIx xs.length xs.length hi - HT.sIx xs.length 0 lo)) (Nat.le_trans (cutV_length xs lo hi) hz) (q2 hw)
/-- tuple(x) -/
theorem call_tupleS : CallR X (.type "tuple") (fun xs H Q => ∃ p ys, xs = [.ref p] ∧ ((SqL X.K H p ys ∧ NewT H Q ys) ∨ (SqT X.K H p ys ∧ Q (.ref p) H))) := by
  intro pins s σ H xs us Q I r h
  obtain ⟨p, ys, rfl, h⟩ := h
  obtain ⟨u, rfl, rx⟩ := vals1 r
  cases rx
  rcases h with ⟨hq, q⟩ | ⟨hq, q⟩
  · obtain ⟨its, r', pl, hz⟩ := I.list hq
    have hlen := r'.length
    refine call_tuple_list pl.isList (fun h' kp => ?_) (by simp only [List.size_toArray] <;> omega)
    have I1 : Inv X pins σ H { s with heap := h' } := I.kept (t' := s.toks) kp
    exact I1.newT r' hz q
  · obtain ⟨its, r', pl, hz⟩ := I.tuple hq
    exact call_tuple_same pl ⟨.ref p, H, I, rfl, q⟩
end
end DL
set_option Elab.async false
set_option linter.all false
set_option maxRecDepth 100000
set_option maxHeartbeats 4000000
/-! DL, the data layer (1): data in heaps, slots, the relation between a frame of data and a frame of values -/
namespace DL
open PySem PySem.Spec PyProof.Rows L2

theorem sqT_mono {K : PySem.W.Frag } {F F' : Hp} {a : Addr} {xs : List V} (s : Same F F') (h : SqT K F a xs) : SqT K F' a xs := by
  rcases h with (h | ⟨o, h⟩) | h
  · exact .inl (.inl (s _ _ h))
  · exact .inl (.inr ⟨o, s _ _ h⟩)
  · exact .inr h

/-! ### dicts whose keys are tuples: the one object at a, its entries -/
abbrev TEnt := NestedKey × Addr × V
def EntIs (xs : List TEnt) (us : List (NestedKey × Addr × Value)) : Prop := Paired (fun (p : TEnt) (q : NestedKey × Addr × Value) => p.1 = q.1 ∧ p.2.1 = q.2.1 ∧ RelV p.2.2 q.2.2) xs us
def TDOk (w : World) (a : Addr) (xs : List TEnt) (h : Heap) : Prop := (a == sysModules) = false ∧ ∃ (o : Obj) (es : Array DictEntry) (ep : Nat) (us : List (NestedKey × Addr × Value)),
  h.get? a = some o ∧ o.ExactDict ∧ o.data = .dict es ep ∧ es.toList = us.map (fun x => (⟨x.1.hash w, .ref x.2.1, x.2.2⟩ : DictEntry)) ∧ EntIs xs us
def TD (w : World) (a : Addr) (xs : List TEnt) : HO := .ext (TDOk w a xs)
theorem tdOk_of {P : Program} {w : World} {H : Hp} {h : Heap} {a : Addr} {xs : List TEnt} (x : TDOk w a xs h) : ObjOk P w H h a (TD w a xs) :=
  ⟨x, let ⟨_, o, _, _, _, e, _⟩ := x; ⟨o, e⟩, fun _ _ ⟨y, o, es, ep, us, e, r⟩ k => ⟨y, o, es, ep, us, k _ e, r⟩⟩
/-! a key as the table's ==, hash see it -/
mutual
def nkey : PyData → Option NestedKey
  | .none => some .none
  | .bool b => some (.num (if b = true then 1 else 0))
  | .int i => some (.num i)
  | .str x => some (.text x)
  | .tuple ds => (nkeys ds).map .tup
  | .list _ => Option.none
  | .dict _ => Option.none
def nkeys : List PyData → Option (List NestedKey)
  | [] => some []
  | d :: ds => match nkey d, nkeys ds with | some k, some ks => some (k :: ks) | _, _ => Option.none
end

/-- a key as data -/
def keyD : Key → PyData
  | .inl i => .int i
  | .inr x => .str x

mutual
/-- the value v is the data d, all of it lying in the part F of the heap that never changes -/
inductive Is (K : KW) (F : Hp) : V → PyData → Prop
  | non : Is K F .non .none
  | bl (b : Bool) : Is K F (.bl b) (.bool b)
  | int (i : Int) : Is K F (.int i) (.int i)
  | str (x : Str) : x.length ≤ sizeLine → Is K F (.str x) (.str x)
  | lst {a : Addr} {xs : List V} {ds : List PyData} : F a = some (.lst xs) → xs.length ≤ sizeLine → IsAll K F xs ds → Is K F (.ref a) (.list ds)
  | tup {a : Addr} {xs : List V} {ds : List PyData} : StT K.K F a xs → xs.length ≤ sizeLine → IsAll K F xs ds → Is K F (.ref a) (.tuple ds)
  | dic {a : Addr} {ks : List (Key × V)} {kvs : List (PyData × PyData)} : F a = some (.dK ks) → ks.length ≤ sizeLine → (ks.map (·.1)).Nodup → IsKv K F ks kvs → Is K F (.ref a) (.dict kvs)
  | dit {a : Addr} {xs : List TEnt} {kvs : List (PyData × PyData)} : F a = some (TD K.w a xs) → xs.length ≤ sizeLine → xs ≠ [] → (xs.map (·.1)).Nodup → IsKt K F xs kvs → Is K F (.ref a) (.dict kvs)
inductive IsAll (K : KW) (F : Hp) : List V → List PyData → Prop
  | nil : IsAll K F [] []
  | cons {v : V} {vs : List V} {d : PyData} {ds : List PyData} : Is K F v d → IsAll K F vs ds → IsAll K F (v :: vs) (d :: ds)
inductive IsKv (K : KW) (F : Hp) : List (Key × V) → List (PyData × PyData) → Prop
  | nil : IsKv K F [] []
  | cons {k : Key} {v : V} {ks : List (Key × V)} {d : PyData} {kvs : List (PyData × PyData)} : Is K F v d → IsKv K F ks kvs → IsKv K F ((k, v) :: ks) ((keyD k, d) :: kvs)
inductive IsKt (K : KW) (F : Hp) : List TEnt → List (PyData × PyData) → Prop
  | nil : IsKt K F [] []
  | cons {k : NestedKey} {b : Addr} {v : V} {xs : List TEnt} {cs : List PyData} {d : PyData} {kvs : List (PyData × PyData)} : nkey (.tuple cs) = some k → k.depth ≤ 8 → Is K F (.ref b) (.tuple cs) → Is K F v d → IsKt K F xs kvs → IsKt K F ((k, b, v) :: xs) ((.tuple cs, d) :: kvs)
end

mutual
theorem Is.mono {K : KW} {F F' : Hp} (s : Same F F') : ∀ (d : PyData) (v : V), Is K F v d → Is K F' v d
  | .none, _, h => by cases h; exact .non
  | .bool b, _, h => by cases h; exact .bl b
  | .int i, _, h => by cases h; exact .int i
  | .str x, _, h => by cases h with | str _ z => exact .str x z
  | .list ds, _, h => by cases h with | lst e z t => exact .lst (s _ _ e) z (IsAll.mono s ds _ t)
  | .tuple ds, _, h => by cases h with | tup e z t => exact .tup (e.mono s) z (IsAll.mono s ds _ t)
  | .dict kvs, _, h => by cases h with | dic e z n t => exact .dic (s _ _ e) z n (IsKv.mono s kvs _ t) | dit e z m n t => exact .dit (s _ _ e) z m n (IsKt.mono s kvs _ t)
theorem IsAll.mono {K : KW} {F F' : Hp} (s : Same F F') : ∀ (ds : List PyData) (vs : List V), IsAll K F vs ds → IsAll K F' vs ds
  | [], _, h => by cases h; exact .nil
  | d :: ds, _, h => by cases h with | cons a b => exact .cons (Is.mono s d _ a) (IsAll.mono s ds _ b)
theorem IsKv.mono {K : KW} {F F' : Hp} (s : Same F F') : ∀ (kvs : List (PyData × PyData)) (ks : List (Key × V)), IsKv K F ks kvs → IsKv K F' ks kvs
  | [], _, h => by cases h; exact .nil
  | (_, d) :: kvs, _, h => by cases h with | cons a b => exact .cons (Is.mono s d _ a) (IsKv.mono s kvs _ b)
theorem IsKt.mono {K : KW} {F F' : Hp} (s : Same F F') : ∀ (kvs : List (PyData × PyData)) (xs : List TEnt), IsKt K F xs kvs → IsKt K F' xs kvs
  | [], _, h => by cases h; exact .nil
  | (.tuple cs, d) :: kvs, _, h => by cases h with | cons e z a b c => exact .cons e z (Is.mono s (.tuple cs) _ a) (Is.mono s d _ b) (IsKt.mono s kvs _ c)
end
section
variable {K : KW} {F F' H : Hp}
theorem Is.up {v : V} {d : PyData} (h : Is K F v d) (s : Same F F') : Is K F' v d := Is.mono s d v h
theorem IsAll.up {vs : List V} {ds : List PyData} (h : IsAll K F vs ds) (s : Same F F') : IsAll K F' vs ds := IsAll.mono s ds vs h
theorem IsKv.up {ks : List (Key × V)} {kvs : List (PyData × PyData)} (h : IsKv K F ks kvs) (s : Same F F') : IsKv K F' ks kvs := IsKv.mono s kvs ks h
theorem IsKt.up {ks : List TEnt} {kvs : List (PyData × PyData)} (h : IsKt K F ks kvs) (s : Same F F') : IsKt K F' ks kvs := IsKt.mono s kvs ks h
theorem IsAll.length : ∀ {vs : List V} {ds : List PyData}, IsAll K F vs ds → vs.length = ds.length
  | _, _, .nil => rfl
  | _, _, .cons _ t => by rw [List.length_cons, List.length_cons, IsAll.length t]
theorem IsAll.append : ∀ {vs ws : List V} {ds es : List PyData}, IsAll K F vs ds → IsAll K F ws es → IsAll K F (vs ++ ws) (ds ++ es)
  | _, _, _, _, .nil, h => h
  | _, _, _, _, .cons a t, h => .cons a (IsAll.append t h)
theorem IsAll.get : ∀ {vs : List V} {ds : List PyData} {i : Nat} {v : V}, IsAll K F vs ds → vs[i]? = some v → ∃ d, ds[i]? = some d ∧ Is K F v d
  | _, _, i, v, .nil, e => by simp at e
  | _, _, 0, v, .cons (d := d) a t, e => by
    simp at e; subst e
    exact ⟨d, by simp, a⟩
  | _, _, i + 1, v, .cons a t, e => by
    obtain ⟨d, h1, h2⟩ := IsAll.get (i := i) (v := v) t (by simpa using e)
    exact ⟨d, by simpa using h1, h2⟩
theorem IsAll.getD : ∀ {vs : List V} {ds : List PyData} {i : Nat} {d : PyData}, IsAll K F vs ds → ds[i]? = some d → ∃ v, vs[i]? = some v ∧ Is K F v d
  | _, _, i, v, .nil, e => by simp at e
  | _, _, 0, d, .cons (v := v) a t, e => by
    simp at e; subst e
    exact ⟨v, by simp, a⟩
  | _, _, i + 1, d, .cons a t, e => by
    obtain ⟨d, h1, h2⟩ := IsAll.getD (i := i) (d := d) t (by simpa using e)
    exact ⟨d, by simpa using h1, h2⟩
theorem IsAll.take : ∀ {vs : List V} {ds : List PyData} (n : Nat), IsAll K F vs ds → IsAll K F (vs.take n) (ds.take n)
  | _, _, 0, _ => .nil
  | _, _, _ + 1, .nil => .nil
  | _, _, n + 1, .cons a t => .cons a (IsAll.take n t)
theorem IsAll.drop : ∀ {vs : List V} {ds : List PyData} (n : Nat), IsAll K F vs ds → IsAll K F (vs.drop n) (ds.drop n)
  | _, _, 0, h => h
  | _, _, _ + 1, .nil => .nil
  | _, _, n + 1, .cons _ t => IsAll.drop n t
theorem IsAll.set : ∀ {vs : List V} {ds : List PyData} {v : V} {d : PyData} (i : Nat), IsAll K F vs ds → Is K F v d → IsAll K F (vs.set i v) (ds.set i d)
  | _, _, _, _, _, .nil, _ => .nil
  | _, _, _, _, 0, .cons _ t, h => .cons h t
  | _, _, _, _, i + 1, .cons a t, h => .cons a (IsAll.set i t h)
theorem IsAll.reverse {vs : List V} {ds : List PyData} (h : IsAll K F vs ds) : IsAll K F vs.reverse ds.reverse := by
  induction ds generalizing vs with
  | nil => cases h; exact .nil
  | cons d ds ih =>
    cases h with
    | cons a t => rw [List.reverse_cons, List.reverse_cons]; exact (ih t).append (.cons a .nil)
end

/-! ### slots of data -/
/-- a field of a record: not there yet; still data (its value); a list, a dict that the record alone holds -/
inductive Fld where
  | non
  | dat (v : V) (d : PyData)
  | lst (a : Addr) (ds : List PyData)
  | dic (a : Addr) (kvs : List (PyData × PyData))
abbrev Flds := List (Str × Fld)
inductive DSlot where
  /-- nothing is known -/
  | undef
  /-- data, never changed -/
  | data (d : PyData)
  /-- a list, a dict that this name alone holds -/
  | ownL (ds : List PyData)
  | ownD (kvs : List (PyData × PyData))
  /-- the one source of draws -/
  | bag
  /-- a record at r that this name alone holds: a dict with texts as keys (k none), or an instance with slots (its class, its own dict) -/
  | rcd (r : Addr) (k : Option (Str × Addr)) (fs : Flds)
abbrev DEnv := List DSlot
def look : DEnv → Nat → DSlot
  | [], _ => .undef
  | s :: _, 0 => s
  | _ :: r, i + 1 => look r i
def put : DEnv → Nat → DSlot → DEnv
  | [], _, _ => []
  | _ :: r, 0, t => t :: r
  | s :: r, i + 1, t => s :: put r i t
theorem put_length : ∀ (ρ : DEnv) (i : Nat) (t : DSlot), (put ρ i t).length = ρ.length
  | [], _, _ => rfl
  | _ :: _, 0, _ => rfl
  | _ :: r, i + 1, t => by rw [put, List.length_cons, List.length_cons, put_length r i t]
theorem look_put : ∀ (ρ : DEnv) (i j : Nat) (t : DSlot), look (put ρ i t) j = if i = j ∧ i < ρ.length then t else look ρ j
  | [], i, j, t => by simp [put]
  | s :: r, 0, 0, t => by simp [put, look]
  | s :: r, 0, j + 1, t => by simp [put, look]
  | s :: r, i + 1, 0, t => by simp [put, look]
  | s :: r, i + 1, j + 1, t => by
    simp only [put, look, look_put r i j t, List.length_cons]
    by_cases h : i = j ∧ i < r.length
    · rw [if_pos h, if_pos ⟨by omega, by omega⟩]
    · rw [if_neg h, if_neg (by omega)]
theorem look_out : ∀ (ρ : DEnv) (i : Nat), ρ.length ≤ i → look ρ i = .undef
  | [], _, _ => rfl
  | _ :: r, 0, h => by simp at h
  | _ :: r, i + 1, h => look_out r i (by simpa using h)
def val (σ : L2.St) (i : Nat) : Option V := (σ[i]?).join
theorem val_set {σ : L2.St} {i j : Nat} {v : V} (hi : i < σ.length) : val (σ.set i (some v)) j = if i = j then some v else val σ j := by
  unfold val
  by_cases h : i = j
  · subst h
    rw [if_pos rfl, List.getElem?_set_self hi]; rfl
  · rw [if_neg h, List.getElem?_set_ne h]
theorem val_some {σ : L2.St} {i : Nat} {v : V} (h : val σ i = some v) : σ[i]? = some (some v) := by
  unfold val at h
  cases e : σ[i]? with
  | none => rw [e] at h; cases h
  | some o => rw [e] at h; cases o with
    | none => cases h
    | some u => cases h; rfl
theorem val_lt {σ : L2.St} {i : Nat} {v : V} (h : val σ i = some v) : i < σ.length := (List.getElem?_eq_some_iff.mp (val_some h)).1

/-- the source of draws: its list, its words' list; what the words are, if that is held -/
structure Bag where
  a : Addr
  b : Addr
  pin : Option (List Str) := none
def WordsOk (wds : List Str) : Prop := wds.Nodup ∧ ∀ x ∈ wds, x ∈ (["side", "body", "steps"] : List Str)
/-- the source of draws: the list at p.1, its words at p.2 -/
def BagOk (K : KW) (F H : Hp) (p : Bag) : Prop :=
  F p.1 = none ∧ F p.2 = none ∧ ∃ (x y z : Int) (c : Addr) (cells : List Int) (t : List V),
    H p.1 = some (.lst (.int x :: .int y :: .int z :: .ref c :: t)) ∧ 0 ≤ x ∧ 0 ≤ y ∧ y < 2147483647 ∧ 0 ≤ z ∧ Is K F (.ref c) (.list (cells.map .int)) ∧ (cells.length ≤ 63 ∧ ∀ n ∈ cells, 0 ≤ n) ∧
    ((t = [] ∧ p.2 = p.1) ∨ (t = [.ref p.2] ∧ p.1 ≠ p.2 ∧ ∃ (words : List V) (wds : List Str), H p.2 = some (.lst words) ∧ IsAll K F words (wds.map .str) ∧ WordsOk wds ∧ ∀ l, p.pin = some l → wds = l))
theorem BagOk.next {K : KW} {F F' H H' : Hp} {p : Bag} (h : BagOk K F H p) (s : Same F F') (n1 : F' p.1 = none) (n2 : F' p.2 = none) (k1 : ∀ o, H p.1 = some o → H' p.1 = some o) (k2 : ∀ o, H p.2 = some o → H' p.2 = some o) : BagOk K F' H' p := by
  obtain ⟨_, _, x, y, z, c, cells, t, h1, h2, h3, h4, h5, h6, h7, h8⟩ := h
  refine ⟨n1, n2, x, y, z, c, cells, t, k1 _ h1, h2, h3, h4, h5, Is.mono s _ _ h6, h7, h8.imp id fun ⟨e, ne, words, wds, g1, g2, g3⟩ => ⟨e, ne, words, wds, k2 _ g1, IsAll.mono s _ _ g2, g3⟩⟩
theorem BagOk.there {K : KW} {F H : Hp} {p : Bag} (h : BagOk K F H p) : H p.1 ≠ none ∧ H p.2 ≠ none := by
  obtain ⟨_, _, x, y, z, c, cells, t, h1, h2, h3, h4, h5, h6, h7, ⟨_, e⟩ | ⟨_, _, words, wds, h8, _⟩⟩ := h
  · rw [e, h1]; exact ⟨nofun, nofun⟩
  · rw [h1, h8]; exact ⟨nofun, nofun⟩

/-- the object of a dict, in its two forms -/
def DObj (K : KW) (F : Hp) (a : Addr) (kvs : List (PyData × PyData)) (o : HO) : Prop :=
  (∃ ks, o = .dK ks ∧ ks.length ≤ sizeLine ∧ (ks.map (·.1)).Nodup ∧ IsKv K F ks kvs) ∨ ∃ xs, o = TD K.w a xs ∧ xs.length ≤ sizeLine ∧ xs ≠ [] ∧ (xs.map (·.1)).Nodup ∧ IsKt K F xs kvs
theorem DObj.up {K : KW} {F F' : Hp} {a : Addr} {kvs : List (PyData × PyData)} {o : HO} (h : DObj K F a kvs o) (s : Same F F') : DObj K F' a kvs o := by
  rcases h with ⟨ks, e, z, n, t⟩ | ⟨xs, e, z, m, n, t⟩
  · exact .inl ⟨ks, e, z, n, t.up s⟩
  · exact .inr ⟨xs, e, z, m, n, t.up s⟩
theorem DObj.is {K : KW} {F : Hp} {a : Addr} {kvs : List (PyData × PyData)} {o : HO} (h : DObj K F a kvs o) (e : F a = some o) : Is K F (.ref a) (.dict kvs) := by
  rcases h with ⟨ks, rfl, z, n, t⟩ | ⟨xs, rfl, z, m, n, t⟩
  · exact .dic e z n t
  · exact .dit e z m n t
/-- the addresses that a record alone holds -/
def Fld.addr : Fld → List Addr
  | .lst a _ => [a]
  | .dic a _ => [a]
  | _ => []
def Fld.val : Fld → Option V
  | .non => none
  | .dat v _ => some v
  | .lst a _ => some (.ref a)
  | .dic a _ => some (.ref a)
def fldAddrs : Flds → List Addr
  | [] => []
  | (_, f) :: r => f.addr ++ fldAddrs r
def recAddrs (r : Addr) (k : Option (Str × Addr)) (fs : Flds) : List Addr := r :: ((match k with | none => [] | some (_, dx) => [dx]) ++ fldAddrs fs)
def FldOk (K : KW) (F H : Hp) : Fld → Prop
  | .non => True
  | .dat v d => Is K F v d
  | .lst a ds => ∃ xs, H a = some (.lst xs) ∧ xs.length ≤ sizeLine ∧ IsAll K F xs ds
  | .dic a kvs => ∃ o, H a = some o ∧ DObj K F a kvs o
/-- the record's own object -/
def RecObj (K : KW) (H : Hp) (r : Addr) : Option (Str × Addr) → Flds → Prop
  | none, fs => ∃ ks : List (Str × V), H r = some (.dK (ks.map fun p => (Sum.inr p.1, p.2))) ∧ ks.map (fun p => (p.1, some p.2)) = fs.map (fun p => (p.1, p.2.val)) ∧ (ks.map (·.1)).Nodup ∧ ks.length ≤ 100
  | some (cn, dx), fs => H dx ≠ none ∧ ∃ (C : Addr) (vs : List (Option V)), PySem.W.nsIn K.K mainGlobals cn = some (some (.ref C)) ∧ SlX.Slt H r C dx vs ∧ ∀ (j : Nat) (n : Str) (f : Fld) (v : V), fs[j]? = some (n, f) → f.val = some v → vs[j]? = some (some v)
def RecOk (K : KW) (F H : Hp) (r : Addr) (k : Option (Str × Addr)) (fs : Flds) : Prop := (recAddrs r k fs).Nodup ∧ RecObj K H r k fs ∧ ∀ p ∈ fs, FldOk K F H p.2
theorem FldOk.next {K : KW} {F F' H H' : Hp} {f : Fld} (h : FldOk K F H f) (s : Same F F') (k : ∀ a ∈ f.addr, ∀ o, H a = some o → H' a = some o) : FldOk K F' H' f := by
  cases f with
  | non => trivial
  | dat v d => exact Is.up h s
  | lst a ds => obtain ⟨xs, h1, h2, h3⟩ := h; exact ⟨xs, k a (by simp [Fld.addr]) _ h1, h2, h3.up s⟩
  | dic a kvs => obtain ⟨o, h1, h2⟩ := h; exact ⟨o, k a (by simp [Fld.addr]) _ h1, h2.up s⟩
theorem fld_addr {fs : Flds} {p : Str × Fld} {a : Addr} (hp : p ∈ fs) (ha : a ∈ p.2.addr) : a ∈ fldAddrs fs := by
  induction fs with
  | nil => cases hp
  | cons q r ih =>
    unfold fldAddrs
    rcases List.mem_cons.mp hp with e | e
    · subst e; exact List.mem_append_left _ ha
    · exact List.mem_append_right _ (ih e)
theorem addr_fld {fs : Flds} {a : Addr} (h : a ∈ fldAddrs fs) : ∃ p ∈ fs, a ∈ p.2.addr := by
  induction fs with
  | nil => cases h
  | cons q r ih =>
    unfold fldAddrs at h
    rcases List.mem_append.mp h with e | e
    · exact ⟨q, by simp, e⟩
    · obtain ⟨p, hp, ha⟩ := ih e
      exact ⟨p, by simp [hp], ha⟩
theorem RecObj.next {K : KW} {H H' : Hp} {r : Addr} {k : Option (Str × Addr)} {fs : Flds} (h : RecObj K H r k fs) (hk : ∀ a ∈ recAddrs r k fs, ∀ o, H a = some o → H' a = some o) : RecObj K H' r k fs := by
  have hr : ∀ o, H r = some o → H' r = some o := hk r (by simp [recAddrs])
  cases k with
  | none => obtain ⟨ks, h1, h2⟩ := h; exact ⟨ks, hr _ h1, h2⟩
  | some p =>
    obtain ⟨C, dx⟩ := p
    have hd : ∀ o, H dx = some o → H' dx = some o := hk dx (by simp [recAddrs])
    obtain ⟨h0, C', vs, hc, h1, h2⟩ := h
    refine ⟨fun z => ?_, C', vs, hc, ?_, h2⟩
    · cases e : H dx with
      | none => exact h0 e
      | some o => rw [hd _ e] at z; cases z
    · rcases h1 with ⟨a, b⟩ | ⟨a, b⟩
      · exact .inl ⟨hr _ a, b⟩
      · exact .inr ⟨hr _ a, hd _ b⟩
theorem RecOk.next {K : KW} {F F' H H' : Hp} {r : Addr} {k : Option (Str × Addr)} {fs : Flds} (h : RecOk K F H r k fs) (s : Same F F') (hk : ∀ a ∈ recAddrs r k fs, ∀ o, H a = some o → H' a = some o) : RecOk K F' H' r k fs :=
  ⟨h.1, h.2.1.next hk, fun p hp => (h.2.2 p hp).next s fun a ha => hk a (by unfold recAddrs; exact List.mem_cons_of_mem _ (List.mem_append_right _ (fld_addr hp ha)))⟩
theorem RecOk.there {K : KW} {F H : Hp} {r : Addr} {k : Option (Str × Addr)} {fs : Flds} (h : RecOk K F H r k fs) {a : Addr} (ha : a ∈ recAddrs r k fs) : H a ≠ none := by
  obtain ⟨_, h1, h2⟩ := h
  unfold recAddrs at ha
  rcases List.mem_cons.mp ha with e | ha
  · subst e
    cases k with
    | none => obtain ⟨ks, e, _⟩ := h1; rw [e]; nofun
    | some p => obtain ⟨C, dx⟩ := p; obtain ⟨_, _, vs, _, ⟨e, _⟩ | ⟨e, _⟩, _⟩ := h1 <;> (rw [e]; nofun)
  · rcases List.mem_append.mp ha with e | ha
    · cases k with
      | none => cases e
      | some p =>
        obtain ⟨C, dx⟩ := p
        have e : a = dx := by simpa using e
        subst e
        exact h1.1
    · obtain ⟨p, hp, ha⟩ := addr_fld ha
      have q := h2 p hp
      cases e : p.2 with
      | non => rw [e] at ha; cases ha
      | dat v d => rw [e] at ha; cases ha
      | lst b ds => rw [e] at ha q; simp [Fld.addr] at ha; subst ha; obtain ⟨xs, q, _⟩ := q; rw [q]; nofun
      | dic b kvs => rw [e] at ha q; simp [Fld.addr] at ha; subst ha; obtain ⟨o, q, _⟩ := q; rw [q]; nofun
/-- what is known of a slot: its value -/
def SlotOk (K : KW) (F H : Hp) (bg : Option Bag) (v : Option V) : DSlot → Prop
  | .undef => True
  | .data d => ∃ u, v = some u ∧ Is K F u d
  | .ownL ds => ∃ a xs, v = some (.ref a) ∧ H a = some (.lst xs) ∧ xs.length ≤ sizeLine ∧ IsAll K F xs ds
  | .ownD kvs => ∃ a o, v = some (.ref a) ∧ H a = some o ∧ DObj K F a kvs o
  | .bag => ∃ p, bg = some p ∧ v = some (.ref p.1)
  | .rcd r k fs => v = some (.ref r) ∧ RecOk K F H r k fs
/-- the addresses that the slot alone holds -/
def Owns (v : Option V) (s : DSlot) (a : Addr) : Prop := (v = some (.ref a) ∧ ((∃ ds, s = .ownL ds) ∨ ∃ kvs, s = .ownD kvs)) ∨ ∃ r k fs, s = .rcd r k fs ∧ a ∈ recAddrs r k fs
theorem Owns.l {v : Option V} {ds : List PyData} {a : Addr} (h : v = some (.ref a)) : Owns v (.ownL ds) a := .inl ⟨h, .inl ⟨_, rfl⟩⟩
theorem Owns.d {v : Option V} {kvs : List (PyData × PyData)} {a : Addr} (h : v = some (.ref a)) : Owns v (.ownD kvs) a := .inl ⟨h, .inr ⟨_, rfl⟩⟩
theorem Owns.r {v : Option V} {r : Addr} {k : Option (Str × Addr)} {fs : Flds} {a : Addr} (h : a ∈ recAddrs r k fs) : Owns v (.rcd r k fs) a := .inr ⟨r, k, fs, rfl, h⟩
/-- slots that hold nothing alone -/
def plainS : DSlot → Bool
  | .data _ => true
  | .undef => true
  | _ => false
theorem Owns.not {v : Option V} {s : DSlot} {a : Addr} (h : Owns v s a) (p : plainS s = true) : False := by
  rcases h with ⟨_, ⟨_, e⟩ | ⟨_, e⟩⟩ | ⟨_, _, _, e, _⟩ <;> (subst e; cases p)
theorem Owns.bag {v : Option V} {a : Addr} (h : Owns v .bag a) : False := by
  rcases h with ⟨_, ⟨_, e⟩ | ⟨_, e⟩⟩ | ⟨_, _, _, e, _⟩ <;> cases e
theorem Owns.lD {v : Option V} {ds : List PyData} {a : Addr} (h : Owns v (.ownL ds) a) : v = some (.ref a) := by
  rcases h with ⟨e, _⟩ | ⟨_, _, _, e, _⟩
  · exact e
  · cases e
theorem Owns.dD {v : Option V} {kvs : List (PyData × PyData)} {a : Addr} (h : Owns v (.ownD kvs) a) : v = some (.ref a) := by
  rcases h with ⟨e, _⟩ | ⟨_, _, _, e, _⟩
  · exact e
  · cases e
theorem Owns.rD {v : Option V} {r : Addr} {k : Option (Str × Addr)} {fs : Flds} {a : Addr} (h : Owns v (.rcd r k fs) a) : a ∈ recAddrs r k fs := by
  rcases h with ⟨_, ⟨_, e⟩ | ⟨_, e⟩⟩ | ⟨_, _, _, e, h⟩
  · cases e
  · cases e
  · cases e; exact h
section
variable {K : KW} {F F' H H' : Hp} {bg : Option Bag} {v : Option V} {s : DSlot}
theorem SlotOk.next (h : SlotOk K F H bg v s) (fs : Same F F') (k : ∀ a, Owns v s a → ∀ o, H a = some o → H' a = some o) : SlotOk K F' H' bg v s := by
  cases s with
  | undef => trivial
  | data d => obtain ⟨u, h1, h2⟩ := h; exact ⟨u, h1, h2.up fs⟩
  | ownL ds => obtain ⟨a, xs, h1, h2, h3, h4⟩ := h; exact ⟨a, xs, h1, k a (.l h1) _ h2, h3, h4.up fs⟩
  | ownD kvs => obtain ⟨a, o, h1, h2, h3⟩ := h; exact ⟨a, o, h1, k a (.d h1) _ h2, h3.up fs⟩
  | bag => exact h
  | rcd r kk fl => exact ⟨h.1, h.2.next fs fun a ha => k a (.r ha)⟩
theorem SlotOk.there (h : SlotOk K F H bg v s) {a : Addr} (ho : Owns v s a) : H a ≠ none := by
  cases s with
  | undef => exact (ho.not rfl).elim
  | data d => exact (ho.not rfl).elim
  | ownL ds => obtain ⟨b, xs, h1, h2, _⟩ := h; have e := ho.lD; rw [h1] at e; cases e; rw [h2]; nofun
  | ownD kvs => obtain ⟨b, o, h1, h2, _⟩ := h; have e := ho.dD; rw [h1] at e; cases e; rw [h2]; nofun
  | bag => exact ho.bag.elim
  | rcd r kk fl => exact h.2.there ho.rD
end
/-- where the body stands: the heap and its still part at the entry, the source of draws -/
structure Ctx where
  H0 : Hp
  F0 : Hp
  bg : Option Bag
  /-- may what slots hold alone be changed -/
  mu : Bool
  /-- what the caller has lent: this may be changed -/
  lent : List Addr
structure Sd (K : KW) (C : Ctx) (F H : Hp) (σ : L2.St) (ρ : DEnv) : Prop where
  le0 : Same C.F0 F
  le : Same F H
  frame : ∀ a o, C.H0 a = some o → (∀ p, C.bg = some p → a ≠ p.1 ∧ a ≠ p.2) → a ∉ C.lent → H a = some o
  alive : ∀ a, C.H0 a ≠ none → H a ≠ none
  still : ∀ a, C.H0 a ≠ none → C.F0 a = none → a ∉ C.lent → F a = none
  bag : ∀ p, C.bg = some p → BagOk K F H p
  len : ρ.length = σ.length
  ok : ∀ i, SlotOk K F H C.bg (val σ i) (look ρ i)
  own : ∀ i a, Owns (val σ i) (look ρ i) a → F a = none ∧ (C.mu = true → C.H0 a = none ∨ a ∈ C.lent) ∧ ∀ p, C.bg = some p → a ≠ p.1 ∧ a ≠ p.2
  dj : ∀ i j a, Owns (val σ i) (look ρ i) a → Owns (val σ j) (look ρ j) a → i = j

section
variable {K : KW} {C : Ctx} {F F' H H' : Hp} {σ : L2.St} {ρ : DEnv}
theorem up_keep {H : Hp} {p : Addr} {o : HO} (hp : H p = none) : Same H (upd H p o) := fun a u e => by rw [upd_ne (ne_of_none e hp)]; exact e
theorem up_alive {H H' : Hp} (s : Same H H') {a : Addr} (h : H a ≠ none) : H' a ≠ none := fun z => by
  cases e : H a with
  | none => exact h e
  | some o => rw [s _ _ e] at z; cases z
theorem upd_alive {H : Hp} {p a : Addr} {o : HO} (h : H a ≠ none) : upd H p o a ≠ none := fun z => by
  by_cases e : a = p
  · subst e; rw [upd_same] at z; cases z
  · rw [upd_ne e] at z; exact h z
theorem Sd.off (S : Sd K C F H σ ρ) {p : Addr} (hp : H p = none) : C.H0 p = none ∧ F p = none ∧ (∀ q, C.bg = some q → p ≠ q.1 ∧ p ≠ q.2) ∧ ∀ i, ¬ Owns (val σ i) (look ρ i) p := by
  refine ⟨Classical.byContradiction fun z => S.alive p z hp, S.le.free hp, fun q hq => ?_, fun i ho => (S.ok i).there ho hp⟩
  obtain ⟨t1, t2⟩ := (S.bag q hq).there
  exact ⟨fun e => t1 (by rw [← e]; exact hp), fun e => t2 (by rw [← e]; exact hp)⟩
/-- a new object at p, still from now on -/
theorem Sd.laid {p : Addr} {o : HO} (S : Sd K C F H σ ρ) (hp : H p = none) : Sd K C (upd F p o) (upd H p o) σ ρ := by
  obtain ⟨h0, fp, nb, no⟩ := S.off hp
  have fs : Same F (upd F p o) := up_keep fp
  have hs : Same H (upd H p o) := up_keep hp
  refine ⟨S.le0.trans fs, fun a u e => ?_, fun a u e hb hl => hs _ _ (S.frame a u e hb hl), fun a h => upd_alive (S.alive a h), fun a h1 h2 hl => ?_, fun q hq => ?_, S.len, fun i => (S.ok i).next fs fun a _ => hs a, fun i a ho => ?_, S.dj⟩
  · by_cases h : a = p
    · subst h; rw [upd_same] at e ⊢; exact e
    · rw [upd_ne h] at e ⊢; exact S.le _ _ e
  · rw [upd_ne (fun e => by subst e; exact h1 h0)]
    exact S.still a h1 h2 hl
  · obtain ⟨n1, n2⟩ := nb q hq
    exact (S.bag q hq).next fs (by rw [upd_ne (Ne.symm n1)]; exact (S.bag q hq).1) (by rw [upd_ne (Ne.symm n2)]; exact (S.bag q hq).2.1) (fun _ e => hs _ _ e) fun _ e => hs _ _ e
  · obtain ⟨h1, h2, h3⟩ := S.own i a ho
    exact ⟨by rw [upd_ne (fun e => by subst e; exact no i ho)]; exact h1, h2, h3⟩
/-- a new object at p that changes yet -/
theorem Sd.fresh {p : Addr} {o : HO} (S : Sd K C F H σ ρ) (hp : H p = none) : Sd K C F (upd H p o) σ ρ := by
  have hs : Same H (upd H p o) := up_keep hp
  exact ⟨S.le0, S.le.trans hs, fun a u e hb hl => hs _ _ (S.frame a u e hb hl), fun a h => upd_alive (S.alive a h), S.still, fun q hq => (S.bag q hq).next (Same.refl _) (S.bag q hq).1 (S.bag q hq).2.1 (fun _ e => hs _ _ e) fun _ e => hs _ _ e, S.len,
    fun i => (S.ok i).next (Same.refl _) fun a _ => hs a, S.own, S.dj⟩
/-- p lies apart from all that the frame knows: nobody's, neither still nor the caller's -/
structure Apart (C : Ctx) (F H : Hp) (σ : L2.St) (ρ : DEnv) (p : Addr) : Prop where
  f : F p = none
  h0 : C.H0 p = none
  bg : ∀ q, C.bg = some q → p ≠ q.1 ∧ p ≠ q.2
  no : ∀ i, ¬ Owns (val σ i) (look ρ i) p
theorem Sd.new {p : Addr} (S : Sd K C F H σ ρ) (hp : H p = none) : Apart C F H σ ρ p := by
  obtain ⟨h0, fp, nb, no⟩ := S.off hp
  exact ⟨fp, h0, nb, no⟩
/-- what lies apart is written -/
theorem Sd.write {p : Addr} {o : HO} (S : Sd K C F H σ ρ) (ap : Apart C F H σ ρ p) : Sd K C F (upd H p o) σ ρ := by
  have keep : ∀ a u, a ≠ p → H a = some u → upd H p o a = some u := fun a u h e => by rw [upd_ne h]; exact e
  have fne : ∀ a u, F a = some u → a ≠ p := fun a u e h => by subst h; rw [ap.f] at e; cases e
  refine ⟨S.le0, fun a u e => keep a u (fne a u e) (S.le _ _ e), fun a u e hb hl => keep a u (fun h => by subst h; rw [ap.h0] at e; cases e) (S.frame a u e hb hl), fun a h => upd_alive (S.alive a h), S.still, fun q hq => ?_, S.len,
    fun i => (S.ok i).next (Same.refl _) fun a ha u e => keep a u (fun h => by subst h; exact ap.no i ha) e, S.own, S.dj⟩
  obtain ⟨n1, n2⟩ := ap.bg q hq
  exact (S.bag q hq).next (Same.refl _) (S.bag q hq).1 (S.bag q hq).2.1 (fun _ e => keep _ _ (Ne.symm n1) e) fun _ e => keep _ _ (Ne.symm n2) e
/-- what lies apart becomes still -/
theorem Sd.freeze {p : Addr} {o : HO} (S : Sd K C F H σ ρ) (ap : Apart C F H σ ρ p) (hp : H p = some o) : Sd K C (upd F p o) H σ ρ := by
  have fs : Same F (upd F p o) := up_keep ap.f
  refine ⟨S.le0.trans fs, fun a u e => ?_, S.frame, S.alive, fun a h1 h2 hl => ?_, fun q hq => ?_, S.len, fun i => (S.ok i).next fs fun _ _ _ e => e, fun i a ho => ?_, S.dj⟩
  · by_cases h : a = p
    · subst h; rw [upd_same] at e; rw [hp]; exact e
    · rw [upd_ne h] at e; exact S.le _ _ e
  · rw [upd_ne (fun e => by subst e; exact h1 ap.h0)]
    exact S.still a h1 h2 hl
  · obtain ⟨n1, n2⟩ := ap.bg q hq
    exact (S.bag q hq).next fs (by rw [upd_ne (Ne.symm n1)]; exact (S.bag q hq).1) (by rw [upd_ne (Ne.symm n2)]; exact (S.bag q hq).2.1) (fun _ e => e) fun _ e => e
  · obtain ⟨h1, h2, h3⟩ := S.own i a ho
    exact ⟨by rw [upd_ne (fun e => by subst e; exact ap.no i ho)]; exact h1, h2, h3⟩
/-- a slot is stored -/
theorem Sd.store {i : Nat} {v : V} {t : DSlot} (S : Sd K C F H σ ρ) (hi : i < σ.length) (ht : SlotOk K F H C.bg (some v) t)
    (ho : ∀ a, Owns (some v) t a → F a = none ∧ (C.mu = true → C.H0 a = none ∨ a ∈ C.lent) ∧ (∀ p, C.bg = some p → a ≠ p.1 ∧ a ≠ p.2) ∧ ∀ j, j ≠ i → ¬ Owns (val σ j) (look ρ j) a) : Sd K C F H (σ.set i (some v)) (put ρ i t) := by
  have hl : i < ρ.length := by rw [S.len]; exact hi
  refine ⟨S.le0, S.le, S.frame, S.alive, S.still, S.bag, by rw [put_length, List.length_set]; exact S.len, fun j => ?_, fun j a q => ?_, fun j k a q1 q2 => ?_⟩
  · rw [val_set hi, look_put]
    by_cases h : i = j
    · rw [if_pos h, if_pos ⟨h, hl⟩]; exact ht
    · rw [if_neg h, if_neg (fun z => h z.1)]; exact S.ok j
  · rw [val_set hi, look_put] at q
    by_cases h : i = j
    · rw [if_pos h, if_pos ⟨h, hl⟩] at q
      obtain ⟨h1, h2, h3, _⟩ := ho a q
      exact ⟨h1, h2, h3⟩
    · rw [if_neg h, if_neg (fun z => h z.1)] at q; exact S.own j a q
  · rw [val_set hi, look_put] at q1 q2
    by_cases h : i = j
    · rw [if_pos h, if_pos ⟨h, hl⟩] at q1
      by_cases h' : i = k
      · rw [← h, ← h']
      · rw [if_neg h', if_neg (fun z => h' z.1)] at q2
        exact absurd q2 ((ho a q1).2.2.2 k (Ne.symm h'))
    · rw [if_neg h, if_neg (fun z => h z.1)] at q1
      by_cases h' : i = k
      · rw [if_pos h', if_pos ⟨h', hl⟩] at q2
        exact absurd q1 ((ho a q2).2.2.2 j (Ne.symm h))
      · rw [if_neg h', if_neg (fun z => h' z.1)] at q2
        exact S.dj j k a q1 q2
theorem Sd.storeD {i : Nat} {v : V} {d : PyData} (S : Sd K C F H σ ρ) (hi : i < σ.length) (h : Is K F v d) : Sd K C F H (σ.set i (some v)) (put ρ i (.data d)) :=
  S.store hi ⟨v, rfl, h⟩ fun a ho => (ho.not rfl).elim
/-- a still part that holds at the start and the end -/
theorem Sd.rebase {F1 : Hp} (S : Sd K { C with F0 := F1 } F H σ ρ) (h0 : Same C.F0 F1) (hs : ∀ a, C.H0 a ≠ none → C.F0 a = none → a ∉ C.lent → F1 a = none) : Sd K C F H σ ρ :=
  ⟨h0.trans S.le0, S.le, S.frame, S.alive, fun a h1 h2 hl => S.still a h1 (hs a h1 h2 hl) hl, S.bag, S.len, S.ok, S.own, S.dj⟩
theorem Sd.toBase (S : Sd K C F H σ ρ) : Sd K { C with F0 := F } F H σ ρ :=
  ⟨Same.refl _, S.le, S.frame, S.alive, fun a _ h2 _ => h2, S.bag, S.len, S.ok, S.own, S.dj⟩
/-- within a block nothing that stands is changed -/
theorem Sd.nest (S : Sd K C F H σ ρ) : Sd K ⟨H, F, C.bg, false, []⟩ F H σ ρ :=
  ⟨Same.refl _, S.le, fun _ _ e _ _ => e, fun _ h => h, fun _ _ h _ => h, S.bag, S.len, S.ok, fun i a q => ⟨(S.own i a q).1, fun z => (nomatch z), (S.own i a q).2.2⟩, S.dj⟩
theorem Sd.unnest (S0 : Sd K C F H σ ρ) (S : Sd K ⟨H, F, C.bg, false, []⟩ F' H' σ ρ) : Sd K C F' H' σ ρ :=
  ⟨S0.le0.trans S.le0, S.le, fun a o e hb hl => S.frame a o (S0.frame a o e hb hl) hb (by simp), fun a h => S.alive a (S0.alive a h), fun a h1 h2 hl => S.still a (S0.alive a h1) (S0.still a h1 h2 hl) (by simp), S.bag, S.len, S.ok,
    fun i a q => ⟨(S.own i a q).1, (S0.own i a q).2.1, (S.own i a q).2.2⟩, S.dj⟩
/-- what a slot alone holds is changed: the addresses of A, what stands elsewhere stays -/
theorem Sd.mutA {H2 F2 : Hp} {i : Nat} {t : DSlot} (S : Sd K C F H σ ρ) (hm : C.mu = true) (hi : i < σ.length) (fs : Same F F2) (le : Same F2 H2)
    (keep : ∀ a o, H a = some o → ¬ Owns (val σ i) (look ρ i) a → H2 a = some o) (al : ∀ a, H a ≠ none → H2 a ≠ none) (fst : ∀ a, F a = none → H a ≠ none → ¬ Owns (val σ i) (look ρ i) a → F2 a = none) (fl : ∀ a, Owns (val σ i) (look ρ i) a → C.H0 a ≠ none → a ∉ C.lent → F2 a = none)
    (ht : SlotOk K F2 H2 C.bg (val σ i) t) (hto : ∀ a, Owns (val σ i) t a → F2 a = none ∧ (H a = none ∨ Owns (val σ i) (look ρ i) a ∨ Apart C F H σ ρ a)) : Sd K C F2 H2 σ (put ρ i t) := by
  have hl : i < ρ.length := by rw [S.len]; exact hi
  have oth : ∀ j a, i ≠ j → Owns (val σ j) (look ρ j) a → ¬ Owns (val σ i) (look ρ i) a := fun j a h q z => h (S.dj i j a z q)
  have bgn : ∀ p, C.bg = some p → ¬ Owns (val σ i) (look ρ i) p.1 ∧ ¬ Owns (val σ i) (look ρ i) p.2 := fun p hp => ⟨fun z => ((S.own i _ z).2.2 p hp).1 rfl, fun z => ((S.own i _ z).2.2 p hp).2 rfl⟩
  have new : ∀ a, Owns (val σ i) t a → (C.H0 a = none ∨ a ∈ C.lent) ∧ (∀ p, C.bg = some p → a ≠ p.1 ∧ a ≠ p.2) ∧ ∀ j, i ≠ j → ¬ Owns (val σ j) (look ρ j) a := fun a z => by
    rcases (hto a z).2 with e | e | e
    rotate_left 2
    · exact ⟨.inl e.h0, e.bg, fun j _ => e.no j⟩
    · obtain ⟨g1, _, g3, g4⟩ := S.off e
      exact ⟨.inl g1, g3, fun j _ => g4 j⟩
    · obtain ⟨g1, g2, g3⟩ := S.own i a e
      exact ⟨g2 hm, g3, fun j hj z => oth j a hj z e⟩
  refine ⟨S.le0.trans fs, le, fun a o e hb hnl => ?_, fun a h => al a (S.alive a h), fun a h1 h2 hnl => ?_, fun p hp => ?_, by rw [put_length]; exact S.len, fun j => ?_, fun j a q => ?_, fun j k a q1 q2 => ?_⟩
  · refine keep a o (S.frame a o e hb hnl) fun z => ?_
    rcases (S.own i a z).2.1 hm with w | w
    · rw [w] at e; cases e
    · exact hnl w
  · by_cases z : Owns (val σ i) (look ρ i) a
    · exact fl a z h1 hnl
    · exact fst a (S.still a h1 h2 hnl) (S.alive a h1) z
  · have B := S.bag p hp
    obtain ⟨n1, n2⟩ := bgn p hp
    exact B.next fs (fst _ B.1 B.there.1 n1) (fst _ B.2.1 B.there.2 n2) (fun _ e => keep _ _ e n1) fun _ e => keep _ _ e n2
  · rw [look_put]
    by_cases h : i = j
    · subst h; rw [if_pos ⟨rfl, hl⟩]; exact ht
    · rw [if_neg (fun z => h z.1)]
      exact (S.ok j).next fs fun a ha o e => keep a o e (oth j a h ha)
  · rw [look_put] at q
    by_cases h : i = j
    · subst h; rw [if_pos ⟨rfl, hl⟩] at q
      obtain ⟨g1, g2, _⟩ := new a q
      exact ⟨(hto a q).1, fun _ => g1, g2⟩
    · rw [if_neg (fun z => h z.1)] at q
      obtain ⟨g1, g2, g3⟩ := S.own j a q
      exact ⟨fst a g1 ((S.ok j).there q) (oth j a h q), g2, g3⟩
  · rw [look_put] at q1 q2
    by_cases h : i = j
    · by_cases h' : i = k
      · rw [← h, ← h']
      · subst h
        rw [if_pos ⟨rfl, hl⟩] at q1
        rw [if_neg (fun z => h' z.1)] at q2
        exact absurd q2 ((new a q1).2.2 k h')
    · rw [if_neg (fun z => h z.1)] at q1
      by_cases h' : i = k
      · subst h'
        rw [if_pos ⟨rfl, hl⟩] at q2
        exact absurd q1 ((new a q2).2.2 j h)
      · rw [if_neg (fun z => h' z.1)] at q2; exact S.dj j k a q1 q2
/-- a list, a dict that a slot alone holds is changed -/
theorem Sd.mut {i : Nat} {a : Addr} {o : HO} {t : DSlot} (S : Sd K C F H σ ρ) (hm : C.mu = true) (hv : val σ i = some (.ref a)) (hw : Owns (val σ i) (look ρ i) a)
    (ht : SlotOk K F (upd H a o) C.bg (some (.ref a)) t) (hto : ∀ b, Owns (some (.ref a)) t b → b = a) : Sd K C F (upd H a o) σ (put ρ i t) := by
  obtain ⟨f1, f2, f3⟩ := S.own i a hw
  refine S.mutA hm (val_lt hv) (Same.refl _) (fun b u e => ?_) (fun b u e z => ?_) (fun b h => upd_alive h) (fun b h _ _ => h) (fun b q _ _ => (S.own i b q).1) (by rw [hv]; exact ht) fun b q => ?_
  · rw [upd_ne (fun h => by subst h; rw [f1] at e; cases e)]; exact S.le _ _ e
  · rw [upd_ne (fun h => by subst h; exact z hw)]; exact e
  · rw [hv] at q
    rw [hto b q]
    exact ⟨f1, .inr (.inl hw)⟩
/-- what a slot alone holds becomes still -/
theorem Sd.fz {i : Nat} {a : Addr} {o : HO} {d : PyData} (S : Sd K C F H σ ρ) (hmu : C.mu = true) (hv : val σ i = some (.ref a)) (hn : ∀ b, Owns (val σ i) (look ρ i) b → b = a) (hw : Owns (val σ i) (look ρ i) a) (hl0 : C.H0 a = none ∨ a ∈ C.lent) (ho : H a = some o) (hd : Is K (upd F a o) (.ref a) d) : Sd K C (upd F a o) H σ (put ρ i (.data d)) := by
  obtain ⟨f1, f2, f3⟩ := S.own i a hw
  have fs : Same F (upd F a o) := up_keep f1
  refine S.mutA hmu (val_lt hv) fs (fun b u e => ?_) (fun b u e _ => e) (fun b h => h) (fun b h _ z => ?_) (fun b q h0 hl => ?_) ⟨_, hv, hd⟩ fun b q => (q.not rfl).elim
  · by_cases h : b = a
    · subst h; rw [upd_same] at e; rw [ho]; exact e
    · rw [upd_ne h] at e; exact S.le _ _ e
  · rw [upd_ne (fun e => by subst e; exact z hw)]; exact h
  · have e := hn b q
    subst e
    rcases hl0 with w | w
    · exact absurd w h0
    · exact absurd w hl
/-- less is known of slots -/
theorem Sd.forget {ρ' : DEnv} (S : Sd K C F H σ ρ) (hl : ρ'.length = ρ.length) (h : ∀ i, look ρ' i = look ρ i ∨ look ρ' i = .undef) : Sd K C F H σ ρ' := by
  have own : ∀ i a, Owns (val σ i) (look ρ' i) a → Owns (val σ i) (look ρ i) a := fun i a q => by
    rcases h i with e | e
    · rw [e] at q; exact q
    · rw [e] at q; exact (q.not rfl).elim
  refine ⟨S.le0, S.le, S.frame, S.alive, S.still, S.bag, by rw [hl]; exact S.len, fun i => ?_, fun i a q => S.own i a (own i a q), fun i j a q1 q2 => S.dj i j a (own i a q1) (own j a q2)⟩
  rcases h i with e | e
  · rw [e]; exact S.ok i
  · rw [e]; trivial
end

/-! ### exceptions as data: the class, the fields -/
structure ExcD where
  cls : Addr
  fs : List (Str × PyData)
def ExcIs (K : KW) (F H : Hp) (c : Value) (dd : Option Addr) (x : ExcD) : Prop :=
  c = .ref x.cls ∧ ((dd = none ∧ x.fs = []) ∨ ∃ d fs, dd = some d ∧ H d = some (.xd fs) ∧ Paired (fun (p : Str × V) (q : Str × PyData) => p.1 = q.1 ∧ Is K F p.2 q.2) fs x.fs)
end DL
set_option Elab.async false
set_option linter.all false
set_option maxRecDepth 100000
set_option maxHeartbeats 4000000
/-! DL, the data layer (2): readings of expressions -/
namespace DL
open PySem PySem.Spec PyProof.Rows L2

/-- a reading: from the frame's data, to the value wanted, to the exception wanted -/
abbrev DE := DEnv → (PyData → Prop) → (ExcD → Prop) → Prop
abbrev DT := DEnv → (Bool → Prop) → (ExcD → Prop) → Prop
abbrev DL' := DEnv → (List PyData → Prop) → (ExcD → Prop) → Prop
abbrev DK := DEnv → (List (PyData × PyData) → Prop) → (ExcD → Prop) → Prop
abbrev DA := DEnv → (List DSlot → Prop) → (ExcD → Prop) → Prop

/-- readable now: still data, or a list, a dict that a slot alone holds -/
def IsO (K : KW) (F H : Hp) (v : V) (d : PyData) : Prop :=
  Is K F v d ∨ (∃ a xs ds, v = .ref a ∧ d = .list ds ∧ H a = some (.lst xs) ∧ xs.length ≤ sizeLine ∧ IsAll K F xs ds) ∨
    ∃ a o kvs, v = .ref a ∧ d = .dict kvs ∧ H a = some o ∧ DObj K F a kvs o
inductive AllO (K : KW) (F H : Hp) : List V → List PyData → Prop
  | nil : AllO K F H [] []
  | cons {v : V} {vs : List V} {d : PyData} {ds : List PyData} : IsO K F H v d → AllO K F H vs ds → AllO K F H (v :: vs) (d :: ds)
def ArgOk (K : KW) (F : Hp) (bg : Option Bag) (v : V) : DSlot → Prop
  | .data d => Is K F v d
  | .bag => ∃ p, bg = some p ∧ v = .ref p.1
  | _ => False
abbrev ArgsOk (K : KW) (F : Hp) (bg : Option Bag) : List V → List DSlot → Prop := Paired (ArgOk K F bg)

/-- what is wanted of exceptions -/
def Exits (K : KW) (W : WX) (C : Ctx) (σ : L2.St) (ρ : DEnv) (Ed : ExcD → Prop) : Prop :=
  ∀ F' H' c dd x, Sd K C F' H' σ ρ → ExcIs K F' H' c dd x → Ed x → W c dd σ H'

def tD (K : KW) (W : WX) (f : DE) : TE := fun σ H Q => ∃ C F ρ Qd Ed, Sd K C F H σ ρ ∧ f ρ Qd Ed ∧
  (∀ F' H' v d, Sd K C F' H' σ ρ → Same F F' → Is K F' v d → Qd d → Q v H') ∧ Exits K W C σ ρ Ed
/-- an operand: its value may be read as long as the frame stands -/
def tO (K : KW) (W : WX) (f : DE) : TE := fun σ H Q => ∃ C F ρ Qd Ed, Sd K C F H σ ρ ∧ f ρ Qd Ed ∧
  (∀ F' H' v d, Sd K C F' H' σ ρ → Same F F' → (∀ F2 H2, Sd K C F2 H2 σ ρ → Same F' F2 → IsO K F2 H2 v d) → Qd d → Q v H') ∧ Exits K W C σ ρ Ed
/-- a new list, apart -/
def tF (K : KW) (W : WX) (f : DL') : TE := fun σ H Q => ∃ C F ρ Qd Ed, Sd K C F H σ ρ ∧ f ρ Qd Ed ∧
  (∀ F' H' a xs ds, Sd K C F' H' σ ρ → Same F F' → Apart C F' H' σ ρ a → H' a = some (.lst xs) → xs.length ≤ sizeLine → IsAll K F' xs ds → Qd ds → Q (.ref a) H') ∧ Exits K W C σ ρ Ed
/-- a new dict, apart -/
def tG (K : KW) (W : WX) (f : DK) : TE := fun σ H Q => ∃ C F ρ Qd Ed, Sd K C F H σ ρ ∧ f ρ Qd Ed ∧
  (∀ F' H' a o kvs, Sd K C F' H' σ ρ → Same F F' → Apart C F' H' σ ρ a → H' a = some o → DObj K F' a kvs o → Qd kvs → Q (.ref a) H') ∧ Exits K W C σ ρ Ed
def tT (K : KW) (W : WX) (f : DT) : TT := fun σ H Q => ∃ C F ρ Qd Ed, Sd K C F H σ ρ ∧ f ρ Qd Ed ∧
  (∀ F' H' b, Sd K C F' H' σ ρ → Same F F' → Qd b → Q b H') ∧ Exits K W C σ ρ Ed
/-- arguments of defs -/
def tA (K : KW) (W : WX) (f : DA) : TA := fun σ H Q => ∃ C F ρ Qd Ed, Sd K C F H σ ρ ∧ f ρ Qd Ed ∧
  (∀ F' H' vs ss, Sd K C F' H' σ ρ → Same F F' → ArgsOk K F' C.bg vs ss → Qd ss → Q vs H') ∧ Exits K W C σ ρ Ed
/-- arguments of built-ins -/
def tB' (K : KW) (W : WX) (f : DL') : TA := fun σ H Q => ∃ C F ρ Qd Ed, Sd K C F H σ ρ ∧ f ρ Qd Ed ∧
  (∀ F' H' vs ds, Sd K C F' H' σ ρ → Same F F' → (∀ F2 H2, Sd K C F2 H2 σ ρ → Same F' F2 → AllO K F2 H2 vs ds) → Qd ds → Q vs H') ∧ Exits K W C σ ρ Ed

section
variable {K : KW} {C : Ctx} {F F' H H' : Hp} {σ : L2.St} {ρ : DEnv} {W : WX}
theorem Is.o {v : V} {d : PyData} (h : Is K F v d) : IsO K F H v d := .inl h
/-- what an own slot holds -/
theorem Sd.peek {i : Nat} {v : V} (S : Sd K C F H σ ρ) (hv : val σ i = some v) : (∀ d, look ρ i = .data d → IsO K F H v d) ∧ (∀ ds, look ρ i = .ownL ds → IsO K F H v (.list ds)) ∧ ∀ kvs, look ρ i = .ownD kvs → IsO K F H v (.dict kvs) := by
  have q := S.ok i
  refine ⟨fun d e => ?_, fun ds e => ?_, fun kvs e => ?_⟩
  · rw [e] at q; obtain ⟨u, h1, h2⟩ := q
    rw [hv] at h1; cases h1; exact h2.o
  · rw [e] at q; obtain ⟨a, xs, h1, h2, h3, h4⟩ := q
    rw [hv] at h1; cases h1; exact .inr (.inl ⟨a, xs, ds, rfl, rfl, h2, h3, h4⟩)
  · rw [e] at q; obtain ⟨a, o, h1, h2, h3⟩ := q
    rw [hv] at h1; cases h1; exact .inr (.inr ⟨a, o, kvs, rfl, rfl, h2, h3⟩)
end

/-! ### constants, names -/
def dC (d : PyData) : DE := fun _ Q _ => Q d
def dVar (i : Nat) : DE := fun ρ Q _ => match look ρ i with | .data d => Q d | _ => False
def dPeek (i : Nat) : DE := fun ρ Q _ => match look ρ i with | .data d => Q d | .ownL ds => Q (.list ds) | .ownD kvs => Q (.dict kvs) | _ => False
section
variable {X : Cx} {W : WX} {pos : Pos} {e : Expr} {es : List Expr}
theorem PE.weak {t t' : TE} (h : PE X e t) (k : ∀ σ H Q, t' σ H Q → t σ H Q) : PE X e t' := ⟨fun pins s σ H Q I q => h.run pins s σ H Q I (k σ H Q q)⟩
theorem PT.weak {t t' : TT} (h : PT X e t) (k : ∀ σ H Q, t' σ H Q → t σ H Q) : PT X e t' := ⟨fun pins s σ H Q I q => h.run pins s σ H Q I (k σ H Q q)⟩
theorem PW.weak {t t' : TT} (h : PW X e t) (k : ∀ σ H Q, t' σ H Q → t σ H Q) : PW X e t' := ⟨fun wh pins s σ H Q I q => h.run wh pins s σ H Q I (k σ H Q q)⟩
theorem PA.weak {t t' : TA} (h : PA X es t) (k : ∀ σ H Q, t' σ H Q → t σ H Q) : PA X es t' := ⟨fun pos pins s σ H Q I q => h.run pos pins s σ H Q I (k σ H Q q)⟩
theorem pd_int {i j} : PE X (.Constant (.int i) j pos) (tD X.kw W (dC (.int i))) := PE.weak pe_int fun σ H Q ⟨C, F, ρ, Qd, Ed, S, h, k, _⟩ => k F H _ _ S (Same.refl _) (.int i) h
theorem pd_bl {b j} : PE X (.Constant (.bool b) j pos) (tD X.kw W (dC (.bool b))) := PE.weak pe_bl fun σ H Q ⟨C, F, ρ, Qd, Ed, S, h, k, _⟩ => k F H _ _ S (Same.refl _) (.bl b) h
theorem pd_non {j} : PE X (.Constant .none j pos) (tD X.kw W (dC .none)) := PE.weak pe_non fun σ H Q ⟨C, F, ρ, Qd, Ed, S, h, k, _⟩ => k F H _ _ S (Same.refl _) .non h
theorem pd_str {x : Str} {j} (hz : x.length ≤ sizeLine := by size_fits) : PE X (.Constant (.str x) j pos) (tD X.kw W (dC (.str x))) := PE.weak pe_str fun σ H Q ⟨C, F, ρ, Qd, Ed, S, h, k, _⟩ => k F H _ _ S (Same.refl _) (.str x hz) h
theorem pd_name {i : Nat} (h : PE X e (tVar i)) : PE X e (tD X.kw W (dVar i)) := PE.weak h fun σ H Q ⟨C, F, ρ, Qd, Ed, S, h, k, _⟩ => by
  have q := S.ok i
  unfold dVar at h
  split at h
  · rename_i d e
    rw [e] at q
    obtain ⟨u, h1, h2⟩ := q
    exact ⟨u, val_some h1, k F H u d S (Same.refl _) h2 h⟩
  · exact h.elim
theorem po_name {i : Nat} (h : PE X e (tVar i)) : PE X e (tO X.kw W (dPeek i)) := PE.weak h fun σ H Q ⟨C, F, ρ, Qd, Ed, S, h, k, _⟩ => by
  have q := S.ok i
  unfold dPeek at h
  split at h
  · rename_i d e
    rw [e] at q
    obtain ⟨u, h1, h2⟩ := q
    exact ⟨u, val_some h1, k F H u d S (Same.refl _) (fun F2 H2 S2 _ => (S2.peek h1).1 d e) h⟩
  · rename_i ds e
    rw [e] at q
    obtain ⟨a, xs, h1, h2, h3, h4⟩ := q
    exact ⟨_, val_some h1, k F H _ _ S (Same.refl _) (fun F2 H2 S2 _ => (S2.peek h1).2.1 ds e) h⟩
  · rename_i kvs e
    rw [e] at q
    obtain ⟨a, o, h1, h2, h3⟩ := q
    exact ⟨_, val_some h1, k F H _ _ S (Same.refl _) (fun F2 H2 S2 _ => (S2.peek h1).2.2 kvs e) h⟩
  · exact h.elim
/-- the name in slot i -/
theorem dv (i : Nat) {x : Str} {pos : Pos} (hN : X.N[i]? = some x := by rfl) (hv : Vis X.env.scope x := by first | exact Or.inl rfl | exact Or.inr (Or.inl rfl) | exact Or.inr (Or.inr rfl)) (hd : (x == ("__debug__" : Str)) = false := by decide)
    (hcd : (x == ("__classdict__" : Str)) = false := by decide) : PE X (.Name x pos) (tD X.kw W (dVar i)) := pd_name (pe_var hN hv hd hcd)
theorem dp (i : Nat) {x : Str} {pos : Pos} (hN : X.N[i]? = some x := by rfl) (hv : Vis X.env.scope x := by first | exact Or.inl rfl | exact Or.inr (Or.inl rfl) | exact Or.inr (Or.inr rfl)) (hd : (x == ("__debug__" : Str)) = false := by decide)
    (hcd : (x == ("__classdict__" : Str)) = false := by decide) : PE X (.Name x pos) (tO X.kw W (dPeek i)) := po_name (pe_var hN hv hd hcd)
/-- still data is an operand -/
theorem dO {f : DE} (h : PE X e (tD X.kw W f)) : PE X e (tO X.kw W f) := PE.weak h fun σ H Q ⟨C, F, ρ, Qd, Ed, S, h, k, x⟩ =>
  ⟨C, F, ρ, Qd, Ed, S, h, fun F' H' v d S' s' i' q => k F' H' v d S' s' (fun F2 H2 _ s2 => (i'.up s2).o) q, x⟩
/-- a new list becomes still -/
def dFrz (f : DL') : DE := fun ρ Q E => f ρ (fun ds => Q (.list ds)) E
theorem dF {f : DL'} (h : PE X e (tF X.kw W f)) : PE X e (tD X.kw W (dFrz f)) := PE.weak h fun σ H Q ⟨C, F, ρ, Qd, Ed, S, h, k, x⟩ =>
  ⟨C, F, ρ, _, Ed, S, h, fun F' H' a xs ds S' s' ap e z i' q => k (upd F' a (.lst xs)) H' (.ref a) (.list ds) (S'.freeze ap e) (s'.trans fun b u q => by rw [upd_ne (ne_of_none q ap.f)]; exact q)
    (.lst upd_same z (i'.up fun b u q => by rw [upd_ne (ne_of_none q ap.f)]; exact q)) q, x⟩
def dFrzD (f : DK) : DE := fun ρ Q E => f ρ (fun kvs => Q (.dict kvs)) E
theorem dG {f : DK} (h : PE X e (tG X.kw W f)) : PE X e (tD X.kw W (dFrzD f)) := PE.weak h fun σ H Q ⟨C, F, ρ, Qd, Ed, S, h, k, x⟩ =>
  ⟨C, F, ρ, _, Ed, S, h, fun F' H' a o kvs S' s' ap e i' q => k (upd F' a o) H' (.ref a) (.dict kvs) (S'.freeze ap e) (s'.trans fun b u q => by rw [upd_ne (ne_of_none q ap.f)]; exact q)
    ((i'.up fun b u q => by rw [upd_ne (ne_of_none q ap.f)]; exact q).is upd_same) q, x⟩
/-- a module's constant -/
theorem pd_glob {x : Str} {d : PyData} {v : V} {u : Value} (hg : Gl X x) (hm : X.mg x = some u) (r : RelV v u) (hi : ∀ F : Hp, Is X.kw F v d) (hd : (x == ("__debug__" : Str)) = false := by decide) : PE X (.Name x pos) (tD X.kw W (dC d)) :=
  PE.weak (pe_glob hg hm r hd) fun σ H Q ⟨C, F, ρ, Qd, Ed, S, h, k, _⟩ => k F H v d S (Same.refl _) (hi F) h
end

/-! ### operators -/
def OpD (X : Cx) (r : R2) (g : PyData → PyData → (PyData → Prop) → Prop) : Prop :=
  ∀ C F H σ ρ v u x y Qz Q, Sd X.kw C F H σ ρ → IsO X.kw F H v x → IsO X.kw F H u y → g x y Qz → (∀ F' H' w z, Sd X.kw C F' H' σ ρ → Same F F' → Is X.kw F' w z → Qz z → Q w H') → r v u H Q
def UnD (X : Cx) (r : V → Hp → VK → Prop) (g : PyData → (PyData → Prop) → Prop) : Prop :=
  ∀ C F H σ ρ v x Qz Q, Sd X.kw C F H σ ρ → IsO X.kw F H v x → g x Qz → (∀ F' H' w z, Sd X.kw C F' H' σ ρ → Same F F' → Is X.kw F' w z → Qz z → Q w H') → r v H Q
/-- .. that gives a new list -/
def OpF (X : Cx) (r : R2) (g : PyData → PyData → (List PyData → Prop) → Prop) : Prop :=
  ∀ C F H σ ρ v u x y Qz Q, Sd X.kw C F H σ ρ → IsO X.kw F H v x → IsO X.kw F H u y → g x y Qz →
    (∀ F' H' a xs ds, Sd X.kw C F' H' σ ρ → Same F F' → Apart C F' H' σ ρ a → H' a = some (.lst xs) → xs.length ≤ sizeLine → IsAll X.kw F' xs ds → Qz ds → Q (.ref a) H') → r v u H Q
def CallD (X : Cx) (r : List V → Hp → VK → Prop) (g : List PyData → (PyData → Prop) → Prop) : Prop :=
  ∀ C F H σ ρ vs ds Qz Q, Sd X.kw C F H σ ρ → AllO X.kw F H vs ds → g ds Qz → (∀ F' H' w z, Sd X.kw C F' H' σ ρ → Same F F' → Is X.kw F' w z → Qz z → Q w H') → r vs H Q
def CallF (X : Cx) (r : List V → Hp → VK → Prop) (g : List PyData → (List PyData → Prop) → Prop) : Prop :=
  ∀ C F H σ ρ vs ds Qz Q, Sd X.kw C F H σ ρ → AllO X.kw F H vs ds → g ds Qz →
    (∀ F' H' a xs es, Sd X.kw C F' H' σ ρ → Same F F' → Apart C F' H' σ ρ a → H' a = some (.lst xs) → xs.length ≤ sizeLine → IsAll X.kw F' xs es → Qz es → Q (.ref a) H') → r vs H Q
def MtD (X : Cx) (r : V → List V → Hp → VK → Prop) (g : PyData → List PyData → (PyData → Prop) → Prop) : Prop :=
  ∀ C F H σ ρ v x vs ds Qz Q, Sd X.kw C F H σ ρ → IsO X.kw F H v x → AllO X.kw F H vs ds → g x ds Qz → (∀ F' H' w z, Sd X.kw C F' H' σ ρ → Same F F' → Is X.kw F' w z → Qz z → Q w H') → r v vs H Q

def dOp (g : PyData → PyData → (PyData → Prop) → Prop) (fa fb : DE) : DE := fun ρ Q E => fa ρ (fun x => fb ρ (fun y => g x y Q) E) E
def dOpF (g : PyData → PyData → (List PyData → Prop) → Prop) (fa fb : DE) : DL' := fun ρ Q E => fa ρ (fun x => fb ρ (fun y => g x y Q) E) E
def dUn (g : PyData → (PyData → Prop) → Prop) (fa : DE) : DE := fun ρ Q E => fa ρ (fun x => g x Q) E
section
variable {X : Cx} {W : WX} {pos : Pos} {a b c e : Expr} {es : List Expr} {fa fb fc : DE} {r : R2} {g : PyData → PyData → (PyData → Prop) → Prop}
theorem op_read (hd : OpD X r g) : ∀ σ H Q, tD X.kw W (dOp g fa fb) σ H Q → tOp r (tO X.kw W fa) (tO X.kw W fb) σ H Q := fun σ H Q ⟨C, F, ρ, Qd, Ed, S, h, k, x⟩ =>
  ⟨C, F, ρ, _, Ed, S, h, fun F1 H1 v1 d1 S1 s1 i1 q1 => ⟨C, F1, ρ, _, Ed, S1, q1, fun F2 H2 v2 d2 S2 s2 i2 q2 =>
    hd C F2 H2 σ ρ v1 v2 d1 d2 Qd Q S2 (i1 F2 H2 S2 s2) (i2 F2 H2 S2 (Same.refl _)) q2 fun F3 H3 w z S3 s3 i3 q3 => k F3 H3 w z S3 (s1.trans (s2.trans s3)) i3 q3, x⟩, x⟩
theorem pd_op {op : Operator} (ho : OpR X (binaryOp op) r) (hd : OpD X r g) (ha : PE X a (tO X.kw W fa)) (hb : PE X b (tO X.kw W fb)) : PE X (.BinOp a op b pos) (tD X.kw W (dOp g fa fb)) :=
  PE.weak (pe_op ho ha hb) (op_read hd)
theorem pf_op {op : Operator} {g : PyData → PyData → (List PyData → Prop) → Prop} (ho : OpR X (binaryOp op) r) (hd : OpF X r g) (ha : PE X a (tO X.kw W fa)) (hb : PE X b (tO X.kw W fb)) : PE X (.BinOp a op b pos) (tF X.kw W (dOpF g fa fb)) :=
  PE.weak (pe_op ho ha hb) fun σ H Q ⟨C, F, ρ, Qd, Ed, S, h, k, x⟩ =>
    ⟨C, F, ρ, _, Ed, S, h, fun F1 H1 v1 d1 S1 s1 i1 q1 => ⟨C, F1, ρ, _, Ed, S1, q1, fun F2 H2 v2 d2 S2 s2 i2 q2 =>
      hd C F2 H2 σ ρ v1 v2 d1 d2 Qd Q S2 (i1 F2 H2 S2 s2) (i2 F2 H2 S2 (Same.refl _)) q2 fun F3 H3 w xs ds S3 s3 ap e z i3 q3 => k F3 H3 w xs ds S3 (s1.trans (s2.trans s3)) ap e z i3 q3, x⟩, x⟩
theorem pd_un {op : UnaryOp} {r : V → Hp → VK → Prop} {g : PyData → (PyData → Prop) → Prop} (ho : UnR X (unaryOp op) r) (hd : UnD X r g) (ha : PE X a (tO X.kw W fa)) : PE X (.UnaryOp op a pos) (tD X.kw W (dUn g fa)) :=
  PE.weak (pe_un ho ha) fun σ H Q ⟨C, F, ρ, Qd, Ed, S, h, k, x⟩ =>
    ⟨C, F, ρ, _, Ed, S, h, fun F1 H1 v1 d1 S1 s1 i1 q1 => hd C F1 H1 σ ρ v1 d1 Qd Q S1 (i1 F1 H1 S1 (Same.refl _)) q1 fun F2 H2 w z S2 s2 i2 q2 => k F2 H2 w z S2 (s1.trans s2) i2 q2, x⟩
theorem pd_cmp {op : CmpOp} (ho : OpR X (compareOp op) r) (hd : OpD X r g) (ha : PE X a (tO X.kw W fa)) (hb : PE X b (tO X.kw W fb)) (hm : behindInMarks op b = false := by first | exact nomark _ | rfl) : PE X (.Compare a [op] [b] pos) (tD X.kw W (dOp g fa fb)) :=
  PE.weak (pe_cmpR ho ha hb hm) (op_read hd)
/-- a value as a test: it is a truth -/
def dTest (f : DE) : DT := fun ρ Q E => f ρ (fun d => ∃ k, d = .bool k ∧ Q k) E
theorem test_read {f : DE} {t : TE} (h : ∀ σ H Q, tD X.kw W f σ H Q → t σ H Q) : ∀ σ H Q, tT X.kw W (dTest f) σ H Q → tTest t σ H Q := fun σ H Q ⟨C, F, ρ, Qd, Ed, S, q, k, x⟩ =>
  h σ H _ ⟨C, F, ρ, _, Ed, S, q, fun F' H' v d S' s' i' q' => by
    obtain ⟨c, rfl, q'⟩ := q'
    cases i'
    exact ⟨c, rfl, k F' H' c S' s' q'⟩, x⟩
theorem pt_cmpD {op : CmpOp} (ho : OpR X (compareOp op) r) (hd : OpD X r g) (ha : PE X a (tO X.kw W fa)) (hb : PE X b (tO X.kw W fb)) (hm : behindInMarks op b = false := by first | exact nomark _ | rfl) : PT X (.Compare a [op] [b] pos) (tT X.kw W (dTest (dOp g fa fb))) :=
  PT.weak (pt_cmpR ho ha hb hm) (test_read (op_read hd))
theorem pt_valD {f : DE} (h : PE X e (tD X.kw W f)) (he : ∀ whole, isTrue e X.env whole = (do let v ← whole; standAt e.pos; holding [v] (truthy v)) := by intro _; rfl) : PT X e (tT X.kw W (dTest f)) :=
  PT.weak (pt_val h he) (test_read fun _ _ _ q => q)
/-- a op b op' c -/
def dChain (g g' : PyData → PyData → (PyData → Prop) → Prop) (fa fb fc : DE) : DE := fun ρ Q E => fa ρ (fun x => fb ρ (fun y => g x y fun z => ∃ k, z = .bool k ∧ if k = true then fc ρ (fun w => g' y w Q) E else Q (.bool false)) E) E
theorem chain_read {r' : R2} {g' : PyData → PyData → (PyData → Prop) → Prop} (hd : OpD X r g) (hd' : OpD X r' g') : ∀ σ H Q, tD X.kw W (dChain g g' fa fb fc) σ H Q → tChain r r' (tO X.kw W fa) (tO X.kw W fb) (tO X.kw W fc) σ H Q := fun σ H Q ⟨C, F, ρ, Qd, Ed, S, h, k, x⟩ =>
  ⟨C, F, ρ, _, Ed, S, h, fun F1 H1 v1 d1 S1 s1 i1 q1 => ⟨C, F1, ρ, _, Ed, S1, q1, fun F2 H2 v2 d2 S2 s2 i2 q2 =>
    hd C F2 H2 σ ρ v1 v2 d1 d2 _ _ S2 (i1 F2 H2 S2 s2) (i2 F2 H2 S2 (Same.refl _)) q2 fun F3 H3 w z S3 s3 i3 q3 => by
      obtain ⟨c, rfl, q3⟩ := q3
      cases i3
      refine ⟨c, rfl, ?_⟩
      cases c with
      | false => exact iteF (k F3 H3 _ _ S3 (s1.trans (s2.trans s3)) (.bl false) (by simpa using q3))
      | true => exact iteT ⟨C, F3, ρ, _, Ed, S3, (by simpa using q3), fun F4 H4 v4 d4 S4 s4 i4 q4 =>
          hd' C F4 H4 σ ρ v2 v4 d2 d4 Qd Q S4 (i2 F4 H4 S4 (s3.trans s4)) (i4 F4 H4 S4 (Same.refl _)) q4 fun F5 H5 w z S5 s5 i5 q5 => k F5 H5 w z S5 (s1.trans (s2.trans (s3.trans (s4.trans s5)))) i5 q5, x⟩, x⟩, x⟩
end
end DL
set_option Elab.async false
set_option linter.all false
set_option maxRecDepth 100000
set_option maxHeartbeats 4000000
/-! DL, the data layer (3): chains, truths, displays, calls, subscripts, comprehensions -/
namespace DL
open PySem PySem.Spec PyProof.Rows L2
section
variable {X : Cx} {W : WX} {pos : Pos} {a b c e : Expr} {es : List Expr} {fa fb fc : DE} {r r' : R2} {g g' : PyData → PyData → (PyData → Prop) → Prop}
theorem pd_chain {op op' : CmpOp} (ho : OpR X (compareOp op) r) (hd : OpD X r g) (ho' : OpR X (compareOp op') r') (hd' : OpD X r' g') (ha : PE X a (tO X.kw W fa)) (hb : PE X b (tO X.kw W fb)) (hc : PE X c (tO X.kw W fc))
    (hm : lastMarks [op, op'] [b, c] = false := by with_unfolding_all rfl) : PE X (.Compare a [op, op'] [b, c] pos) (tD X.kw W (dChain g g' fa fb fc)) := PE.weak (pe_chain ho ho' ha hb hc hm) (chain_read hd hd')
theorem pt_chainD {op op' : CmpOp} (ho : OpR X (compareOp op) r) (hd : OpD X r g) (ho' : OpR X (compareOp op') r') (hd' : OpD X r' g') (ha : PE X a (tO X.kw W fa)) (hb : PE X b (tO X.kw W fb)) (hc : PE X c (tO X.kw W fc))
    (hm : lastMarks [op, op'] [b, c] = false := by with_unfolding_all rfl) : PT X (.Compare a [op, op'] [b, c] pos) (tT X.kw W (dTest (dChain g g' fa fb fc))) := PT.weak (pt_chain ho ho' ha hb hc hm) (test_read (chain_read hd hd'))

/-! ### and, or, not -/
variable {ta tb tc : DT} {rest : List Expr}
def dAnd (t u : DT) : DT := fun ρ Q E => t ρ (fun c => if c = true then u ρ Q E else Q false) E
def dOr (t u : DT) : DT := fun ρ Q E => t ρ (fun c => if c = true then Q true else u ρ Q E) E
def dNot (t : DT) : DT := fun ρ Q E => t ρ (fun c => Q (!c)) E
theorem pw_andD1 (ha : PT X a (tT X.kw W ta)) : PW X (.BoolOp .And [a] pos) (tT X.kw W ta) := pw_and1 ha
theorem pw_orD1 (ha : PT X a (tT X.kw W ta)) : PW X (.BoolOp .Or [a] pos) (tT X.kw W ta) := pw_or1 ha
theorem pw_andD (ha : PT X a (tT X.kw W ta)) (hb : PW X (.BoolOp .And (b :: rest) pos) (tT X.kw W tb)) : PW X (.BoolOp .And (a :: b :: rest) pos) (tT X.kw W (dAnd ta tb)) :=
  PW.weak (pw_and ha hb) fun σ H Q ⟨C, F, ρ, Qd, Ed, S, h, k, x⟩ => ⟨C, F, ρ, _, Ed, S, h, fun F1 H1 c S1 s1 q1 => by
    cases c with
    | true => exact iteT ⟨C, F1, ρ, _, Ed, S1, (by simpa using q1), fun F2 H2 d S2 s2 q2 => k F2 H2 d S2 (s1.trans s2) q2, x⟩
    | false => exact iteF (k F1 H1 false S1 s1 (by simpa using q1)), x⟩
theorem pw_orD (ha : PT X a (tT X.kw W ta)) (hb : PW X (.BoolOp .Or (b :: rest) pos) (tT X.kw W tb)) : PW X (.BoolOp .Or (a :: b :: rest) pos) (tT X.kw W (dOr ta tb)) :=
  PW.weak (pw_or ha hb) fun σ H Q ⟨C, F, ρ, Qd, Ed, S, h, k, x⟩ => ⟨C, F, ρ, _, Ed, S, h, fun F1 H1 c S1 s1 q1 => by
    cases c with
    | true => exact iteT (k F1 H1 true S1 s1 (by simpa using q1))
    | false => exact iteF ⟨C, F1, ρ, _, Ed, S1, (by simpa using q1), fun F2 H2 d S2 s2 q2 => k F2 H2 d S2 (s1.trans s2) q2, x⟩, x⟩
theorem pt_notD (ha : PT X a (tT X.kw W ta)) : PT X (.UnaryOp .Not a pos) (tT X.kw W (dNot ta)) :=
  PT.weak (pt_not ha) fun σ H Q ⟨C, F, ρ, Qd, Ed, S, h, k, x⟩ => ⟨C, F, ρ, _, Ed, S, h, fun F1 H1 c S1 s1 q1 => k F1 H1 (!c) S1 s1 q1, x⟩
/-- .. as values: all but the last are truths -/
def dAndV (fa fb : DE) : DE := fun ρ Q E => fa ρ (fun d => ∃ k, d = .bool k ∧ if k = true then fb ρ Q E else Q (.bool false)) E
def dOrV (fa fb : DE) : DE := fun ρ Q E => fa ρ (fun d => ∃ k, d = .bool k ∧ if k = true then Q (.bool true) else fb ρ Q E) E
def dNotV (fa : DE) : DE := fun ρ Q E => fa ρ (fun d => ∃ k, d = .bool k ∧ Q (.bool (!k))) E
theorem pd_one {op} (ha : PE X a (tD X.kw W fa)) : PE X (.BoolOp op [a] pos) (tD X.kw W fa) := pe_one ha
theorem pd_and (ha : PE X a (tD X.kw W fa)) (hb : PE X (.BoolOp .And (b :: rest) pos) (tD X.kw W fb)) : PE X (.BoolOp .And (a :: b :: rest) pos) (tD X.kw W (dAndV fa fb)) :=
  PE.weak (pe_and ha hb) fun σ H Q ⟨C, F, ρ, Qd, Ed, S, h, k, x⟩ => ⟨C, F, ρ, _, Ed, S, h, fun F1 H1 v d S1 s1 i1 q1 => by
    obtain ⟨c, rfl, q1⟩ := q1
    cases i1
    refine ⟨c, rfl, ?_⟩
    cases c with
    | true => exact iteT ⟨C, F1, ρ, _, Ed, S1, (by simpa using q1), fun F2 H2 v d S2 s2 i2 q2 => k F2 H2 v d S2 (s1.trans s2) i2 q2, x⟩
    | false => exact iteF (k F1 H1 _ _ S1 s1 (.bl false) (by simpa using q1)), x⟩
theorem pd_or (ha : PE X a (tD X.kw W fa)) (hb : PE X (.BoolOp .Or (b :: rest) pos) (tD X.kw W fb)) : PE X (.BoolOp .Or (a :: b :: rest) pos) (tD X.kw W (dOrV fa fb)) :=
  PE.weak (pe_or ha hb) fun σ H Q ⟨C, F, ρ, Qd, Ed, S, h, k, x⟩ => ⟨C, F, ρ, _, Ed, S, h, fun F1 H1 v d S1 s1 i1 q1 => by
    obtain ⟨c, rfl, q1⟩ := q1
    cases i1
    refine ⟨c, rfl, ?_⟩
    cases c with
    | true => exact iteT (k F1 H1 _ _ S1 s1 (.bl true) (by simpa using q1))
    | false => exact iteF ⟨C, F1, ρ, _, Ed, S1, (by simpa using q1), fun F2 H2 v d S2 s2 i2 q2 => k F2 H2 v d S2 (s1.trans s2) i2 q2, x⟩, x⟩
theorem pd_not (ha : PE X a (tD X.kw W fa)) : PE X (.UnaryOp .Not a pos) (tD X.kw W (dNotV fa)) :=
  PE.weak (pe_not ha) fun σ H Q ⟨C, F, ρ, Qd, Ed, S, h, k, x⟩ => ⟨C, F, ρ, _, Ed, S, h, fun F1 H1 v d S1 s1 i1 q1 => by
    obtain ⟨c, rfl, q1⟩ := q1
    cases i1
    exact ⟨c, rfl, k F1 H1 _ _ S1 s1 (.bl _) q1⟩, x⟩
def dIf (t : DT) (fa fb : DE) : DE := fun ρ Q E => t ρ (fun c => if c = true then fa ρ Q E else fb ρ Q E) E
theorem pd_if (hc : PT X c (tT X.kw W tc)) (ha : PE X a (tD X.kw W fa)) (hb : PE X b (tD X.kw W fb)) : PE X (.IfExp c a b pos) (tD X.kw W (dIf tc fa fb)) :=
  PE.weak (pe_ifExp hc ha hb) fun σ H Q ⟨C, F, ρ, Qd, Ed, S, h, k, x⟩ => ⟨C, F, ρ, _, Ed, S, h, fun F1 H1 c S1 s1 q1 => by
    cases c with
    | true => exact iteT ⟨C, F1, ρ, _, Ed, S1, (by simpa using q1), fun F2 H2 v d S2 s2 i2 q2 => k F2 H2 v d S2 (s1.trans s2) i2 q2, x⟩
    | false => exact iteF ⟨C, F1, ρ, _, Ed, S1, (by simpa using q1), fun F2 H2 v d S2 s2 i2 q2 => k F2 H2 v d S2 (s1.trans s2) i2 q2, x⟩, x⟩

/-! ### arguments of built-ins, displays -/
variable {f : DE} {fs : DL'}
def dNil : DL' := fun _ Q _ => Q []
def dCons (f : DE) (fs : DL') : DL' := fun ρ Q E => f ρ (fun d => fs ρ (fun ds => Q (d :: ds)) E) E
theorem pb_nil : PA X [] (tB' X.kw W dNil) := PA.weak pa_nil fun σ H Q ⟨C, F, ρ, Qd, Ed, S, h, k, _⟩ => k F H _ _ S (Same.refl _) (fun _ _ _ _ => .nil) h
theorem pb_cons (ha : PE X e (tO X.kw W f)) (hr : PA X es (tB' X.kw W fs)) (hs : starEach (e :: es) X.env = (false, eval e X.env) :: starEach es X.env := by rfl) : PA X (e :: es) (tB' X.kw W (dCons f fs)) :=
  PA.weak (pa_cons ha hr hs) fun σ H Q ⟨C, F, ρ, Qd, Ed, S, h, k, x⟩ => ⟨C, F, ρ, _, Ed, S, h, fun F1 H1 v d S1 s1 i1 q1 => ⟨C, F1, ρ, _, Ed, S1, q1, fun F2 H2 vs ds S2 s2 i2 q2 =>
    k F2 H2 _ _ S2 (s1.trans s2) (fun F3 H3 S3 s3 => .cons (i1 F3 H3 S3 (s2.trans s3)) (i2 F3 H3 S3 s3)) q2, x⟩, x⟩
/-- items of displays: still data -/
def tS (K : KW) (W : WX) (f : DL') : TA := fun σ H Q => ∃ C F ρ Qd Ed, Sd K C F H σ ρ ∧ f ρ Qd Ed ∧
  (∀ F' H' vs ds, Sd K C F' H' σ ρ → Same F F' → IsAll K F' vs ds → Qd ds → Q vs H') ∧ Exits K W C σ ρ Ed
theorem ps_nil' : PA X [] (tS X.kw W dNil) := PA.weak pa_nil fun σ H Q ⟨C, F, ρ, Qd, Ed, S, h, k, _⟩ => k F H _ _ S (Same.refl _) .nil h
theorem ps_cons' (ha : PE X e (tD X.kw W f)) (hr : PA X es (tS X.kw W fs)) (hs : starEach (e :: es) X.env = (false, eval e X.env) :: starEach es X.env := by rfl) : PA X (e :: es) (tS X.kw W (dCons f fs)) :=
  PA.weak (pa_cons ha hr hs) fun σ H Q ⟨C, F, ρ, Qd, Ed, S, h, k, x⟩ => ⟨C, F, ρ, _, Ed, S, h, fun F1 H1 v d S1 s1 i1 q1 => ⟨C, F1, ρ, _, Ed, S1, q1, fun F2 H2 vs ds S2 s2 i2 q2 =>
    k F2 H2 _ _ S2 (s1.trans s2) (.cons (i1.up s2) i2) q2, x⟩, x⟩
/-- (a, b, ..) -/
def dTup (fs : DL') : DE := fun ρ Q E => fs ρ (fun ds => ds.length ≤ sizeLine ∧ Q (.tuple ds)) E
theorem pd_tup {x1} (h : PA X es (tS X.kw W fs)) : PE X (.Tuple es x1 pos) (tD X.kw W (dTup fs)) := PE.weak (pe_tupS h) fun σ H Q ⟨C, F, ρ, Qd, Ed, S, h, k, x⟩ =>
  ⟨C, F, ρ, _, Ed, S, h, fun F1 H1 vs ds S1 s1 i1 q1 => ⟨by rw [i1.length]; exact q1.1, fun p o hp ho => by
    have s2 : Same F1 (upd F1 p (.frz o (.tup vs))) := fun b u q => by rw [upd_ne (ne_of_none q (S1.le.free hp))]; exact q
    exact k (upd F1 p (.frz o (.tup vs))) _ (.ref p) (.tuple ds) (S1.laid hp) (s1.trans s2) (.tup (.of upd_same ho) (by rw [i1.length]; exact q1.1) (i1.up s2)) q1.2⟩, x⟩
/-- [a, b, ..], new -/
def dLst (fs : DL') : DL' := fun ρ Q E => fs ρ (fun ds => ds.length ≤ sizeLine ∧ Q ds) E
theorem pf_lst (h : PA X es (tS X.kw W fs)) : PE X (.List es pos) (tF X.kw W (dLst fs)) := PE.weak (pe_lst h) fun σ H Q ⟨C, F, ρ, Qd, Ed, S, h, k, x⟩ =>
  ⟨C, F, ρ, _, Ed, S, h, fun F1 H1 vs ds S1 s1 i1 q1 => ⟨by rw [i1.length]; exact q1.1, fun p hp =>
    let ap := S1.new hp
    k F1 _ p vs ds (S1.fresh hp) s1 ⟨ap.f, ap.h0, ap.bg, ap.no⟩ upd_same (by rw [i1.length]; exact q1.1) i1 q1.2⟩, x⟩

/-! ### calls of built-ins -/
def dCall (g : List PyData → (PyData → Prop) → Prop) (fs : DL') : DE := fun ρ Q E => fs ρ (fun ds => g ds Q) E
def dCallF (g : List PyData → (List PyData → Prop) → Prop) (fs : DL') : DL' := fun ρ Q E => fs ρ (fun ds => g ds Q) E
variable {x : Str} {p : Pos} {id T : String} {rc : List V → Hp → VK → Prop} {gc : List PyData → (PyData → Prop) → Prop} {gf : List PyData → (List PyData → Prop) → Prop}
theorem call_read (hd : CallD X rc gc) : ∀ σ H Q, tD X.kw W (dCall gc fs) σ H Q → tCB rc (tB' X.kw W fs) σ H Q := fun σ H Q ⟨C, F, ρ, Qd, Ed, S, h, k, x⟩ =>
  ⟨C, F, ρ, _, Ed, S, h, fun F1 H1 vs ds S1 s1 i1 q1 => hd C F1 H1 σ ρ vs ds Qd Q S1 (i1 F1 H1 S1 (Same.refl _)) q1 fun F2 H2 w z S2 s2 i2 q2 => k F2 H2 w z S2 (s1.trans s2) i2 q2, x⟩
theorem callF_read (hd : CallF X rc gf) : ∀ σ H Q, tF X.kw W (dCallF gf fs) σ H Q → tCB rc (tB' X.kw W fs) σ H Q := fun σ H Q ⟨C, F, ρ, Qd, Ed, S, h, k, x⟩ =>
  ⟨C, F, ρ, _, Ed, S, h, fun F1 H1 vs ds S1 s1 i1 q1 => hd C F1 H1 σ ρ vs ds Qd Q S1 (i1 F1 H1 S1 (Same.refl _)) q1 fun F2 H2 a xs es S2 s2 ap e z i2 q2 => k F2 H2 a xs es S2 (s1.trans s2) ap e z i2 q2, x⟩
theorem pd_callB (hc : CallR X (.builtin id) rc) (hd : CallD X rc gc) (hm : X.mg x = none) (ha : PA X (e :: es) (tB' X.kw W fs)) (hg : Gl X x := by rfl) (hv : bootBuiltins x = some (.builtin id) := by first | rfl | decide +kernel) (hn : x ≠ "__name__" := by decide) (hdb : (x == ("__debug__" : Str)) = false := by decide)
    (he : starEach (e :: es) X.env = (false, eval e X.env) :: starEach es X.env := by rfl) (hpl : (backTo pos (starEach es X.env)).any (·.1) = false := by rfl) : PE X (.Call (.Name x p) (e :: es) [] pos) (tD X.kw W (dCall gc fs)) :=
  PE.weak (pe_callB hc hg hm hv ha hn hdb he hpl) (call_read hd)
theorem pd_callTy (hc : CallR X (.type T) rc) (hd : CallD X rc gc) (hm : X.mg x = none) (ha : PA X (e :: es) (tB' X.kw W fs)) (hg : Gl X x := by rfl) (hv : bootBuiltins x = some (.type T) := by first | rfl | decide +kernel) (hn : x ≠ "__name__" := by decide) (hdb : (x == ("__debug__" : Str)) = false := by decide)
    (he : starEach (e :: es) X.env = (false, eval e X.env) :: starEach es X.env := by rfl) (hpl : (backTo pos (starEach es X.env)).any (·.1) = false := by rfl) : PE X (.Call (.Name x p) (e :: es) [] pos) (tD X.kw W (dCall gc fs)) :=
  PE.weak (pe_callTy hc hg hm hv ha hn hdb he hpl) (call_read hd)
theorem pf_callB (hc : CallR X (.builtin id) rc) (hd : CallF X rc gf) (hm : X.mg x = none) (ha : PA X (e :: es) (tB' X.kw W fs)) (hg : Gl X x := by rfl) (hv : bootBuiltins x = some (.builtin id) := by first | rfl | decide +kernel) (hn : x ≠ "__name__" := by decide) (hdb : (x == ("__debug__" : Str)) = false := by decide)
    (he : starEach (e :: es) X.env = (false, eval e X.env) :: starEach es X.env := by rfl) (hpl : (backTo pos (starEach es X.env)).any (·.1) = false := by rfl) : PE X (.Call (.Name x p) (e :: es) [] pos) (tF X.kw W (dCallF gf fs)) :=
  PE.weak (pe_callB hc hg hm hv ha hn hdb he hpl) (callF_read hd)
theorem pf_callTy (hc : CallR X (.type T) rc) (hd : CallF X rc gf) (hm : X.mg x = none) (ha : PA X (e :: es) (tB' X.kw W fs)) (hg : Gl X x := by rfl) (hv : bootBuiltins x = some (.type T) := by first | rfl | decide +kernel) (hn : x ≠ "__name__" := by decide) (hdb : (x == ("__debug__" : Str)) = false := by decide)
    (he : starEach (e :: es) X.env = (false, eval e X.env) :: starEach es X.env := by rfl) (hpl : (backTo pos (starEach es X.env)).any (·.1) = false := by rfl) : PE X (.Call (.Name x p) (e :: es) [] pos) (tF X.kw W (dCallF gf fs)) :=
  PE.weak (pe_callTy hc hg hm hv ha hn hdb he hpl) (callF_read hd)

/-! ### calls of defs -/
/-- what a def is worth: arguments, value wanted, exception wanted -/
abbrev DFn := List DSlot → (PyData → Prop) → (ExcD → Prop) → Prop
/-- behind a call -/
structure Post (F F' H H' : Hp) (bg : Option Bag) (lent : List Addr) : Prop where
  f : Same F F'
  le : Same F' H'
  keep : ∀ a o, H a = some o → (∀ p, bg = some p → a ≠ p.1 ∧ a ≠ p.2) → a ∉ lent → H' a = some o
  alive : ∀ a, H a ≠ none → H' a ≠ none
  still : ∀ a, H a ≠ none → F a = none → a ∉ lent → F' a = none
/-- the promise of a def that is worth fn: the source of draws is handed in as an argument, or not at all -/
def spD (K : KW) (fn : DFn) : Sp := fun vs H Q E => ∃ F bg ss Qd Ed, Same F H ∧ (∀ p, bg = some p → BagOk K F H p) ∧ ArgsOk K F bg vs ss ∧ fn ss Qd Ed ∧
  (∀ F' H' v d, Post F F' H H' bg [] → (∀ p, bg = some p → BagOk K F' H' p) → Is K F' v d → Qd d → Q v H') ∧
  (∀ F' H' c dd x, Post F F' H H' bg [] → (∀ p, bg = some p → BagOk K F' H' p) → ExcIs K F' H' c dd x → Ed x → E c dd H')
/-- the frame stands behind a call -/
theorem Sd.post {K : KW} {C : Ctx} {F F' H H' : Hp} {σ : L2.St} {ρ : DEnv} (S : Sd K C F H σ ρ) (P : Post F F' H H' C.bg []) (hb : ∀ p, C.bg = some p → BagOk K F' H' p) : Sd K C F' H' σ ρ := by
  refine ⟨S.le0.trans P.f, P.le, fun a o e hb hl => P.keep a o (S.frame a o e hb hl) hb (by simp), fun a h => P.alive a (S.alive a h), fun a h1 h2 hl => P.still a (S.alive a h1) (S.still a h1 h2 hl) (by simp), hb, S.len,
    fun i => (S.ok i).next P.f fun a ha o e => P.keep a o e (S.own i a ha).2.2 (by simp), fun i a ho => ?_, S.dj⟩
  obtain ⟨h1, h2, h3⟩ := S.own i a ho
  exact ⟨P.still a ((S.ok i).there ho) h1 (by simp), h2, h3⟩
/-- .. that of another source: none is handed over -/
theorem Post.less {F F' H H' : Hp} {bg : Option Bag} (P : Post F F' H H' none []) : Post F F' H H' bg [] := ⟨P.f, P.le, fun a o e _ => P.keep a o e (fun _ z => nomatch z), P.alive, P.still⟩
variable {fas : DA}
def aNil : DA := fun _ Q _ => Q []
def aCons (f : DE) (fs : DA) : DA := fun ρ Q E => f ρ (fun d => fs ρ (fun ss => Q (.data d :: ss)) E) E
/-- the source of draws, from slot i -/
def aBag (i : Nat) (fs : DA) : DA := fun ρ Q E => match look ρ i with | .bag => fs ρ (fun ss => Q (.bag :: ss)) E | _ => False
theorem ArgsOk.up {K : KW} {F F' : Hp} {bg : Option Bag} (s : Same F F') {vs : List V} {ss : List DSlot} (h : ArgsOk K F bg vs ss) : ArgsOk K F' bg vs ss := by
  refine Paired.mapP h fun v t q => ?_
  cases t with
  | data d => exact Is.up (show Is K F v d from q) s
  | bag => exact q
  | undef => exact q
  | ownL _ => exact q
  | ownD _ => exact q
  | rcd _ _ _ => exact q
theorem qa_nil : PA X [] (tA X.kw W aNil) := PA.weak pa_nil fun σ H Q ⟨C, F, ρ, Qd, Ed, S, h, k, _⟩ => k F H _ _ S (Same.refl _) .nil h
theorem qa_cons (ha : PE X e (tD X.kw W f)) (hr : PA X es (tA X.kw W fas)) (hs : starEach (e :: es) X.env = (false, eval e X.env) :: starEach es X.env := by rfl) : PA X (e :: es) (tA X.kw W (aCons f fas)) :=
  PA.weak (pa_cons ha hr hs) fun σ H Q ⟨C, F, ρ, Qd, Ed, S, h, k, x⟩ => ⟨C, F, ρ, _, Ed, S, h, fun F1 H1 v d S1 s1 i1 q1 => ⟨C, F1, ρ, _, Ed, S1, q1, fun F2 H2 vs ss S2 s2 i2 q2 =>
    k F2 H2 (v :: vs) (.data d :: ss) S2 (s1.trans s2) (.cons (show ArgOk X.kw F2 C.bg v (.data d) from i1.up s2) i2) q2, x⟩, x⟩
theorem qa_bag' {i : Nat} (ha : PE X e (tVar i)) (hr : PA X es (tA X.kw W fas)) (hs : starEach (e :: es) X.env = (false, eval e X.env) :: starEach es X.env := by rfl) : PA X (e :: es) (tA X.kw W (aBag i fas)) :=
  PA.weak (pa_cons ha hr hs) fun σ H Q ⟨C, F, ρ, Qd, Ed, S, h, k, x⟩ => by
    have q := S.ok i
    unfold aBag at h
    split at h
    · rename_i e
      rw [e] at q
      obtain ⟨p, h1, h2⟩ := q
      exact ⟨_, val_some h2, C, F, ρ, _, Ed, S, h, fun F2 H2 vs ss S2 s2 i2 q2 => k F2 H2 (.ref p.1 :: vs) (.bag :: ss) S2 s2 (.cons (show ArgOk X.kw F2 C.bg (.ref p.1) .bag from ⟨p, h1, rfl⟩) i2) q2, x⟩
    · exact h.elim
theorem qa_bag (i : Nat) {x : Str} {pos : Pos} (hr : PA X es (tA X.kw W fas)) (hN : X.N[i]? = some x := by rfl) (hv : Vis X.env.scope x := by first | exact Or.inl rfl | exact Or.inr (Or.inl rfl) | exact Or.inr (Or.inr rfl)) (hd : (x == ("__debug__" : Str)) = false := by decide)
    (hcd : (x == ("__classdict__" : Str)) = false := by decide) (hs : starEach (.Name x pos :: es) X.env = (false, eval (.Name x pos) X.env) :: starEach es X.env := by rfl) : PA X (.Name x pos :: es) (tA X.kw W (aBag i fas)) := qa_bag' (pe_var hN hv hd hcd) hr hs
/-- the source that a call hands over -/
theorem bag_in {K : KW} {F : Hp} {bg : Option Bag} : ∀ {vs : List V} {ss : List DSlot}, ArgsOk K F bg vs ss → (∃ bg', (bg' = bg ∨ bg' = none) ∧ ArgsOk K F bg' vs ss ∧ (bg' = none → ∀ s ∈ ss, s ≠ DSlot.bag)) := by
  intro vs ss h
  by_cases z : ∃ s ∈ ss, s = DSlot.bag
  · refine ⟨bg, .inl rfl, h, fun e s hs q => ?_⟩
    subst q
    clear z
    induction h with
    | nil => cases hs
    | cons r t ih =>
      rcases List.mem_cons.mp hs with q | q
      · subst q
        obtain ⟨p, hp, _⟩ := r
        rw [e] at hp; cases hp
      · exact ih q
  · refine ⟨none, .inr rfl, ?_, fun _ s hs q => z ⟨s, hs, q⟩⟩
    induction h with
    | nil => exact .nil
    | @cons v t vs ss r tl ih =>
      refine .cons ?_ (ih fun ⟨s, hs, q⟩ => z ⟨s, List.mem_cons_of_mem _ hs, q⟩)
      cases t with
      | bag => exact absurd ⟨_, List.mem_cons_self, rfl⟩ z
      | data d => exact r
      | undef => exact r
      | ownL _ => exact r
      | ownD _ => exact r
      | rcd _ _ _ => exact r
def dFn (fn : DFn) (fas : DA) : DE := fun ρ Q E => fas ρ (fun ss => fn ss Q E) E
/-- .. of a def that lets no exception out -/
def dFn0 (fn : DFn) (fas : DA) : DE := fun ρ Q E => fas ρ (fun ss => fn ss Q fun _ => False) E
variable {fn : DFn}
theorem fn0_read : ∀ σ H Q, tD X.kw W (dFn0 fn fas) σ H Q → tCall (spD X.kw fn) [] E0 (tA X.kw W fas) σ H Q := fun σ H Q ⟨C, F, ρ, Qd, Ed, S, h, k, x⟩ => ⟨C, F, ρ, _, Ed, S, h, fun F1 H1 vs ss S1 s1 i1 q1 => by
    obtain ⟨bg, hbg, i1, _⟩ := bag_in i1
    show spD X.kw fn (vs ++ []) H1 Q E0
    rw [List.append_nil]
    refine ⟨F1, bg, ss, Qd, _, S1.le, fun p hp => ?_, i1, q1, fun F2 H2 v d P B i2 q2 => ?_, fun _ _ _ _ _ _ _ _ z => z.elim⟩
    · rcases hbg with e | e
      · subst e; exact S1.bag p hp
      · subst e; cases hp
    · rcases hbg with e | e
      · subst e; exact k F2 H2 v d (S1.post P B) (s1.trans P.f) i2 q2
      · subst e
        refine k F2 H2 v d (S1.post P.less fun p hp => ?_) (s1.trans P.f) i2 q2
        have B := S1.bag p hp
        exact B.next P.f (P.still _ B.there.1 B.1 (by simp)) (P.still _ B.there.2 B.2.1 (by simp)) (fun _ e => P.keep _ _ e (fun _ z => nomatch z) (by simp)) fun _ e => P.keep _ _ e (fun _ z => nomatch z) (by simp), x⟩
end
end DL
set_option Elab.async false
set_option linter.all false
set_option maxRecDepth 100000
set_option maxHeartbeats 4000000
/-! DL, the data layer (4): subscripts, slices, methods, what is walked, comprehensions -/
namespace DL
open PySem PySem.Spec PyProof.Rows L2
section
variable {X : Cx} {W : WX} {pos : Pos} {a b c e : Expr} {es : List Expr} {fa fb fc f : DE} {fs : DL'} {r : R2} {g : PyData → PyData → (PyData → Prop) → Prop}
theorem pd_ix (hr : IxR X r) (hd : OpD X r g) (ha : PE X a (tO X.kw W fa)) (hb : PE X b (tO X.kw W fb)) (hs : PlainIx b := by exact fun _ _ => rfl) : PE X (.Subscript a b pos) (tD X.kw W (dOp g fa fb)) :=
  PE.weak (pe_ix hr ha hb hs) (op_read hd)

/-! ### slices -/
abbrev DP := DEnv → (Option Int → Prop) → (ExcD → Prop) → Prop
def tPt (K : KW) (W : WX) (f : DP) : TO := fun σ H Q => ∃ C F ρ Qd Ed, Sd K C F H σ ρ ∧ f ρ Qd Ed ∧ (∀ F' H' o, Sd K C F' H' σ ρ → Same F F' → Qd o → Q o H') ∧ Exits K W C σ ρ Ed
def dNoPt : DP := fun _ Q _ => Q none
def dPt (f : DE) : DP := fun ρ Q E => f ρ (fun d => ∃ i, d = .int i ∧ Q (some i)) E
theorem PO.weak {o : Option Expr} {t t' : TO} (h : PO X o t) (k : ∀ σ H Q, t' σ H Q → t σ H Q) : PO X o t' := ⟨fun pins s σ H Q I q => h.run pins s σ H Q I (k σ H Q q)⟩
theorem po_noneD : PO X none (tPt X.kw W dNoPt) := PO.weak po_none fun σ H Q ⟨C, F, ρ, Qd, Ed, S, h, k, _⟩ => k F H none S (Same.refl _) h
theorem po_someD (h : PE X e (tD X.kw W f)) : PO X (some e) (tPt X.kw W (dPt f)) := PO.weak (po_some h) fun σ H Q ⟨C, F, ρ, Qd, Ed, S, h, k, x⟩ =>
  ⟨C, F, ρ, _, Ed, S, h, fun F1 H1 v d S1 s1 i1 ⟨i, e, q⟩ => by subst e; cases i1; exact ⟨i, rfl, k F1 H1 _ S1 s1 q⟩, x⟩
def SlD (X : Cx) (r : V → Option Int → Option Int → Hp → VK → Prop) (g : PyData → Option Int → Option Int → (PyData → Prop) → Prop) : Prop :=
  ∀ C F H σ ρ v x lo hi Qz Q, Sd X.kw C F H σ ρ → IsO X.kw F H v x → g x lo hi Qz → (∀ F' H' w z, Sd X.kw C F' H' σ ρ → Same F F' → Is X.kw F' w z → Qz z → Q w H') → r v lo hi H Q
def dSl (g : PyData → Option Int → Option Int → (PyData → Prop) → Prop) (f : DE) (l h : DP) : DE := fun ρ Q E => f ρ (fun x => l ρ (fun lo => h ρ (fun hi => g x lo hi Q) E) E) E
theorem pd_slice {r : V → Option Int → Option Int → Hp → VK → Prop} {g : PyData → Option Int → Option Int → (PyData → Prop) → Prop} {lo hi : Option Expr} {fl fh : DP} {p2 : Pos} (hr : SlR X r) (hd : SlD X r g) (he : PE X e (tO X.kw W f)) (hl : PO X lo (tPt X.kw W fl)) (hh : PO X hi (tPt X.kw W fh)) :
    PE X (.Subscript e (.Slice lo hi none p2) pos) (tD X.kw W (dSl g f fl fh)) := PE.weak (pe_slice hr he hl hh) fun σ H Q ⟨C, F, ρ, Qd, Ed, S, h, k, x⟩ =>
  ⟨C, F, ρ, _, Ed, S, h, fun F1 H1 v1 d1 S1 s1 i1 q1 => ⟨C, F1, ρ, _, Ed, S1, q1, fun F2 H2 o2 S2 s2 q2 => ⟨C, F2, ρ, _, Ed, S2, q2, fun F3 H3 o3 S3 s3 q3 =>
    hd C F3 H3 σ ρ v1 d1 o2 o3 Qd Q S3 (i1 F3 H3 S3 (s2.trans s3)) q3 fun F4 H4 w z S4 s4 i4 q4 => k F4 H4 w z S4 (s1.trans (s2.trans (s3.trans s4))) i4 q4, x⟩, x⟩, x⟩

/-! ### methods of built-in types -/
def plainK : PyData → Bool
  | .int _ => true
  | .str _ => true
  | _ => false
/-- a dict whose keys are ints and texts -/
def PlainK (kvs : List (PyData × PyData)) : Prop := (kvs.all fun p => plainK p.1) = true
theorem isKt_plain {K : KW} {F : Hp} {xs : List TEnt} {kvs : List (PyData × PyData)} (h : IsKt K F xs kvs) (p : PlainK kvs) : xs = [] := by
  cases h with
  | nil => rfl
  | cons _ _ _ _ _ => simp [PlainK, plainK] at p
def tyD (T : String) : PyData → Prop
  | .str _ => T = "str"
  | .list _ => T = "list"
  | .dict kvs => T = "dict" ∧ PlainK kvs
  | _ => False
theorem tyV_of {K : KW} {F H : Hp} {T : String} {v : V} {d : PyData} (le : Same F H) (h : IsO K F H v d) (t : tyD T d) : tyV K.K T v H := by
  rcases h with h | ⟨a, xs, ds, rfl, rfl, h, _, _⟩ | ⟨a, o, kvs, rfl, rfl, h, ⟨ks, rfl, _⟩ | ⟨ks, rfl, _, hne, _, hk⟩⟩
  · cases h with
    | str x _ => exact t
    | lst e _ _ => exact .inl ⟨t, _, .of (le _ _ e)⟩
    | dic e _ _ _ => exact .inr (.inr (.inl ⟨t.1, .inl ⟨_, le _ _ e⟩⟩))
    | dit e _ m _ k => exact absurd (isKt_plain k t.2) m
    | _ => exact (show False from t).elim
  · exact .inl ⟨t, _, .of h⟩
  · exact .inr (.inr (.inl ⟨t.1, .inl ⟨_, h⟩⟩))
  · exact absurd (isKt_plain hk t.2) hne
def dMt (T : String) (g : PyData → List PyData → (PyData → Prop) → Prop) (f : DE) (fs : DL') : DE := fun ρ Q E => f ρ (fun x => tyD T x ∧ fs ρ (fun ds => g x ds Q) E) E
variable {o : Expr} {name : Str} {apos cpos : Pos} {T id : String} {rm : V → List V → Hp → VK → Prop} {gm : PyData → List PyData → (PyData → Prop) → Prop}
theorem pd_bm0 (pa : PlainAttrs T) (slot : Slot T name id) (hty : typeOf (.builtin id) = pure (.type "method_descriptor")) (hm : MtR X id rm) (hd : MtD X rm gm) (ho : PE X o (tO X.kw W f))
    (hbase : attributeBase o name X.env (eval o X.env) = eval o X.env := by rfl) (hline : (apos.endLine == cpos.line) = true := by rfl) : PE X (.Call (.Attribute o name apos) [] [] cpos) (tD X.kw W (dMt T gm f dNil)) :=
  PE.weak (pe_bm0 pa slot hty hm ho hbase hline) fun σ H Q ⟨C, F, ρ, Qd, Ed, S, h, k, x⟩ => ⟨C, F, ρ, _, Ed, S, h, fun F1 H1 v d S1 s1 i1 q1 =>
    ⟨tyV_of S1.le (i1 F1 H1 S1 (Same.refl _)) q1.1, hd C F1 H1 σ ρ v d [] [] Qd Q S1 (i1 F1 H1 S1 (Same.refl _)) .nil q1.2 fun F2 H2 w z S2 s2 i2 q2 => k F2 H2 w z S2 (s1.trans s2) i2 q2⟩, x⟩
theorem pd_bm (pa : PlainAttrs T) (slot : Slot T name id) (hty : typeOf (.builtin id) = pure (.type "method_descriptor")) (hm : MtR X id rm) (hd : MtD X rm gm) (ho : PE X o (tO X.kw W f)) (ha : PA X (e :: es) (tB' X.kw W fs))
    (hbase : attributeBase o name X.env (eval o X.env) = eval o X.env := by rfl)
    (hfew : ((backTo cpos (starEach (e :: es) X.env)).all (fun x => !x.1) && (backToKw cpos (keywordEach [] X.env)).all (fun x => x.1.isSome)
      && decide ((e :: es).length + ([] : List Keyword).length + (if ([] : List Keyword).isEmpty then 0 else 1) < 30)) = true := by rfl)
    (hline : (apos.endLine == cpos.line) = true := by rfl) (hs : starEach (e :: es) X.env = (false, eval e X.env) :: starEach es X.env := by rfl) (hplain : (backTo cpos (starEach es X.env)).any (·.1) = false := by rfl) :
    PE X (.Call (.Attribute o name apos) (e :: es) [] cpos) (tD X.kw W (dMt T gm f fs)) :=
  PE.weak (pe_bm pa slot hty hm ho ha hbase hfew hline hs hplain) fun σ H Q ⟨C, F, ρ, Qd, Ed, S, h, k, x⟩ => ⟨C, F, ρ, _, Ed, S, h, fun F1 H1 v d S1 s1 i1 q1 =>
    ⟨tyV_of S1.le (i1 F1 H1 S1 (Same.refl _)) q1.1, C, F1, ρ, _, Ed, S1, q1.2, fun F2 H2 vs ds S2 s2 i2 q2 =>
      hd C F2 H2 σ ρ v d vs ds Qd Q S2 (i1 F2 H2 S2 s2) (i2 F2 H2 S2 (Same.refl _)) q2 fun F3 H3 w z S3 s3 i3 q3 => k F3 H3 w z S3 (s1.trans (s2.trans s3)) i3 q3, x⟩, x⟩

/-! ### what is walked -/
/-- what a turn hands out: still data, or a new pair of such -/
def YD (K : KW) (w : Bool) (F : Hp) (ds : List PyData) : Nat → Hp → V → Hp → Prop := fun i H x H' => ∃ d, ds[i]? = some d ∧
  ((H' = H ∧ Is K F x d) ∨ w = true ∧ ∃ T a b da db, x = .ref T ∧ H T = none ∧ H' = upd H T (.tup [a, b]) ∧ Is K F a da ∧ Is K F b db ∧ d = .tuple [da, db])
def tI (K : KW) (w : Bool) (W : WX) (f : DL') : TI := fun σ H R => ∃ C F ρ Qd Ed, Sd K C F H σ ρ ∧ f ρ Qd Ed ∧
  (∀ F' H' J ds, Sd K C F' H' σ ρ → Same F F' → ds.length ≤ sizeLine → Walk J ds.length (fun H => Same F' H) (YD K w F' ds) → Qd ds → R J H') ∧ Exits K W C σ ρ Ed
variable {tg : Expr}
theorem PI.weak {t t' : TI} (h : PI X tg e t) (k : ∀ σ H Q, t' σ H Q → t σ H Q) : PI X tg e t' := ⟨fun pins s σ H Q I q => h.run pins s σ H Q I (k σ H Q q)⟩
/-- a list -/
def iL (f : DE) : DL' := fun ρ Q E => f ρ (fun d => ∃ ds, d = .list ds ∧ Q ds) E
def iT (f : DE) : DL' := fun ρ Q E => f ρ (fun d => ∃ ds, d = .tuple ds ∧ Q ds) E
def iS' (f : DE) : DL' := fun ρ Q E => f ρ (fun d => ∃ x : Str, d = .str x ∧ Q (x.cps.toList.map fun c => PyData.str ⟨#[c]⟩)) E
theorem walk_lst {K : KW} {w : Bool} {F : Hp} {a : Addr} {xs : List V} {ds : List PyData} (e : F a = some (.lst xs)) (t : IsAll K F xs ds) : Walk (Itl K.K a) ds.length (fun H => Same F H) (YD K w F ds) := by
  rw [← t.length]
  refine Walk.mono (walk_list (K := K.K) (a := a) (xs := xs)) (fun H h => .of (h _ _ e)) fun i H x H' hi hG y => ?_
  obtain ⟨rfl, y⟩ := y
  obtain ⟨d, h1, h2⟩ := t.get y
  exact ⟨d, h1, .inl ⟨rfl, h2⟩⟩
theorem walk_tupD {K : KW} {w : Bool} {F : Hp} {a : Addr} {xs : List V} {ds : List PyData} (e : SqT K.K F a xs) (t : IsAll K F xs ds) : Walk (Itt K.K a) ds.length (fun H => Same F H) (YD K w F ds) := by
  rw [← t.length]
  refine Walk.mono (walk_tup (K := K.K) (a := a) (xs := xs)) (fun H h => sqT_mono h e) fun i H x H' hi hG y => ?_
  obtain ⟨rfl, y⟩ := y
  obtain ⟨d, h1, h2⟩ := t.get y
  exact ⟨d, h1, .inl ⟨rfl, h2⟩⟩
theorem pi_listD (h : PE X e (tD X.kw W f)) : PI X tg e (tI X.kw false W (iL f)) := PI.weak (pi_list h) fun σ H R ⟨C, F, ρ, Qd, Ed, S, h, k, x⟩ =>
  ⟨C, F, ρ, _, Ed, S, h, fun F1 H1 v d S1 s1 i1 ⟨ds, e, q⟩ => by
    subst e
    cases i1 with
    | lst e z t => exact ⟨_, rfl, ⟨_, .of (S1.le _ _ e)⟩, k F1 H1 _ ds S1 s1 (by rw [← t.length]; exact z) (walk_lst e t) q⟩, x⟩
theorem pi_tupD (h : PE X e (tD X.kw W f)) : PI X tg e (tI X.kw false W (iT f)) := PI.weak (pi_tup h) fun σ H R ⟨C, F, ρ, Qd, Ed, S, h, k, x⟩ =>
  ⟨C, F, ρ, _, Ed, S, h, fun F1 H1 v d S1 s1 i1 ⟨ds, e, q⟩ => by
    subst e
    cases i1 with
    | tup e z t => exact ⟨_, rfl, ⟨_, sqT_mono S1.le e.sq⟩, k F1 H1 _ ds S1 s1 (by rw [← t.length]; exact z) (walk_tupD e.sq t) q⟩, x⟩
theorem pi_strD (h : PE X e (tD X.kw W f)) : PI X tg e (tI X.kw false W (iS' f)) := PI.weak (pi_str h) fun σ H R ⟨C, F, ρ, Qd, Ed, S, h, k, x⟩ =>
  ⟨C, F, ρ, _, Ed, S, h, fun F1 H1 v d S1 s1 i1 ⟨y, e, q⟩ => by
    subst e
    cases i1 with
    | str y z =>
      refine ⟨y, rfl, k F1 H1 _ _ S1 s1 (by rw [List.length_map, Array.length_toList]; exact z) ?_ q⟩
      rw [List.length_map, Array.length_toList]
      refine Walk.mono (walk_str (z := y)) (fun _ _ => trivial) fun i H x H' hi hG yy => ?_
      obtain ⟨rfl, c, h1, h2⟩ := yy
      subst h2
      exact ⟨.str ⟨#[c]⟩, by rw [List.getElem?_map, Array.getElem?_toList, h1]; rfl, .inl ⟨rfl, .str _ (by show 1 ≤ sizeLine; decide)⟩⟩, x⟩
/-- any of the three -/
def iSeq (f : DE) : DL' := fun ρ Q E => f ρ (fun d => match d with | .list ds => Q ds | .tuple ds => Q ds | _ => False) E
def iSeqK (K : PySem.W.Frag) (tl : TE) : TI := fun σ H R => tl σ H fun x H1 => ∃ a, x = .ref a ∧ (((∃ xs, SqL K H1 a xs) ∧ R (Itl K a) H1) ∨ ((∃ xs, SqT K H1 a xs) ∧ R (Itt K a) H1))
theorem pi_seqK {tl : TE} (hl : PE X e tl) : PI X tg e (iSeqK X.K tl) := by
  refine ⟨fun pins s σ H R I h => ?_⟩
  refine thn (hl.run pins s σ H _ I h) fun v s1 ⟨x, H1, I1, r1, q1⟩ => ?_
  obtain ⟨a, e, ⟨⟨xs, hq⟩, q⟩ | ⟨⟨xs, hq⟩, q⟩⟩ := q1
  · subst e
    cases r1
    obtain ⟨its, rv, p, hz⟩ := I1.list hq
    refine wpAny_pyIter_list p.isList ?_
    refine ⟨s1.heap.objs.size, [s1.heap.objs.size], _, _, H1, rfl, I1.kept (t' := s1.toks) fun b o e => Heap.get?_push_of_some _ e, turn_list a _, ⟨_, Heap.get?_push_size _ rfl, rfl, rfl⟩, fun b hb => ?_, q⟩
    have e : b = s1.heap.objs.size := by simpa using hb
    subst e
    exact I1.fpOk (Nat.le_refl _) (I1.hok.fresh (Nat.le_refl _))
  · subst e
    cases r1
    obtain ⟨its, rv, p, hz⟩ := I1.tuple hq
    refine wpAny_pyIter_tuple (show s1.heap.IsTuple a its.toArray from p) ?_
    refine ⟨s1.heap.objs.size, [s1.heap.objs.size], _, _, H1, rfl, I1.kept (t' := s1.toks) fun b o e => Heap.get?_push_of_some _ e, turn_tuple a _, ⟨_, Heap.get?_push_size _ rfl, rfl, rfl⟩, fun b hb => ?_, q⟩
    have e : b = s1.heap.objs.size := by simpa using hb
    subst e
    exact I1.fpOk (Nat.le_refl _) (I1.hok.fresh (Nat.le_refl _))
theorem pi_seqD (h : PE X e (tD X.kw W f)) : PI X tg e (tI X.kw false W (iSeq f)) := PI.weak (pi_seqK h) fun σ H R ⟨C, F, ρ, Qd, Ed, S, h, k, x⟩ =>
  ⟨C, F, ρ, _, Ed, S, h, fun F1 H1 v d S1 s1 i1 q => by
    cases i1 with
    | lst e z t => exact ⟨_, rfl, .inl ⟨⟨_, .of (S1.le _ _ e)⟩, k F1 H1 _ _ S1 s1 (by rw [← t.length]; exact z) (walk_lst e t) q⟩⟩
    | tup e z t => exact ⟨_, rfl, .inr ⟨⟨_, sqT_mono S1.le e.sq⟩, k F1 H1 _ _ S1 s1 (by rw [← t.length]; exact z) (walk_tupD e.sq t) q⟩⟩
    | _ => exact (show False from q).elim, x⟩
/-- range(n), n written or not -/
def iR1 (fs : DL') : DL' := fun ρ Q E => fs ρ (fun ds => ∃ j : Int, ds = [.int j] ∧ -1000000 ≤ j ∧ j ≤ 1000000 ∧ Q ((List.range j.toNat).map fun i => PyData.int (i : Nat))) E
theorem isO_int {K : KW} {F H : Hp} {v : V} {i : Int} (h : IsO K F H v (.int i)) : v = .int i := by
  rcases h with h | ⟨_, _, _, _, z, _⟩ | ⟨_, _, _, _, z, _⟩
  · cases h; rfl
  · cases z
  · cases z
theorem isO_str {K : KW} {F H : Hp} {v : V} {x : Str} (h : IsO K F H v (.str x)) : v = .str x ∧ x.length ≤ sizeLine := by
  rcases h with h | ⟨_, _, _, _, z, _⟩ | ⟨_, _, _, _, z, _⟩
  · cases h with | str _ z => exact ⟨rfl, z⟩
  · cases z
  · cases z
theorem isO_bool {K : KW} {F H : Hp} {v : V} {b : Bool} (h : IsO K F H v (.bool b)) : v = .bl b := by
  rcases h with h | ⟨_, _, _, _, z, _⟩ | ⟨_, _, _, _, z, _⟩
  · cases h; rfl
  · cases z
  · cases z
theorem isO_none {K : KW} {F H : Hp} {v : V} (h : IsO K F H v .none) : v = .non := by
  rcases h with h | ⟨_, _, _, _, z, _⟩ | ⟨_, _, _, _, z, _⟩
  · cases h; rfl
  · cases z
  · cases z
theorem isO_list {K : KW} {F H : Hp} {v : V} {ds : List PyData} (le : Same F H) (h : IsO K F H v (.list ds)) : ∃ a xs, v = .ref a ∧ H a = some (.lst xs) ∧ xs.length ≤ sizeLine ∧ IsAll K F xs ds := by
  rcases h with h | ⟨a, xs, ds', rfl, z, h1, h2, h3⟩ | ⟨_, _, _, _, z, _⟩
  · cases h with | lst e z t => exact ⟨_, _, rfl, le _ _ e, z, t⟩
  · cases z; exact ⟨a, xs, rfl, h1, h2, h3⟩
  · cases z
theorem isO_tup {K : KW} {F H : Hp} {v : V} {ds : List PyData} (h : IsO K F H v (.tuple ds)) : ∃ a xs, v = .ref a ∧ StT K.K F a xs ∧ xs.length ≤ sizeLine ∧ IsAll K F xs ds := by
  rcases h with h | ⟨_, _, _, _, z, _⟩ | ⟨_, _, _, _, z, _⟩
  · cases h with | tup e z t => exact ⟨_, _, rfl, e, z, t⟩
  · cases z
  · cases z
/-- a dict, in its two forms -/
theorem isO_dic {K : KW} {F H : Hp} {v : V} {kvs : List (PyData × PyData)} (le : Same F H) (h : IsO K F H v (.dict kvs)) : (∃ a ks, v = .ref a ∧ H a = some (.dK ks) ∧ ks.length ≤ sizeLine ∧ (ks.map (·.1)).Nodup ∧ IsKv K F ks kvs) ∨
    ∃ a xs, v = .ref a ∧ H a = some (TD K.w a xs) ∧ xs.length ≤ sizeLine ∧ xs ≠ [] ∧ (xs.map (·.1)).Nodup ∧ IsKt K F xs kvs := by
  rcases h with h | ⟨_, _, _, _, z, _⟩ | ⟨a, o, kvs', rfl, z, h1, ⟨ks, rfl, h2, h3, h4⟩ | ⟨xs, rfl, h2, hn, h3, h4⟩⟩
  · cases h with
    | dic e z n t => exact .inl ⟨_, _, rfl, le _ _ e, z, n, t⟩
    | dit e z m n t => exact .inr ⟨_, _, rfl, le _ _ e, z, m, n, t⟩
  · cases z
  · cases z; exact .inl ⟨a, ks, rfl, h1, h2, h3, h4⟩
  · cases z; exact .inr ⟨a, xs, rfl, h1, h2, hn, h3, h4⟩
theorem isO_dict {K : KW} {F H : Hp} {v : V} {kvs : List (PyData × PyData)} (le : Same F H) (h : IsO K F H v (.dict kvs)) (p : PlainK kvs) : ∃ a ks, v = .ref a ∧ H a = some (.dK ks) ∧ ks.length ≤ sizeLine ∧ (ks.map (·.1)).Nodup ∧ IsKv K F ks kvs := by
  rcases isO_dic le h with h | ⟨_, _, _, _, _, m, _, k⟩
  · exact h
  · exact absurd (isKt_plain k p) m
theorem allO_1 {K : KW} {F H : Hp} {vs : List V} {d : PyData} (h : AllO K F H vs [d]) : ∃ v, vs = [v] ∧ IsO K F H v d := by
  cases h with | cons a t => cases t; exact ⟨_, rfl, a⟩
theorem allO_2 {K : KW} {F H : Hp} {vs : List V} {d e : PyData} (h : AllO K F H vs [d, e]) : ∃ v u, vs = [v, u] ∧ IsO K F H v d ∧ IsO K F H u e := by
  cases h with | cons a t => cases t with | cons b t => cases t; exact ⟨_, _, rfl, a, b⟩
theorem pi_range1D {n : Expr} {p pos : Pos} (hm : X.mg "range" = none) (ha : PA X [n] (tB' X.kw W fs)) (hg : Gl X "range" := by rfl) (hs : starEach [n] X.env = [(false, eval n X.env)] := by rfl) : PI X tg (.Call (.Name "range" p) [n] [] pos) (tI X.kw false W (iR1 fs)) :=
  PI.weak (pi_range1 hg hm ha hs) fun σ H R ⟨C, F, ρ, Qd, Ed, S, h, k, x⟩ => ⟨C, F, ρ, _, Ed, S, h, fun F1 H1 vs ds S1 s1 i1 ⟨j, e, hj, hj', q⟩ => by
    subst e
    obtain ⟨v, rfl, o⟩ := allO_1 (i1 F1 H1 S1 (Same.refl _))
    have e := isO_int o
    subst e
    refine ⟨j, rfl, by omega, by omega, k F1 H1 _ _ S1 s1 (by rw [List.length_map, List.length_range, sizeLine_eq]; omega) ?_ q⟩
    rw [List.length_map, List.length_range]
    refine Walk.mono (walk_range (lo := 0) (n := j.toNat)) (fun _ _ => trivial) fun i H x H' hi hG y => ?_
    obtain ⟨rfl, rfl⟩ := y
    have z : (0 : Int) + (i : Int) = i := Int.zero_add _
    exact ⟨.int (i : Nat), by rw [List.getElem?_map, List.getElem?_range hi]; rfl, .inl ⟨rfl, by show Is X.kw F1 (.int (0 + (i : Int))) (.int (i : Int)); rw [z]; exact .int _⟩⟩, x⟩
/-- zip(xs, ys): two lists or two tuples -/
def zipD : List PyData → List PyData → List PyData
  | x :: xs, y :: ys => .tuple [x, y] :: zipD xs ys
  | _, _ => []
theorem zipD_length : ∀ xs ys : List PyData, (zipD xs ys).length = min xs.length ys.length
  | x :: xs, y :: ys => by simp [zipD, zipD_length xs ys]
  | [], _ => by simp [zipD]
  | _ :: _, [] => by simp [zipD]
theorem zipD_get : ∀ {xs ys : List PyData} {i : Nat} {x y : PyData}, xs[i]? = some x → ys[i]? = some y → (zipD xs ys)[i]? = some (.tuple [x, y])
  | [], _, _, _, _, h, _ => by simp at h
  | _ :: _, [], _, _, _, _, h => by simp at h
  | a :: xs, b :: ys, 0, x, y, h1, h2 => by simp at h1 h2; subst h1 h2; simp [zipD]
  | a :: xs, b :: ys, i + 1, x, y, h1, h2 => by
    simp only [zipD, List.getElem?_cons_succ]
    exact zipD_get (by simpa using h1) (by simpa using h2)
theorem walk_pair {K : KW} {F : Hp} {J : It} {n : Nat} {G : Hp → Prop} {f g : Nat → Option V} {ds : List PyData} (w : Walk J n G (YPair f g)) (hG : ∀ H, Same F H → G H)
    (h : ∀ i x y, f i = some x → g i = some y → ∃ dx dy, Is K F x dx ∧ Is K F y dy ∧ ds[i]? = some (.tuple [dx, dy])) : Walk J n (fun H => Same F H) (YD K true F ds) :=
  Walk.mono w hG fun i H x H' hi hH y => by
    obtain ⟨T, u, v, h1, h2, h3, h4, h5⟩ := y
    obtain ⟨dx, dy, i1, i2, e⟩ := h i u v h4 h5
    exact ⟨_, e, .inr ⟨rfl, T, u, v, dx, dy, h1, h2, h3, i1, i2, rfl⟩⟩
theorem walk_zipTt {K : PySem.W.Frag} {a b : Addr} {xs ys : List V} {n : Nat} (hn : n = min xs.length ys.length) : Walk (RZ.ItzT K a b) n (fun H => SqT K H a xs ∧ SqT K H b ys) (YPair (fun i => xs[i]?) (fun i => ys[i]?)) := by
  subst hn
  refine ⟨fun i _ hi q => ?_, fun _ q => ⟨xs, ys, q.1, q.2, by omega⟩, fun i H v H' _ q y => ?_⟩
  · have h1 : i < xs.length := by omega
    have h2 : i < ys.length := by omega
    exact ⟨xs, ys, xs[i], ys[i], q.1, q.2, by simp [h1], by simp [h2]⟩
  · obtain ⟨T, x, z, h1, h2, h3, h4, h5⟩ := y
    exact ⟨T, x, z, h1, h2, h3, h4 xs q.1, h5 ys q.2⟩
def iZ (fs : DL') : DL' := fun ρ Q E => fs ρ (fun ds => match ds with | [.list xs, .list ys] => Q (zipD xs ys) | [.tuple xs, .tuple ys] => Q (zipD xs ys) | _ => False) E
variable {e2 : Expr} {p tpos : Pos} {elts : List Expr} {kk : Nat}
theorem pi_zipD (hm : X.mg "zip" = none) (ha : PA X [e, e2] (tS X.kw W fs)) (hg : Gl X "zip" := by rfl)
    (hs : starEach [e, e2] X.env = (false, eval e X.env) :: starEach [e2] X.env := by rfl) (hpl : (backTo pos (starEach [e2] X.env)).any (·.1) = false := by rfl) :
    PI X (.Tuple elts kk tpos) (.Call (.Name "zip" p) [e, e2] [] pos) (tI X.kw true W (iZ fs)) :=
  PI.weak (RZ.pi_zipA hg hm ha hs hpl) fun σ H R ⟨C, F, ρ, Qd, Ed, S, h, k, x⟩ => ⟨C, F, ρ, _, Ed, S, h, fun F1 H1 vs ds S1 s1 i1 q => by
    split at q
    · rename_i xs ys
      cases i1 with | cons a t => cases t with | cons b t => cases t; cases a with | lst e1 z1 t1 => cases b with | lst e2 z2 t2 =>
        refine ⟨_, _, _, _, rfl, .inl ⟨.of (S1.le _ _ e1), .of (S1.le _ _ e2), k F1 H1 _ _ S1 s1 ?_ ?_ q⟩⟩
        · rw [zipD_length, ← t1.length]; omega
        · rw [zipD_length, ← t1.length, ← t2.length]
          refine walk_pair (walk_zip rfl) (fun H hH => ⟨.of (hH _ _ e1), .of (hH _ _ e2)⟩) fun i u v h1 h2 => ?_
          obtain ⟨dx, g1, i1⟩ := t1.get h1
          obtain ⟨dy, g2, i2⟩ := t2.get h2
          exact ⟨dx, dy, i1, i2, zipD_get g1 g2⟩
    · rename_i xs ys
      cases i1 with | cons a t => cases t with | cons b t => cases t; cases a with | tup e1 z1 t1 => cases b with | tup e2 z2 t2 =>
        refine ⟨_, _, _, _, rfl, .inr ⟨sqT_mono S1.le e1.sq, sqT_mono S1.le e2.sq, k F1 H1 _ _ S1 s1 ?_ ?_ q⟩⟩
        · rw [zipD_length, ← t1.length]; omega
        · rw [zipD_length, ← t1.length, ← t2.length]
          refine walk_pair (walk_zipTt rfl) (fun H hH => ⟨sqT_mono hH e1.sq, sqT_mono hH e2.sq⟩) fun i u v h1 h2 => ?_
          obtain ⟨dx, g1, i1⟩ := t1.get h1
          obtain ⟨dy, g2, i2⟩ := t2.get h2
          exact ⟨dx, dy, i1, i2, zipD_get g1 g2⟩
    · exact q.elim, x⟩
/-- enumerate(xs), a list -/
def enumD : Nat → List PyData → List PyData
  | _, [] => []
  | n, x :: xs => .tuple [.int (n : Nat), x] :: enumD (n + 1) xs
theorem enumD_length : ∀ (n : Nat) (xs : List PyData), (enumD n xs).length = xs.length
  | _, [] => rfl
  | n, x :: xs => by simp [enumD, enumD_length (n + 1) xs]
theorem enumD_get : ∀ {n : Nat} {xs : List PyData} {i : Nat} {x : PyData}, xs[i]? = some x → (enumD n xs)[i]? = some (.tuple [.int ((n + i : Nat) : Int), x])
  | n, [], _, _, h => by simp at h
  | n, y :: ys, 0, x, h => by simp at h; subst h; simp [enumD]
  | n, y :: ys, i + 1, x, h => by
    simp only [enumD, List.getElem?_cons_succ]
    rw [enumD_get (n := n + 1) (xs := ys) (i := i) (x := x) (by simpa using h)]
    rw [show n + 1 + i = n + (i + 1) by omega]
def iEn (fs : DL') : DL' := fun ρ Q E => fs ρ (fun ds => match ds with | [.list xs] => Q (enumD 0 xs) | _ => False) E
theorem pi_enumD (hm : X.mg "enumerate" = none) (ha : PA X [e] (tS X.kw W fs)) (hg : Gl X "enumerate" := by rfl) (hs : starEach [e] X.env = [(false, eval e X.env)] := by rfl) :
    PI X (.Tuple elts kk tpos) (.Call (.Name "enumerate" p) [e] [] pos) (tI X.kw true W (iEn fs)) :=
  PI.weak (pi_enum hg hm ha hs) fun σ H R ⟨C, F, ρ, Qd, Ed, S, h, k, x⟩ => ⟨C, F, ρ, _, Ed, S, h, fun F1 H1 vs ds S1 s1 i1 q => by
    split at q
    · rename_i xs
      cases i1 with | cons a t => cases t; cases a with | lst e1 z1 t1 =>
        refine ⟨_, _, rfl, .of (S1.le _ _ e1), k F1 H1 _ _ S1 s1 ?_ ?_ q⟩
        · rw [enumD_length, ← t1.length]; exact z1
        · rw [enumD_length, ← t1.length]
          refine walk_pair walk_enum (fun H hH => .of (hH _ _ e1)) fun i u v h1 h2 => ?_
          obtain ⟨dy, g2, i2⟩ := t1.get h2
          cases h1
          exact ⟨_, dy, .int _, i2, by rw [enumD_get g2]; simp⟩
    · exact q.elim, x⟩

/-! ### targets -/
def wipeD (ρ : DEnv) : List Nat → DEnv
  | [] => ρ
  | v :: vs => put (wipeD ρ vs) v .undef
theorem wipeD_length (ρ : DEnv) : ∀ vs, (wipeD ρ vs).length = ρ.length
  | [] => rfl
  | v :: vs => by rw [wipeD, put_length, wipeD_length ρ vs]
theorem look_wipeD (ρ : DEnv) (j : Nat) : ∀ vs, look (wipeD ρ vs) j = if j ∈ vs then .undef else look ρ j
  | [] => by simp [wipeD]
  | v :: vs => by
    rw [wipeD, look_put, look_wipeD ρ j vs, wipeD_length]
    by_cases e : v = j
    · subst e
      by_cases hl : v < ρ.length
      · rw [if_pos ⟨rfl, hl⟩, if_pos (by simp)]
      · rw [if_neg (fun z => hl z.2), if_pos (by simp : v ∈ v :: vs), look_out ρ v (by omega)]
        split <;> rfl
    · rw [if_neg (fun z => e z.1)]
      have : (j ∈ v :: vs) ↔ j ∈ vs := by simp [Ne.symm e]
      simp only [this]
theorem look_ext : ∀ {ρ ρ' : DEnv}, ρ.length = ρ'.length → (∀ i, look ρ i = look ρ' i) → ρ = ρ'
  | [], [], _, _ => rfl
  | [], _ :: _, h, _ => by simp at h
  | _ :: _, [], h, _ => by simp at h
  | a :: r, b :: r', h, k => by
    have e : a = b := k 0
    rw [e, look_ext (ρ := r) (ρ' := r') (by simpa using h) fun i => k (i + 1)]
theorem wipeD_put {ρ : DEnv} {i : Nat} {t : DSlot} {vs : List Nat} (h : i ∈ vs) : wipeD (put ρ i t) vs = wipeD ρ vs := by
  refine look_ext (by rw [wipeD_length, wipeD_length, put_length]) fun j => ?_
  rw [look_wipeD, look_wipeD, look_put]
  by_cases hj : j ∈ vs
  · rw [if_pos hj, if_pos hj]
  · rw [if_neg hj, if_neg hj, if_neg (show ¬ (i = j ∧ i < ρ.length) from fun z => hj (z.1 ▸ h))]

abbrev DG := PyData → DEnv → (DEnv → Prop) → Prop
abbrev DGs := List PyData → DEnv → (DEnv → Prop) → Prop
/-- what a turn hands to its target -/
def IsT (K : KW) (w : Bool) (F : Hp) (v : V) (d : PyData) : Prop := Is K F v d ∨ w = true ∧ ∃ a x y dx dy, v = .ref a ∧ d = .tuple [dx, dy] ∧ F a = some (.tup [x, y]) ∧ Is K F x dx ∧ Is K F y dy
theorem IsT.is {K : KW} {F : Hp} {v : V} {d : PyData} (h : IsT K false F v d) : Is K F v d := by
  rcases h with h | ⟨e, _⟩
  · exact h
  · cases e
def tGD (K : KW) (w : Bool) (vs : List Nat) (g : DG) : TG := fun v σ H Q => ∃ C F ρ d Qd, Sd K C F H σ ρ ∧ IsT K w F v d ∧ g d ρ Qd ∧ ∀ σ' ρ', Sd K C F H σ' ρ' → wipe σ' vs = wipe σ vs → wipeD ρ' vs = wipeD ρ vs → Qd ρ' → Q σ' H
def tGDs (K : KW) (vs : List Nat) (g : DGs) : TGs := fun us σ H Q => ∃ C F ρ ds Qd, Sd K C F H σ ρ ∧ IsAll K F us ds ∧ g ds ρ Qd ∧ ∀ σ' ρ', Sd K C F H σ' ρ' → wipe σ' vs = wipe σ vs → wipeD ρ' vs = wipeD ρ vs → Qd ρ' → Q σ' H
theorem PG.weak {t t' : TG} (h : PG X tg t) (k : ∀ v σ H Q, t' v σ H Q → t v σ H Q) : PG X tg t' := ⟨fun pins s σ H v u Q I r q => h.run pins s σ H v u Q I r (k v σ H Q q)⟩
theorem PGs.weak {ts : List Expr} {t t' : TGs} (h : PGs X ts t) (k : ∀ v σ H Q, t' v σ H Q → t v σ H Q) : PGs X ts t' := ⟨fun pins s σ H vs us Q I r q => h.run pins s σ H vs us Q I r (k vs σ H Q q)⟩
theorem wipe_set {σ : L2.St} {i : Nat} {o : Option V} : ∀ {vs : List Nat}, i ∈ vs → wipe (σ.set i o) vs = wipe σ vs := by
  intro vs h
  apply List.ext_getElem?
  intro j
  have get : ∀ (τ : L2.St) (ws : List Nat), (wipe τ ws)[j]? = if j ∈ ws ∧ j < τ.length then some none else τ[j]? := by
    intro τ ws
    induction ws with
    | nil => simp [wipe]
    | cons w ws ih =>
      unfold wipe
      by_cases e : w = j
      · subst e
        by_cases hl : w < τ.length
        · rw [List.getElem?_set_self (by rw [wipe_length]; exact hl), if_pos ⟨by simp, hl⟩]
        · rw [List.getElem?_eq_none (by rw [List.length_set, wipe_length]; omega), if_neg (fun z => hl z.2), List.getElem?_eq_none (by omega)]
      · rw [List.getElem?_set_ne e, ih]
        have : (j ∈ w :: ws) ↔ j ∈ ws := by simp [Ne.symm e]
        simp only [this]
  rw [get, get, List.length_set]
  by_cases hj : j ∈ vs ∧ j < σ.length
  · rw [if_pos hj, if_pos hj]
  · rw [if_neg hj, if_neg hj]
    by_cases e : i = j
    · subst e
      rw [List.getElem?_eq_none (by rw [List.length_set]; exact Nat.le_of_not_lt fun z => hj ⟨h, z⟩), List.getElem?_eq_none (Nat.le_of_not_lt fun z => hj ⟨h, z⟩)]
    · rw [List.getElem?_set_ne e]
/-- a name, slot i -/
def gN (i : Nat) : DG := fun d ρ Q => i < ρ.length ∧ Q (put ρ i (.data d))
theorem pg_nameD (vs : List Nat) (i : Nat) {x : Str} {pos : Pos} (hN : X.N.Nodup) (hi : X.N[i]? = some x := by rfl) (hx : Loc X.env.scope x := by first | exact Or.inl rfl | exact Or.inr rfl) (hv : i ∈ vs := by decide)
    (hf : X.fn x = true ∨ X.env.scope.names.lookup x = some .local := by first | exact .inl rfl | exact .inr rfl | assumption) : PG X (.Name x pos) (tGD X.kw false vs (gN i)) :=
  PG.weak (pg_name hN hi hx hf) fun v σ H Q ⟨C, F, ρ, d, Qd, S, h, q, k⟩ => k _ _ (S.storeD (by rw [← S.len]; exact q.1) h.is) (wipe_set hv) (wipeD_put hv) q.2
def gsNil : DGs := fun ds ρ Q => ds = [] ∧ Q ρ
def gsCons (g : DG) (h : DGs) : DGs := fun ds ρ Q => match ds with | d :: r => g d ρ (fun ρ' => h r ρ' Q) | [] => False
theorem pgs_nilD {vs : List Nat} : PGs X [] (tGDs X.kw vs gsNil) := PGs.weak pgs_nil fun v σ H Q ⟨C, F, ρ, ds, Qd, S, h, q, k⟩ => by
  obtain ⟨rfl, q⟩ := q
  cases h
  exact ⟨rfl, k σ ρ S rfl rfl q⟩
theorem pgs_consD {vs : List Nat} {g : DG} {h : DGs} {ts : List Expr} (h1 : PG X e (tGD X.kw false vs g)) (h2 : PGs X ts (tGDs X.kw vs h)) (hs : (assignEach (e :: ts) X.env).map (·.2) = assign e X.env :: (assignEach ts X.env).map (·.2) := by rfl) :
    PGs X (e :: ts) (tGDs X.kw vs (gsCons g h)) := PGs.weak (pgs_cons h1 h2 hs) fun v σ H Q ⟨C, F, ρ, ds, Qd, S, h, q, k⟩ => by
  cases ds with
  | nil => exact q.elim
  | cons d r =>
    cases h with
    | cons a t => exact ⟨_, _, rfl, C, F, ρ, d, _, S, .inl a, q, fun σ1 ρ1 S1 w1 y1 q1 => ⟨C, F, ρ1, r, Qd, S1, t, q1, fun σ2 ρ2 S2 w2 y2 q2 => k σ2 ρ2 S2 (w2.trans w1) (y2.trans y1) q2⟩⟩
def gT (n : Nat) (gs : DGs) : DG := fun d ρ Q => match d with | .tuple ds => ds.length = n ∧ gs ds ρ Q | _ => False
theorem pg_tupD {vs : List Nat} {w : Bool} {gs : DGs} {ts : List Expr} {n k : Nat} (hc : X.calm = true) (h : PGs X ts (tGDs X.kw vs gs)) (hn : (assignEach ts X.env).length = n := by rfl) (hst : (assignEach ts X.env).findIdx? (·.1) = none := by rfl) :
    PG X (.Tuple ts k pos) (tGD X.kw w vs (gT n gs)) := PG.weak (pg_tup hc h hn hst) fun v σ H Q ⟨C, F, ρ, d, Qd, S, h, q, k⟩ => by
  unfold gT at q
  split at q
  · rename_i ds
    rcases h with h | ⟨_, a, x, y, dx, dy, rfl, e, h, ix, iy⟩
    · cases h with
      | tup e z t => exact ⟨_, _, rfl, sqT_mono S.le e.sq, by rw [t.length]; exact q.1, C, F, ρ, ds, Qd, S, t, q.2, k⟩
    · cases e
      exact ⟨_, _, rfl, .of (S.le _ _ h), q.1, C, F, ρ, [dx, dy], Qd, S, .cons ix (.cons iy .nil), q.2, k⟩
  · exact q.elim

/-! ### list comprehensions -/
theorem val_wipe (σ : L2.St) (j : Nat) : ∀ vs : List Nat, val (wipe σ vs) j = if j ∈ vs then none else val σ j := by
  intro vs
  induction vs with
  | nil => simp [wipe]
  | cons v vs ih =>
    unfold wipe
    by_cases e : v = j
    · subst e
      rw [if_pos (by simp)]
      unfold val
      by_cases hl : v < (wipe σ vs).length
      · rw [List.getElem?_set_self hl]; rfl
      · rw [List.getElem?_eq_none (by simpa using hl)]; rfl
    · have : (j ∈ v :: vs) ↔ j ∈ vs := by simp [Ne.symm e]
      simp only [this]
      rw [← ih]
      unfold val
      rw [List.getElem?_set_ne e]
section
variable {K : KW} {C : Ctx} {F F' H H' : Hp} {σ : L2.St} {ρ : DEnv} {vs : List Nat}
theorem Sd.wiped (S : Sd K C F H σ ρ) : Sd K C F H (wipe σ vs) (wipeD ρ vs) := by
  have own : ∀ i a, Owns (val (wipe σ vs) i) (look (wipeD ρ vs) i) a → i ∉ vs ∧ Owns (val σ i) (look ρ i) a := fun i a q => by
    rw [val_wipe, look_wipeD] at q
    by_cases h : i ∈ vs
    · rw [if_pos h] at q; rw [if_pos h] at q; exact (q.not rfl).elim
    · rw [if_neg h, if_neg h] at q; exact ⟨h, q⟩
  refine ⟨S.le0, S.le, S.frame, S.alive, S.still, S.bag, by rw [wipeD_length, wipe_length]; exact S.len, fun i => ?_, fun i a q => S.own i a (own i a q).2, fun i j a q1 q2 => S.dj i j a (own i a q1).2 (own j a q2).2⟩
  rw [val_wipe, look_wipeD]
  by_cases h : i ∈ vs
  · rw [if_pos h, if_pos h]; trivial
  · rw [if_neg h, if_neg h]; exact S.ok i
theorem Sd.unwipe (S0 : Sd K C F H σ ρ) (pl : (vs.all fun i => plainS (look ρ i)) = true) (s : Same F F') (S : Sd K C F' H' (wipe σ vs) (wipeD ρ vs)) : Sd K C F' H' σ ρ := by
  have pv : ∀ i, i ∈ vs → plainS (look ρ i) = true := fun i hi => List.all_eq_true.mp pl i hi
  have own : ∀ i a, Owns (val σ i) (look ρ i) a → Owns (val (wipe σ vs) i) (look (wipeD ρ vs) i) a := fun i a q => by
    by_cases h : i ∈ vs
    · exact (q.not (pv i h)).elim
    · rw [val_wipe, look_wipeD, if_neg h, if_neg h]; exact q
  refine ⟨S.le0, S.le, S.frame, S.alive, S.still, S.bag, S0.len, fun i => ?_, fun i a q => S.own i a (own i a q), fun i j a q1 q2 => S.dj i j a (own i a q1) (own j a q2)⟩
  by_cases h : i ∈ vs
  · have q := S0.ok i
    have p := pv i h
    cases e : look ρ i with
    | undef => trivial
    | data d => rw [e] at q; obtain ⟨u, h1, h2⟩ := q; exact ⟨u, h1, h2.up s⟩
    | ownL _ => rw [e] at p; cases p
    | ownD _ => rw [e] at p; cases p
    | bag => rw [e] at p; cases p
    | rcd _ _ _ => rw [e] at p; cases p
  · have q := S.ok i
    rw [val_wipe, look_wipeD, if_neg h, if_neg h] at q
    exact q
/-- what lies apart stays apart -/
theorem Apart.keep {p : Addr} {o : HO} (ap : Apart C F H σ ρ p) (hp : H p = some o) (hf : F' p = none) : Apart C F' H' σ ρ p := ⟨hf, ap.h0, ap.bg, ap.no⟩
end
end
end DL
set_option Elab.async false
set_option linter.all false
set_option maxRecDepth 100000
set_option maxHeartbeats 4000000
/-! DL, the data layer (5): comprehensions, statements, defs -/
namespace DL
open PySem PySem.Spec PyProof.Rows L2
def W0 : WX := fun _ _ _ _ => False
def lcD (g : DG) (t : DT) (fe : DE) (ρw : DEnv) : List PyData → List PyData → (List PyData → Prop) → Prop
  | [], acc, Q => Q acc
  | d :: ds, acc, Q => g d ρw fun ρ2 => t ρ2 (fun b => if b = true then fe ρ2 (fun y => lcD g t fe ρw ds (acc ++ [y]) Q) (fun _ => False) else lcD g t fe ρw ds acc Q) (fun _ => False)
/-- [elt for target in iter if test] -/
def dLc (fi : DL') (g : DG) (t : DT) (fe : DE) (vs : List Nat) : DL' := fun ρ Q E => (vs.all fun i => plainS (look ρ i)) = true ∧ fi ρ (fun ds => lcD g t fe (wipeD ρ vs) ds [] Q) E
def dYes : DT := fun _ Q _ => Q true
theorem exits0 {K : KW} {C : Ctx} {σ : L2.St} {ρ : DEnv} : Exits K W0 C σ ρ fun _ => False := fun _ _ _ _ _ _ _ z => z.elim
theorem wipe_wipe (σ : L2.St) (vs : List Nat) : wipe (wipe σ vs) vs = wipe σ vs := by
  have all : ∀ (τ : L2.St) (ws : List Nat) (j : Nat), (wipe τ ws)[j]? = if j ∈ ws ∧ j < τ.length then some none else τ[j]? := by
    intro τ ws j
    induction ws with
    | nil => simp [wipe]
    | cons w ws ih =>
      unfold wipe
      by_cases e : w = j
      · subst e
        by_cases hl : w < τ.length
        · rw [List.getElem?_set_self (by rw [wipe_length]; exact hl), if_pos ⟨by simp, hl⟩]
        · rw [List.getElem?_eq_none (by rw [List.length_set, wipe_length]; omega), if_neg (fun z => hl z.2), List.getElem?_eq_none (by omega)]
      · rw [List.getElem?_set_ne e, ih]
        have : (j ∈ w :: ws) ↔ j ∈ ws := by simp [Ne.symm e]
        simp only [this]
  apply List.ext_getElem?
  intro j
  rw [all, all, wipe_length]
  split <;> rfl
theorem wipeD_wipeD (ρ : DEnv) (vs : List Nat) : wipeD (wipeD ρ vs) vs = wipeD ρ vs := by
  refine look_ext (by rw [wipeD_length]) fun j => ?_
  rw [look_wipeD, look_wipeD]
  split <;> rfl
section
variable {X : Cx} {W : WX} {pos : Pos} {e elt tg iter : Expr} {ifs : List Expr} {scope : Scope} {own : List (Str × Nat)} {fi : DL'} {g : DG} {t : DT} {fe : DE}
theorem PTs.weak {t t' : TT} (h : PTs X ifs t) (k : ∀ σ H Q, t' σ H Q → t σ H Q) : PTs X ifs t' := ⟨fun pins s σ H Q I q => h.run pins s σ H Q I (k σ H Q q)⟩
theorem pts_nilD : PTs X [] (tT X.kw W dYes) := PTs.weak pts_nil fun σ H Q ⟨C, F, ρ, Qd, Ed, S, h, k, _⟩ => k F H true S (Same.refl _) h
theorem pts_oneD {c : Expr} (h : PT X c (tT X.kw W t)) : PTs X [c] (tT X.kw W t) := pts_one h
theorem lc_read {w : Bool} : ∀ σ H Q, tF X.kw W (dLc fi g t fe (own.map (·.2))) σ H Q → tLc (tI X.kw w W fi) (tGD X.kw w (own.map (·.2)) g) (tT X.kw W0 t) (tD X.kw W0 fe) (own.map (·.2)) σ H Q := by
  intro σ H Q ⟨C, F, ρ, Qd, Ed, S, ⟨pl, h⟩, k, x⟩
  generalize own.map (·.2) = vs at *
  refine ⟨C, F, ρ, _, Ed, S, h, fun F1 H1 J ds S1 s1 hz hw q => fun D hD => ?_, x⟩
  refine lc_it hw (fun i H => ∃ F2 acc accd, Sd X.kw C F2 H σ ρ ∧ Same F1 F2 ∧ Apart C F2 H σ ρ D ∧ H D = some (.lst acc) ∧ acc.length ≤ i ∧ IsAll X.kw F2 acc accd ∧ lcD g t fe (wipeD ρ vs) (ds.drop i) accd Qd) ?_ ?_ ?_ ?_
  · have ap := S1.new hD
    exact ⟨F1, [], [], S1.fresh hD, Same.refl _, ⟨ap.f, ap.h0, ap.bg, ap.no⟩, upd_same, Nat.le_refl _, .nil, q⟩
  · intro i H _ ⟨F2, acc, accd, S2, s2, _⟩
    exact s2.trans S2.le
  · intro i v H H' hi ⟨F2, acc, accd, S2, s2, ap, hDa, hac, ia, q⟩ ⟨d, hd, y⟩
    -- what is yielded becomes still
    obtain ⟨F3, S3, s3, iv, n3, hD3⟩ : ∃ F3, Sd X.kw C F3 H' σ ρ ∧ Same F2 F3 ∧ IsT X.kw w F3 v d ∧ F3 D = none ∧ H' D = some (.lst acc) := by
      rcases y with ⟨rfl, iv⟩ | ⟨hw', T, a, b, da, db, rfl, hT, rfl, ia', ib', rfl⟩
      · exact ⟨F2, S2, Same.refl _, .inl (iv.up s2), ap.f, hDa⟩
      · have hne : D ≠ T := ne_of_none hDa hT
        have fs : Same F2 (upd F2 T (.tup [a, b])) := fun c u e => by rw [upd_ne (ne_of_none e (S2.le.free hT))]; exact e
        exact ⟨_, S2.laid hT, fs, .inr ⟨hw', T, a, b, da, db, rfl, rfl, upd_same, ia'.up (s2.trans fs), ib'.up (s2.trans fs)⟩, by rw [upd_ne hne]; exact ap.f, by rw [upd_ne hne]; exact hDa⟩
    have ap3 : Apart C F3 H' σ ρ D := ⟨n3, ap.h0, ap.bg, ap.no⟩
    have hdrop : ds.drop i = d :: ds.drop (i + 1) := by
      rw [List.drop_eq_getElem_cons hi]
      congr 1
      rw [List.getElem?_eq_getElem hi] at hd
      exact Option.some.inj hd
    rw [hdrop] at q
    have N3 := S3.nest
    -- behind the block all stands again
    have back : ∀ {F5 H5 : Hp} {σ2 : L2.St} {ρ2 : DEnv}, wipe σ2 vs = wipe (wipe σ vs) vs → wipeD ρ2 vs = wipeD (wipeD ρ vs) vs → Sd X.kw ⟨H', F3, C.bg, false, []⟩ F5 H5 σ2 ρ2 →
        Sd X.kw C F5 H5 σ ρ ∧ Same F3 F5 ∧ F5 D = none ∧ H5 D = some (.lst acc) := by
      intro F5 H5 σ2 ρ2 e1 e2 S5
      have S6 : Sd X.kw ⟨H', F3, C.bg, false, []⟩ F5 H5 (wipe σ vs) (wipeD ρ vs) := by
        have := S5.wiped (vs := vs)
        rw [e1, e2, wipe_wipe, wipeD_wipeD] at this
        exact this
      have S7 := N3.unwipe pl S6.le0 S6
      exact ⟨S3.unnest S7, S7.le0, S7.still D (by show H' D ≠ none; rw [hD3]; simp) n3 (by simp), S7.frame D _ hD3 ap3.bg (by simp)⟩
    refine ⟨⟨H', F3, C.bg, false, []⟩, F3, wipeD ρ vs, d, _, N3.wiped, iv, q, fun σ2 ρ2 S4 w4 y4 q4 => ⟨w4.trans (wipe_wipe σ vs), ⟨H', F3, C.bg, false, []⟩, F3, ρ2, _, _, S4, q4, fun F5 H5 b S5 s5 q5 => ?_, exits0⟩⟩
    cases b with
    | false =>
      refine iteF ?_
      obtain ⟨S7, s7, n7, h7⟩ := back w4 y4 S5
      exact ⟨F5, acc, accd, S7, s2.trans (s3.trans s7), ⟨n7, ap.h0, ap.bg, ap.no⟩, h7, by omega, ia.up (s3.trans s7), by simpa using q5⟩
    | true =>
      refine iteT ⟨⟨H', F3, C.bg, false, []⟩, F5, ρ2, _, _, S5, (by simpa using q5), fun F6 H6 w z S6 s6 i6 q6 => ?_, exits0⟩
      obtain ⟨S7, s7, n7, h7⟩ := back w4 y4 S6
      have ap7 : Apart C F6 H6 σ ρ D := ⟨n7, ap.h0, ap.bg, ap.no⟩
      have lt : acc.length < sizeLine := by omega
      exact ⟨acc, h7, lt, F6, acc ++ [w], accd ++ [z], S7.write ap7, s2.trans (s3.trans s7), ⟨n7, ap.h0, ap.bg, ap.no⟩, upd_same, by rw [List.length_append]; show acc.length + 1 ≤ i + 1; omega, (ia.up (s3.trans s7)).append (.cons i6 .nil), q6⟩
  · intro H ⟨F2, acc, accd, S2, s2, ap, hDa, hac, ia, q⟩
    rw [List.drop_length] at q
    exact k F2 H D acc accd S2 (s1.trans s2) ap hDa (by omega) ia q
/-- [elt for target in iter if ..], new -/
theorem pf_lc {w : Bool} (hc : X.calm = true) (hN : X.N.Nodup) (ok : BlkOk X.N X.env.scope scope own) (hi : PI X tg iter (tI X.kw w W fi))
    (hg : ∀ (s : Shared) (H : Hp) (C : Addr) (cl : List (Str × Addr)) (fp : List Addr), PG (X.blk s H scope (compEnvC scope cl C X.env) fp) tg (tGD X.kw w (own.map (·.2)) g)) (ht : ∀ (s : Shared) (H : Hp) (C : Addr) (cl : List (Str × Addr)) (fp : List Addr), PTs (X.blk s H scope (compEnvC scope cl C X.env) fp) ifs (tT X.kw W0 t))
    (he : ∀ (s : Shared) (H : Hp) (C : Addr) (cl : List (Str × Addr)) (fp : List Addr), PE (X.blk s H scope (compEnvC scope cl C X.env) fp) elt (tD X.kw W0 fe)) (hs : ∀ x, foldedSetIterable iter X.env x = pure x := by intro _; rfl) :
    PE X (.ListComp elt [⟨tg, iter, ifs, 0⟩] scope pos) (tF X.kw W (dLc fi g t fe (own.map (·.2)))) := PE.weak (pe_lc hc hN hi ok hg ht he hs) lc_read

/-! ### statements -/
structure DEnds where
  nx : DEnv → Prop
  rt : PyData → DEnv → Prop
  bk : DEnv → Prop := fun _ => False
  ct : DEnv → Prop := fun _ => False
  ex : ExcD → Prop := fun _ => False
abbrev DS := DEnds → DEnv → Prop
structure SEnds (K : KW) (W : WX) (C : Ctx) (D : Ends) (Dd : DEnds) : Prop where
  nx : ∀ F H σ ρ, Sd K C F H σ ρ → Dd.nx ρ → D.nx σ H
  bk : ∀ F H σ ρ, Sd K C F H σ ρ → Dd.bk ρ → D.bk σ H
  ct : ∀ F H σ ρ, Sd K C F H σ ρ → Dd.ct ρ → D.ct σ H
  rt : ∀ F H σ ρ v d, Sd K C F H σ ρ → Is K F v d → Dd.rt d ρ → D.rt v H
  ex : ∀ F H σ ρ c dd x, Sd K C F H σ ρ → ExcIs K F H c dd x → Dd.ex x → W c dd σ H
def tDS (K : KW) (W : WX) (g : DS) : TS := fun D σ H => ∃ C F ρ Dd, C.mu = true ∧ Sd K C F H σ ρ ∧ g Dd ρ ∧ SEnds K W C D Dd
theorem SEnds.exits {K : KW} {C : Ctx} {D : Ends} {Dd : DEnds} {σ : L2.St} {ρ : DEnv} (s : SEnds K W C D Dd) : Exits K W C σ ρ Dd.ex := fun F' H' c dd x S e q => s.ex F' H' σ ρ c dd x S e q
variable {st : Stmt} {sts : List Stmt} {gs hs' : DS} {f : DE}
theorem PS.weak {t t' : TS} (h : PS X st t) (k : ∀ D σ H, t' D σ H → t D σ H) : PS X st t' := ⟨fun pins s σ H D I q => h.run pins s σ H D I (k D σ H q)⟩
theorem PSs.weak {t t' : TS} (h : PSs X sts t) (k : ∀ D σ H, t' D σ H → t D σ H) : PSs X sts t' := ⟨fun pins s σ H D I q => h.run pins s σ H D I (k D σ H q)⟩
def dNext : DS := fun D ρ => D.nx ρ
def dSeq (g h : DS) : DS := fun D ρ => g { D with nx := h D } ρ
theorem ds_nil : PSs X [] (tDS X.kw W dNext) := PSs.weak pss_nil fun D σ H ⟨C, F, ρ, Dd, m, S, h, E⟩ => E.nx F H σ ρ S h
theorem ds_cons (h1 : PS X st (tDS X.kw W gs)) (h2 : PSs X sts (tDS X.kw W hs')) : PSs X (st :: sts) (tDS X.kw W (dSeq gs hs')) :=
  PSs.weak (pss_cons h1 h2) fun D σ H ⟨C, F, ρ, Dd, m, S, h, E⟩ => ⟨C, F, ρ, _, m, S, h, ⟨fun F' H' σ' ρ' S' q => ⟨C, F', ρ', Dd, m, S', q, E⟩, E.bk, E.ct, E.rt, E.ex⟩⟩
theorem ds_one (h1 : PS X st (tDS X.kw W gs)) : PSs X [st] (tDS X.kw W gs) := pss_one h1
theorem dpass : PS X (.Pass pos) (tDS X.kw W dNext) := PS.weak ps_pass fun D σ H ⟨C, F, ρ, Dd, m, S, h, E⟩ => E.nx F H σ ρ S h
def dBreak : DS := fun D ρ => D.bk ρ
def dCont : DS := fun D ρ => D.ct ρ
theorem dbreak : PS X (.Break pos) (tDS X.kw W dBreak) := PS.weak ps_break fun D σ H ⟨C, F, ρ, Dd, m, S, h, E⟩ => E.bk F H σ ρ S h
theorem dcont : PS X (.Continue pos) (tDS X.kw W dCont) := PS.weak ps_continue fun D σ H ⟨C, F, ρ, Dd, m, S, h, E⟩ => E.ct F H σ ρ S h
theorem ddoc {x j pos'} : PS X (.Expr (.Constant (.str x) j pos) pos') (tDS X.kw W dNext) := PS.weak ps_doc fun D σ H ⟨C, F, ρ, Dd, m, S, h, E⟩ => E.nx F H σ ρ S h
def dNever : DS := fun _ _ => False
theorem dnever : PS X st (tDS X.kw W dNever) := PS.weak ps_never fun D σ H ⟨C, F, ρ, Dd, m, S, h, E⟩ => h.elim
theorem dnevers : PSs X sts (tDS X.kw W dNever) := PSs.weak pss_never fun D σ H ⟨C, F, ρ, Dd, m, S, h, E⟩ => h.elim
def dRet (f : DE) : DS := fun D ρ => f ρ (fun d => D.rt d ρ) D.ex
theorem dret (h : PE X e (tD X.kw W f)) : PS X (.Return (some e) pos) (tDS X.kw W (dRet f)) := PS.weak (ps_ret h) fun D σ H ⟨C, F, ρ, Dd, m, S, h, E⟩ =>
  ⟨C, F, ρ, _, Dd.ex, S, h, fun F' H' v d S' s' i q => E.rt F' H' σ ρ v d S' i q, E.exits⟩
def dRetN : DS := fun D ρ => D.rt .none ρ
theorem dretN : PS X (.Return none pos) (tDS X.kw W dRetN) := PS.weak ps_retN fun D σ H ⟨C, F, ρ, Dd, m, S, h, E⟩ => E.rt F H σ ρ _ _ S .non h
def dDrop (f : DE) : DS := fun D ρ => f ρ (fun _ => D.nx ρ) D.ex
theorem dexpr (h : PE X e (tD X.kw W f)) (hs : swapsWith e none pos.line X.env = pure false := by rfl) : PS X (.Expr e pos) (tDS X.kw W (dDrop f)) := PS.weak (ps_expr h hs) fun D σ H ⟨C, F, ρ, Dd, m, S, h, E⟩ =>
  ⟨C, F, ρ, _, Dd.ex, S, h, fun F' H' v d S' s' i q => E.nx F' H' σ ρ S' q, E.exits⟩
def dIfS (t : DT) (g h : DS) : DS := fun D ρ => t ρ (fun c => if c = true then g D ρ else h D ρ) D.ex
variable {c : Expr} {sa sb : List Stmt} {ga gb : DS}
theorem difs (hc : PT X c (tT X.kw W t)) (ha : PSs X sa (tDS X.kw W ga)) (hb : PSs X sb (tDS X.kw W gb)) : PS X (.If c sa sb pos) (tDS X.kw W (dIfS t ga gb)) := PS.weak (ps_if hc ha hb) fun D σ H ⟨C, F, ρ, Dd, m, S, h, E⟩ =>
  ⟨C, F, ρ, _, Dd.ex, S, h, fun F' H' b S' s' q => by
    cases b with
    | true => exact iteT ⟨C, F', ρ, Dd, m, S', (by simpa using q), E⟩
    | false => exact iteF ⟨C, F', ρ, Dd, m, S', (by simpa using q), E⟩, E.exits⟩
/-- x = e -/
def dSet (i : Nat) (f : DE) : DS := fun D ρ => i < ρ.length ∧ f ρ (fun d => D.nx (put ρ i (.data d))) D.ex
theorem dset (i : Nat) {x : Str} {pos' : Pos} (hN : X.N.Nodup) (he : PE X e (tD X.kw W f)) (hi : X.N[i]? = some x := by rfl) (hx : Loc X.env.scope x := by first | exact Or.inl rfl | exact Or.inr rfl) (hs : swapsWith e (some (.Name x pos')) pos.line X.env = pure false := by rfl)
    (hf : X.fn x = true ∨ X.env.scope.names.lookup x = some .local := by first | exact .inl rfl | exact .inr rfl) : PS X (.Assign [.Name x pos'] e pos) (tDS X.kw W (dSet i f)) :=
  PS.weak (ps_set hN hi hx he hs hf) fun D σ H ⟨C, F, ρ, Dd, m, S, h, E⟩ => ⟨C, F, ρ, _, Dd.ex, S, h.2, fun F' H' v d S' s' i' q => E.nx F' H' _ _ (S'.storeD (by rw [← S.len]; exact h.1) i') q, E.exits⟩
/-- .. a list that the name alone holds -/
def dSetL (i : Nat) (f : DL') : DS := fun D ρ => i < ρ.length ∧ f ρ (fun ds => D.nx (put ρ i (.ownL ds))) D.ex
theorem Sd.storeL {K : KW} {C : Ctx} {F H : Hp} {σ : L2.St} {ρ : DEnv} {i : Nat} {a : Addr} {xs : List V} {ds : List PyData} (S : Sd K C F H σ ρ) (hi : i < σ.length) (ap : Apart C F H σ ρ a) (h : H a = some (.lst xs)) (z : xs.length ≤ sizeLine) (t : IsAll K F xs ds) :
    Sd K C F H (σ.set i (some (.ref a))) (put ρ i (.ownL ds)) := S.store hi ⟨a, xs, rfl, h, z, t⟩ fun b q => by
  have e : a = b := by have := q.lD; injection this with z; injection z
  subst e
  exact ⟨ap.f, fun _ => .inl ap.h0, ap.bg, fun j _ => ap.no j⟩
theorem Sd.storeK {K : KW} {C : Ctx} {F H : Hp} {σ : L2.St} {ρ : DEnv} {i : Nat} {a : Addr} {o : HO} {kvs : List (PyData × PyData)} (S : Sd K C F H σ ρ) (hi : i < σ.length) (ap : Apart C F H σ ρ a) (h : H a = some o) (t : DObj K F a kvs o) :
    Sd K C F H (σ.set i (some (.ref a))) (put ρ i (.ownD kvs)) := S.store hi ⟨a, o, rfl, h, t⟩ fun b q => by
  have e : a = b := by have := q.dD; injection this with z; injection z
  subst e
  exact ⟨ap.f, fun _ => .inl ap.h0, ap.bg, fun j _ => ap.no j⟩
variable {fl : DL'} {fk : DK}
theorem dsetL (i : Nat) {x : Str} {pos' : Pos} (hN : X.N.Nodup) (he : PE X e (tF X.kw W fl)) (hi : X.N[i]? = some x := by rfl) (hx : Loc X.env.scope x := by first | exact Or.inl rfl | exact Or.inr rfl) (hs : swapsWith e (some (.Name x pos')) pos.line X.env = pure false := by rfl)
    (hf : X.fn x = true ∨ X.env.scope.names.lookup x = some .local := by first | exact .inl rfl | exact .inr rfl) : PS X (.Assign [.Name x pos'] e pos) (tDS X.kw W (dSetL i fl)) :=
  PS.weak (ps_set hN hi hx he hs hf) fun D σ H ⟨C, F, ρ, Dd, m, S, h, E⟩ => ⟨C, F, ρ, _, Dd.ex, S, h.2, fun F' H' a xs ds S' s' ap e z i' q => E.nx F' H' _ _ (S'.storeL (by rw [← S.len]; exact h.1) ap e z i') q, E.exits⟩
def dSetK (i : Nat) (f : DK) : DS := fun D ρ => i < ρ.length ∧ f ρ (fun kvs => D.nx (put ρ i (.ownD kvs))) D.ex
theorem dsetK (i : Nat) {x : Str} {pos' : Pos} (hN : X.N.Nodup) (he : PE X e (tG X.kw W fk)) (hi : X.N[i]? = some x := by rfl) (hx : Loc X.env.scope x := by first | exact Or.inl rfl | exact Or.inr rfl) (hs : swapsWith e (some (.Name x pos')) pos.line X.env = pure false := by rfl)
    (hf : X.fn x = true ∨ X.env.scope.names.lookup x = some .local := by first | exact .inl rfl | exact .inr rfl) : PS X (.Assign [.Name x pos'] e pos) (tDS X.kw W (dSetK i fk)) :=
  PS.weak (ps_set hN hi hx he hs hf) fun D σ H ⟨C, F, ρ, Dd, m, S, h, E⟩ => ⟨C, F, ρ, _, Dd.ex, S, h.2, fun F' H' a o kvs S' s' ap e i' q => E.nx F' H' _ _ (S'.storeK (by rw [← S.len]; exact h.1) ap e i') q, E.exits⟩
/-- name = [..] on one line -/
theorem dsetLc {w : Bool} (own? : Bool) (i : Nat) {y : Str} {py spos : Pos} (hc : X.calm = true) (hN : X.N.Nodup) (ok : BlkOk X.N X.env.scope scope own) (hi : PI X tg iter (tI X.kw w W fi))
    (hg : ∀ (s : Shared) (H : Hp) (C : Addr) (cl : List (Str × Addr)) (fp : List Addr), PG (X.blk s H scope (compEnvC scope cl C X.env) fp) tg (tGD X.kw w (own.map (·.2)) g)) (ht : ∀ (s : Shared) (H : Hp) (C : Addr) (cl : List (Str × Addr)) (fp : List Addr), PTs (X.blk s H scope (compEnvC scope cl C X.env) fp) ifs (tT X.kw W0 t))
    (he : ∀ (s : Shared) (H : Hp) (C : Addr) (cl : List (Str × Addr)) (fp : List Addr), PE (X.blk s H scope (compEnvC scope cl C X.env) fp) elt (tD X.kw W0 fe)) (hs : ∀ x, foldedSetIterable iter X.env x = pure x := by intro _; rfl)
    (hy : X.N[i]? = some y := by rfl) (hyl : X.env.scope.names.lookup y = some .local := by rfl) (hsw : swapsWith (.ListComp elt [⟨tg, iter, ifs, 0⟩] scope pos) (some (.Name y py)) spos.line X.env = pure true := by exact sw_true rfl rfl rfl (by decide +kernel)) :
    PS X (.Assign [.Name y py] (.ListComp elt [⟨tg, iter, ifs, 0⟩] scope pos) spos) (tDS X.kw W (if own? = true then dSetL i (dLc fi g t fe (own.map (·.2))) else dSet i (dFrz (dLc fi g t fe (own.map (·.2)))))) :=
  PS.weak (ps_setLc hc hN hy hyl hsw hi ok hg ht he hs) fun D σ H ⟨C, F, ρ, Dd, m, S, h, E⟩ => by
    cases own? with
    | true =>
      have h : dSetL i (dLc fi g t fe (own.map (·.2))) Dd ρ := by simpa using h
      exact lc_read σ H _ ⟨C, F, ρ, _, Dd.ex, S, h.2, fun F' H' a xs ds S' s' ap e z i' q => E.nx F' H' _ _ (S'.storeL (by rw [← S.len]; exact h.1) ap e z i') q, E.exits⟩
    | false =>
      have h : dSet i (dFrz (dLc fi g t fe (own.map (·.2)))) Dd ρ := by simpa using h
      exact lc_read σ H _ ⟨C, F, ρ, _, Dd.ex, S, h.2, fun F' H' a xs ds S' s' ap e z i' q => E.nx (upd F' a (.lst xs)) H' _ _ ((S'.freeze ap e).storeD (by rw [← S.len]; exact h.1) (.lst upd_same z (i'.up fun b u q => by rw [upd_ne (ne_of_none q ap.f)]; exact q))) q, E.exits⟩
/-- target = e -/
def dAsg (f : DE) (g : DG) : DS := fun D ρ => f ρ (fun d => g d ρ D.nx) D.ex
theorem dasg {vs : List Nat} {tg : Expr} (he : PE X e (tD X.kw W f)) (hg : PG X tg (tGD X.kw false vs g)) (hs : swapsWithSole [tg] e pos.line X.env = pure false := by rfl) (hw : swappedStores [tg] e X.env = pure none := by rfl)
    (h1 : (assignEach [tg] X.env).map (·.2) = [assign tg X.env] := by rfl) : PS X (.Assign [tg] e pos) (tDS X.kw W (dAsg f g)) :=
  PS.weak (ps_asg he hg hs hw h1) fun D σ H ⟨C, F, ρ, Dd, m, S, h, E⟩ => ⟨C, F, ρ, _, Dd.ex, S, h, fun F' H' v d S' s' i' q => ⟨C, F', ρ, d, _, S', .inl i', q, fun σ' ρ' S2 _ _ q2 => E.nx F' H' σ' ρ' S2 q2⟩, E.exits⟩

/-! ### for -/
def forD (g : DG) (body : DS) (D : DEnds) : List PyData → DEnv → Prop
  | [], ρ => D.nx ρ
  | d :: ds, ρ => g d ρ fun ρ2 => body { D with nx := forD g body D ds, ct := forD g body D ds, bk := D.nx } ρ2
def dFor (fi : DL') (g : DG) (body : DS) : DS := fun D ρ => fi ρ (fun ds => forD g body D ds ρ) D.ex
variable {vs : List Nat} {body : List Stmt}
theorem dfor {w : Bool} (hp : PassesOwn (model X.prog X.w) X.A X.env X.xe) (hc : X.calm = true) (hi : PI X tg iter (tI X.kw w W fi)) (hg : PG X tg (tGD X.kw w vs g)) (hb : PSs X body (tDS X.kw W gs)) (hs : ∀ x, foldedSetIterable iter X.env x = pure x := by intro _; rfl) :
    PS X (.For tg iter body [] pos) (tDS X.kw W (dFor fi g gs)) := PS.weak (ps_for hp hc hi hg hb hs) fun D σ H ⟨C, F, ρ, Dd, m, S, h, E⟩ =>
  ⟨C, F, ρ, _, Dd.ex, S, h, fun F1 H1 J ds S1 s1 hz hw q => by
    have E' : ∀ {F : Hp} {σ : L2.St} {H : Hp} {ρ : DEnv}, Sd X.kw { C with F0 := F1 } F H σ ρ → Sd X.kw C F H σ ρ := fun S => S.rebase S1.le0 S1.still
    refine for_it hw (fun i σ H => ∃ F2 ρ2, Sd X.kw { C with F0 := F1 } F2 H σ ρ2 ∧ forD g gs Dd (ds.drop i) ρ2) ⟨F1, ρ, S1.toBase, q⟩ (fun i σ H _ ⟨F2, ρ2, S2, _⟩ => S2.le0.trans S2.le) ?_ ?_
    · intro i v σ H H' hi' ⟨F2, ρ2, S2, q2⟩ ⟨d, hd, y⟩
      obtain ⟨F3, S3, iv⟩ : ∃ F3, Sd X.kw { C with F0 := F1 } F3 H' σ ρ2 ∧ IsT X.kw w F3 v d := by
        rcases y with ⟨rfl, iv⟩ | ⟨hw', T, a, b, da, db, rfl, hT, rfl, ia', ib', rfl⟩
        · exact ⟨F2, S2, .inl (iv.up S2.le0)⟩
        · have fs : Same F2 (upd F2 T (.tup [a, b])) := fun c u e => by rw [upd_ne (ne_of_none e (S2.le.free hT))]; exact e
          exact ⟨_, S2.laid hT, .inr ⟨hw', T, a, b, da, db, rfl, rfl, upd_same, ia'.up (S2.le0.trans fs), ib'.up (S2.le0.trans fs)⟩⟩
      have hdrop : ds.drop i = d :: ds.drop (i + 1) := by
        rw [List.drop_eq_getElem_cons hi']
        congr 1
        rw [List.getElem?_eq_getElem hi'] at hd
        exact Option.some.inj hd
      rw [hdrop] at q2
      exact ⟨{ C with F0 := F1 }, F3, ρ2, d, _, S3, iv, q2, fun σ' ρ' S4 _ _ q4 => ⟨{ C with F0 := F1 }, F3, ρ', _, m, S4, q4, ⟨fun F5 H5 σ5 ρ5 S5 q5 => ⟨F5, ρ5, S5, q5⟩, fun F5 H5 σ5 ρ5 S5 q5 => E.nx F5 H5 σ5 ρ5 (E' S5) q5, fun F5 H5 σ5 ρ5 S5 q5 => ⟨F5, ρ5, S5, q5⟩,
        fun F5 H5 σ5 ρ5 v d S5 i5 q5 => E.rt F5 H5 σ5 ρ5 v d (E' S5) i5 q5, fun F5 H5 σ5 ρ5 c dd x S5 x5 q5 => E.ex F5 H5 σ5 ρ5 c dd x (E' S5) x5 q5⟩⟩⟩
    · intro σ H ⟨F2, ρ2, S2, q2⟩
      rw [List.drop_length] at q2
      exact E.nx F2 H σ ρ2 (E' S2) q2, E.exits⟩

/-! ### what a name alone holds is changed, or becomes still -/
/-- (no code) -/
def dFz (i : Nat) (g : DS) : DS := fun D ρ => match look ρ i with
  | .ownL ds => g D (put ρ i (.data (.list ds)))
  | .ownD kvs => g D (put ρ i (.data (.dict kvs)))
  | _ => g D ρ
theorem dfz (i : Nat) (h : PSs X sts (tDS X.kw W gs)) : PSs X sts (tDS X.kw W (dFz i gs)) := PSs.weak h fun D σ H ⟨C, F, ρ, Dd, m, S, h, E⟩ => by
  have q := S.ok i
  unfold dFz at h
  split at h
  · rename_i ds e
    rw [e] at q
    obtain ⟨a, xs, h1, h2, h3, h4⟩ := q
    have hw : Owns (val σ i) (look ρ i) a := by rw [e]; exact .l h1
    have fn := (S.own i a hw).1
    exact ⟨C, _, _, Dd, m, S.fz m h1 (fun b q => by rw [e] at q; have := q.lD; rw [h1] at this; cases this; rfl) hw ((S.own i a hw).2.1 m) h2 (.lst upd_same h3 (h4.up fun b u q => by rw [upd_ne (ne_of_none q fn)]; exact q)), h, E⟩
  · rename_i kvs e
    rw [e] at q
    obtain ⟨a, o, h1, h2, h3⟩ := q
    have hw : Owns (val σ i) (look ρ i) a := by rw [e]; exact .d h1
    have fn := (S.own i a hw).1
    exact ⟨C, _, _, Dd, m, S.fz m h1 (fun b q => by rw [e] at q; have := q.dD; rw [h1] at this; cases this; rfl) hw ((S.own i a hw).2.1 m) h2 ((h3.up fun b u q => by rw [upd_ne (ne_of_none q fn)]; exact q).is upd_same), h, E⟩
  · exact ⟨C, F, ρ, Dd, m, S, h, E⟩
/-- x.append(e) -/
def dApp (i : Nat) (f : DE) : DS := fun D ρ => match look ρ i with
  | .ownL ds => f ρ (fun d => ds.length < sizeLine ∧ D.nx (put ρ i (.ownL (ds ++ [d])))) D.ex
  | _ => False
theorem dapp' (i : Nat) {o : Expr} {apos cpos : Pos} (ho : PE X o (tVar i)) (he : PE X e (tD X.kw W f)) (hst : starEach (e :: []) X.env = (false, eval e X.env) :: starEach [] X.env := by rfl)
    (hbase : attributeBase o "append" X.env (eval o X.env) = eval o X.env := by rfl)
    (hfew : ((backTo cpos (starEach (e :: []) X.env)).all (fun x => !x.1) && (backToKw cpos (keywordEach [] X.env)).all (fun x => x.1.isSome)
      && decide ((e :: []).length + ([] : List Keyword).length + (if ([] : List Keyword).isEmpty then 0 else 1) < 30)) = true := by rfl)
    (hline : (apos.endLine == cpos.line) = true := by rfl) (hplain : (backTo cpos (starEach [] X.env)).any (·.1) = false := by rfl)
    (hs : swapsWith (.Call (.Attribute o "append" apos) [e] [] cpos) none pos.line X.env = pure false := by rfl) :
    PS X (.Expr (.Call (.Attribute o "append" apos) [e] [] cpos) pos) (tDS X.kw W (dApp i f)) :=
  PS.weak (ps_expr (pe_bm PySem.F.plainAttrs_list PySem.F.slot_list_append PySem.F.type_list_append mt_append ho (pa_cons he pa_nil hst) hbase hfew hline hst hplain) hs) fun D σ H ⟨C, F, ρ, Dd, m, S, h, E⟩ => by
    have q := S.ok i
    unfold dApp at h
    split at h
    · rename_i ds e
      rw [e] at q
      obtain ⟨a, xs, h1, h2, h3, h4⟩ := q
      refine ⟨_, val_some h1, .inl ⟨rfl, _, .of h2⟩, C, F, ρ, _, Dd.ex, S, h, fun F' H' v d S' s' i' q' => ?_, E.exits⟩
      have q2 := S'.ok i
      rw [e] at q2
      obtain ⟨a', xs', g1, g2, g3, g4⟩ := q2
      rw [h1] at g1; cases g1
      have hw : Owns (val σ i) (look ρ i) a := by rw [e]; exact .l h1
      have lt : xs'.length < sizeLine := by rw [g4.length]; exact q'.1
      exact ⟨a, xs', v, rfl, rfl, g2, lt, E.nx F' _ σ _ (S'.mut (t := .ownL (ds ++ [d])) m h1 hw ⟨a, xs' ++ [v], rfl, upd_same, by rw [List.length_append]; exact lt, g4.append (.cons i' .nil)⟩ fun b q => by have := q.lD; cases this; rfl) q'.2⟩
    · exact h.elim
end
end DL
set_option Elab.async false
set_option linter.all false
set_option maxRecDepth 100000
set_option maxHeartbeats 4000000
/-! DL, the data layer (6): defs that stand where no repr is under way; the law's end -/
namespace DL
open PySem PySem.Spec PyProof.Rows L2

/-- room for k calls, and no repr is under way -/
structure RoomG (k : Nat) (A : Around) : Prop where
  r : Room k A
  g : A.guards = some []
theorem RoomG.mono {j k : Nat} {A : Around} (h : RoomG k A) (le : j ≤ k) : RoomG j A := ⟨h.r.mono le, h.g⟩
theorem RoomG.deeper {k : Nat} {A : Around} (h : RoomG (k + 1) A) (env : PySem.Env) : RoomG k (A.deeper env) := ⟨h.r.deeper env, h.g⟩
/-- a def keeps its promise wherever no repr is under way -/
structure FnG (P : Program) (w : World) (K : PySem.W.Frag) (mg : Str → Option Value) (base : Heap) (CX : CXT) (k : Nat) (f : Addr) (fd : FuncData) (ps : List Str) (sp : Sp) : Prop where
  len : ∀ vs H Q E, sp vs H Q E → vs.length = ps.length
  run : ∀ (A : Around) (outer : List PySem.Env) (s : Shared) (H : Hp) (args : Args) (us : List Value) (vs : List V) (Q : VK) (E : XK), RoomG k A → Env0 P w K mg base A outer s H → BindsTo s fd args (ps.zip us) → Vals vs us → sp vs H Q E →
    codeAny (model P w) A (.call (.ref f) args) (CR CX outer P w H s Q E) s
section
variable {P : Program} {w : World} {K : PySem.W.Frag} {mg : Str → Option Value} {base : Heap} {CX : CXT} {k j : Nat} {f : Addr} {fd : FuncData} {ps : List Str} {sp : Sp}
theorem FnG.mono (F : FnG P w K mg base CX j f fd ps sp) (h : j ≤ k) : FnG P w K mg base CX k f fd ps sp :=
  ⟨F.len, fun A outer s H args us vs Q E hr => F.run A outer s H args us vs Q E (hr.mono h)⟩
theorem FnG.imp {sp' : Sp} (F : FnG P w K mg base CX k f fd ps sp) (h : ∀ vs H Q E, sp' vs H Q E → sp vs H Q E) : FnG P w K mg base CX k f fd ps sp' :=
  ⟨fun vs H Q E q => F.len vs H Q E (h vs H Q E q), fun A outer s H args us vs Q E hr e0 hb hv q => F.run A outer s H args us vs Q E hr e0 hb hv (h vs H Q E q)⟩
/-- by a def's body -/
theorem fn_g {name qual : Str} {params : Arguments} {body : List Stmt} {scope : Scope} {dV kV doc pm cdv ct oc : Value} {an od : Option Addr} {osl : Array (Option Value)} {N : List Str}
    (lk : K.lookup f = some ⟨oc, od, .func (PySem.W.fnOf name qual params body scope dV kV doc pm an cdv ct), osl⟩) (hcd : PySem.W.codeIn K cdv qual = true) (S : FnScope N ps scope) (len : ∀ vs H Q E, sp vs H Q E → vs.length = ps.length)
    (hbody : ∀ (A : Around) (outer : List PySem.Env) (s : Shared) (H : Hp) (vs : List V) (Q : VK) (E : XK), RoomG k (A.deeper (envOfC qual scope s.heap.objs.size f cdv)) → sp vs H Q E →
      ∃ t, PSs (cxOf CX P w K mg base N qual scope f cdv A outer s H E) body t ∧ t { nx := fun _ H' => Q .non H', rt := Q } (start N vs) H) :
    FnG P w K mg base CX (k + 1) f (PySem.W.fnOf name qual params body scope dV kV doc pm an cdv ct) ps sp where
  len := len
  run := by
    intro A outer s H args us vs Q E hr e0 hb rv hsp
    have old : ∀ b o, base.get? b = some o → s.heap.get? b = some o := fun b o e => (e0.bs b o e).1
    have KX : K.In s.heap := e0.mod.kin.keeps old
    have par : ∀ y ∈ ps.zip us, scope.names.lookup y.1 = some .local ∨ (scope.names.lookup y.1 = some .cell ∧ ((cellsFrom (s.heap.objs.size + 1) scope.names []).lookup y.1).isSome = true) := by
      rintro ⟨n, v⟩ hy
      cases S.par n (List.of_mem_zip hy).1 with
      | inl q => exact .inl q
      | inr q => exact .inr ⟨q, PySem.W.cellsFrom_some _ _ _ (.inl q)⟩
    refine codeAny_call_function hr.r.depth (KX _ _ lk) rfl S.co S.gen rfl (PySem.W.codeRec_of KX hcd) (hb _ _ _ _ (wpAny_newFunctionEnv_cells S.kind par fun env he s1 x => ?_))
    subst he
    obtain ⟨t, ht, q⟩ := hbody A outer s H vs Q E (hr.deeper _) hsp
    have I : Inv (cxOf CX P w K mg base N qual scope f cdv A outer s H E) [] (start N vs) H s1 := inv_start S hr.r.hd e0 (len _ _ _ _ hsp) rv x
    refine ⟨(e0.mod.nolimit.keeps old).keeps x.toInCall.keep, codeAny_func (wpAny_mono (ht.run [] s1 (start N vs) H _ I q) ?_ fun e s' hs => hs)⟩
    intro fl s' hs
    match fl, hs with
    | .ret u, ⟨v, _, H', J, r, q⟩ => exact ⟨v, H', J.os, J.bare, J.base, J.hok, r, q⟩
    | .next, ⟨_, H', J, q⟩ => exact ⟨.non, H', J.os, J.bare, J.base, J.hok, rfl, q⟩
    | .brk, ⟨_, _, _, q⟩ => exact False.elim q
    | .cont, ⟨_, _, _, q⟩ => exact False.elim q
/-- .. that stands in the text, no exception leaving it -/
theorem fun_g {x qual : Str} {st : Stmt} {N : List Str} (F : Fun K x qual st f fd) (S : FnScope N ps (defScope st)) (len : ∀ vs H Q E, sp vs H Q E → vs.length = ps.length)
    (hbody : ∀ (cdv : Value) (A : Around) (outer : List PySem.Env) (s : Shared) (H : Hp) (vs : List V) (Q : VK) (E : XK), RoomG k (A.deeper (envOfC qual (defScope st) s.heap.objs.size f cdv)) → sp vs H Q E →
      ∃ t, PSs (cxOf CX0 P w K mg base N qual (defScope st) f cdv A outer s H E).nox (defBody st) t ∧ t { nx := fun _ H' => Q .non H', rt := Q } (start N vs) H) : FnG P w K mg base CX0 (k + 1) f fd ps sp := by
  obtain ⟨oc, od, kV, doc, pm, an, cdv, ct, osl, e, lk, hcd⟩ := F.ex
  subst e
  exact fn_g lk hcd S len fun A outer s H vs Q E hr hsp => let ⟨t, h, q⟩ := hbody cdv A outer s H vs Q E hr hsp; ⟨t, h.nox, q⟩
end

/-! ### calls -/
section
variable {X : Cx} {W : WX} {pos p : Pos} {e : Expr} {es : List Expr} {fas : DA} {x : Str} {k : Nat} {fa' : Addr} {fd : FuncData} {ps : List Str} {fn : DFn} {sp : Sp} {t : TA}
theorem pe_callG (F : FnG X.prog X.w X.K X.mg X.base CX0 k fa' fd ps sp) (hr : RoomG k X.A) (hg : Gl X x) (hm : X.mg x = some (.ref fa')) (hk : PySem.W.keepIn X.K (.ref fa') = true) (hb : Binds X.K fd ps [])
    (ha : PA X (e :: es) t) (hdb : (x == ("__debug__" : Str)) = false := by decide) (he : starEach (e :: es) X.env = (false, eval e X.env) :: starEach es X.env := by rfl) (hpl : (backTo pos (starEach es X.env)).any (·.1) = false := by rfl) :
    PE X (.Call (.Name x p) (e :: es) [] pos) (tCall sp [] E0 t) where
  run := by
    intro pins s σ H Q I h
    refine wpAny_Call_Name_kw (ld_glob I hg hm (PySem.W.callWith_K (h₀ := X.base) I.ok.mod.kin hk (thn (ha.run pos pins s σ H _ I h) ?_) he hpl) hdb)
    rintro us s1 ⟨vs, H1, I1, rv, q⟩
    refine ⟨I1.kIn, wpAny_call ?_⟩
    have q' : sp vs H1 Q E0 := by
      have q0 : sp (vs ++ []) H1 Q E0 := q
      rw [List.append_nil] at q0
      exact q0
    have bt := hb s1 us I1.kIn (by rw [List.append_nil, ← rv.length]; exact F.len _ _ _ _ q')
    rw [List.append_nil] at bt
    refine codeAny_mono (F.run X.A X.stack s1 H1 ⟨us, []⟩ us vs Q E0 hr I1.env0 bt rv q') fun r s' z => ?_
    match r, z with
    | .ok (.ret _), z => exact I1.after z
    | .ok .next, z => exact False.elim z
    | .ok .brk, z => exact False.elim z
    | .ok .cont, z => exact False.elim z
    | .error _, z => exact False.elim z
theorem pd_fn (F : FnG X.prog X.w X.K X.mg X.base CX0 k fa' fd ps (spD X.kw fn)) (hr : RoomG k X.A) (hm : X.mg x = some (.ref fa')) (hk : PySem.W.keepIn X.K (.ref fa') = true) (hb : Binds X.K fd ps [])
    (ha : PA X (e :: es) (tA X.kw W fas)) (hg : Gl X x := by rfl) (hdb : (x == ("__debug__" : Str)) = false := by decide) (he : starEach (e :: es) X.env = (false, eval e X.env) :: starEach es X.env := by rfl) (hpl : (backTo pos (starEach es X.env)).any (·.1) = false := by rfl) :
    PE X (.Call (.Name x p) (e :: es) [] pos) (tD X.kw W (dFn0 fn fas)) :=
  PE.weak (pe_callG F hr hg hm hk hb ha hdb he hpl) (fn0_read (X := X))

/-! ### a def by its body's reading -/
def ends0 (Q : PyData → Prop) (E : ExcD → Prop) : DEnds := { nx := fun _ => Q .none, rt := fun d _ => Q d, ex := E }
/-- the frame of data at the entry -/
def startD (n : Nat) (ss : List DSlot) : DEnv := ss ++ List.replicate (n - ss.length) .undef
theorem look_start {n : Nat} {ss : List DSlot} {i : Nat} : look (startD n ss) i = match ss[i]? with | some s => s | none => .undef := by
  have app : ∀ (a b : DEnv) (i : Nat), look (a ++ b) i = match a[i]? with | some s => s | none => look b (i - a.length) := by
    intro a b
    induction a with
    | nil => intro i; simp
    | cons x a ih =>
      intro i
      cases i with
      | zero => simp [look]
      | succ i =>
        rw [List.cons_append]
        show look (a ++ b) i = _
        rw [ih]
        simp
  have rep : ∀ (m i : Nat), look (List.replicate m .undef) i = .undef := by
    intro m
    induction m with
    | zero => intro i; rfl
    | succ m ih => intro i; cases i with
      | zero => rfl
      | succ i => exact ih i
  unfold startD
  rw [app]
  cases e : ss[i]? with
  | none => exact rep _ _
  | some s => rfl
theorem sd_start {K : KW} {F H : Hp} {bg : Option Bag} {vs : List V} {ss : List DSlot} {N : List Str} (le : Same F H) (hb : ∀ p, bg = some p → BagOk K F H p) (ha : ArgsOk K F bg vs ss) (hn : vs.length ≤ N.length) :
    Sd K ⟨H, F, bg, true, []⟩ F H (start N vs) (startD N.length ss) := by
  have el : vs.length = ss.length := Paired.length ha
  have get : ∀ {us : List V} {ts : List DSlot}, ArgsOk K F bg us ts → ∀ (i : Nat), (us[i]? = none ∧ ts[i]? = none) ∨ ∃ v s, us[i]? = some v ∧ ts[i]? = some s ∧ ArgOk K F bg v s := by
    intro us ts h
    induction h with
    | nil => intro i; simp
    | cons r t ih =>
      intro i
      cases i with
      | zero => exact .inr ⟨_, _, by simp, by simp, r⟩
      | succ i => simpa using ih i
  have vl : ∀ (i : Nat), val (start N vs) i = vs[i]? := by
    intro i
    unfold val L2.start
    by_cases h : i < vs.length
    · rw [List.getElem?_append_left (by simpa using h), List.getElem?_map, List.getElem?_eq_getElem h]; rfl
    · rw [List.getElem?_append_right (by simpa using h), List.getElem?_eq_none (show vs.length ≤ i by omega), List.getElem?_replicate]
      split <;> rfl
  have now : ∀ (i : Nat) (a : Addr), ¬ Owns (val (start N vs) i) (look (startD N.length ss) i) a := by
    intro i a h
    rw [vl, look_start] at h
    rcases get ha i with ⟨e1, e2⟩ | ⟨v, s, e1, e2, r⟩
    · rw [e2] at h; exact h.not rfl
    · rw [e2] at h
      cases s with
      | undef => exact h.not rfl
      | data d => exact h.not rfl
      | bag => exact h.bag
      | ownL _ => exact r
      | ownD _ => exact r
      | rcd _ _ _ => exact r
  refine ⟨Same.refl _, le, fun _ _ e _ _ => e, fun _ h => h, fun _ _ h _ => h, hb, ?_, fun i => ?_, fun i a q => absurd q (now i a), fun i j a q _ => absurd q (now i a)⟩
  · unfold startD L2.start
    rw [List.length_append, List.length_append, List.length_replicate, List.length_replicate, List.length_map, el]
  · rw [vl, look_start]
    rcases get ha i with ⟨e1, e2⟩ | ⟨v, s, e1, e2, r⟩
    · rw [e2]; trivial
    · rw [e1, e2]
      show SlotOk K F H bg (some v) s
      cases s with
      | undef => trivial
      | data d => exact ⟨v, rfl, r⟩
      | bag => obtain ⟨p, h1, h2⟩ := r; exact ⟨p, h1, by rw [h2]⟩
      | ownL _ => exact (show False from r).elim
      | ownD _ => exact (show False from r).elim
      | rcd _ _ _ => exact (show False from r).elim
variable {P : Program} {w : World} {K : PySem.W.Frag} {mg : Str → Option Value} {base : Heap}
/-- a def is worth fn, if its body's reading says so -/
theorem def_g {x qual : Str} {st : Stmt} {N : List Str} (F : Fun K x qual st fa' fd) (S : FnScope N ps (defScope st)) (hlen : ∀ ss Q E, fn ss Q E → ss.length = ps.length)
    (hbody : ∀ (cdv : Value) (A : Around) (outer : List PySem.Env) (s : Shared) (H : Hp) (E : XK), RoomG k (A.deeper (envOfC qual (defScope st) s.heap.objs.size fa' cdv)) →
      ∃ g, PSs (cxOf CX0 P w K mg base N qual (defScope st) fa' cdv A outer s H E).nox (defBody st) (tDS ⟨K, w⟩ W0 g) ∧ ∀ ss Q, fn ss Q (fun _ => False) → g (ends0 Q fun _ => False) (startD N.length ss)) :
    FnG P w K mg base CX0 (k + 1) fa' fd ps (spD ⟨K, w⟩ fun ss Q _ => fn ss Q fun _ => False) := by
  refine fun_g F S (fun vs H Q E ⟨F, bg, ss, Qd, Ed, _, _, ha, h, _⟩ => (Paired.length ha).trans (hlen ss _ _ h)) fun cdv A outer s H vs Q E hr ⟨F', bg, ss, Qd, Ed, le, hb, ha, h, k1, _⟩ => ?_
  obtain ⟨g, hg, q⟩ := hbody cdv A outer s H E hr
  have hl : ss.length = ps.length := hlen ss _ _ h
  have hN : vs.length ≤ N.length := by
    have e := congrArg List.length S.pre
    rw [List.length_take] at e
    have := Paired.length ha
    omega
  have post : ∀ {F2 H2 : Hp} {σ : L2.St} {ρ : DEnv}, Sd ⟨K, w⟩ ⟨H, F', bg, true, []⟩ F2 H2 σ ρ → Post F' F2 H H2 bg [] := fun S => ⟨S.le0, S.le, S.frame, S.alive, S.still⟩
  refine ⟨_, hg, ⟨H, F', bg, true, []⟩, F', startD N.length ss, _, rfl, sd_start le hb ha hN, q ss Qd h, ⟨fun F2 H2 σ ρ S q => ?_, fun _ _ _ _ _ z => (show False from z).elim, fun _ _ _ _ _ z => (show False from z).elim, fun F2 H2 σ ρ v d S i q => ?_, fun _ _ _ _ _ _ _ _ _ z => (show False from z).elim⟩⟩
  · exact k1 F2 H2 _ _ (post S) S.bag .non q
  · exact k1 F2 H2 _ _ (post S) S.bag i q
end
end DL
set_option Elab.async false
set_option linter.all false
set_option maxRecDepth 100000
set_option maxHeartbeats 4000000
/-! DL, the data layer (7): what operators and built-ins are worth -/
namespace DL
open PySem PySem.Spec PyProof.Rows L2
section
variable {X : Cx}
theorem new_still {K : KW} {C : Ctx} {F H : Hp} {σ : L2.St} {ρ : DEnv} (S : Sd K C F H σ ρ) {p : Addr} {o : HO} (hp : H p = none) : Sd K C (upd F p o) (upd H p o) σ ρ ∧ Same F (upd F p o) :=
  ⟨S.laid hp, fun b u q => by rw [upd_ne (ne_of_none q (S.le.free hp))]; exact q⟩
/-! ### + -/
def gAdd : PyData → PyData → (PyData → Prop) → Prop
  | .int i, .int j, Q => Q (.int (i + j))
  | .str x, .str y, Q => x.length + y.length ≤ sizeLine ∧ Q (.str (x ++ y))
  | .list xs, .list ys, Q => xs.length + ys.length ≤ sizeLine ∧ Q (.list (xs ++ ys))
  | .tuple xs, .tuple ys, Q => xs.length + ys.length ≤ sizeLine ∧ Q (.tuple (xs ++ ys))
  | _, _, _ => False
def rAddD (K : KW) : R2 := fun x y H Q => (∃ i j, x = .int i ∧ y = .int j ∧ Q (.int (i + j)) H) ∨ (∃ i j, x = .str i ∧ y = .str j ∧ i.length + j.length ≤ sizeLine ∧ Q (.str (i ++ j)) H) ∨ rCat x y H Q ∨ rCatS K.K x y H Q
theorem op_addD : OpR X (binaryOp .Add) (rAddD X.kw) := OpR.or op_add (OpR.or op_add_str (OpR.or op_cat op_catS))
theorem str_app_length (x y : Str) : (x ++ y).length = x.length + y.length := by
  show (x.cps ++ y.cps).size = x.cps.size + y.cps.size
  exact Array.size_append
theorem d_add : OpD X (rAddD X.kw) gAdd := by
  intro C F H σ ρ v u x y Qz Q S hv hu q k
  unfold gAdd at q
  split at q
  · have := isO_int hv; have := isO_int hu; subst v u
    exact .inl ⟨_, _, rfl, rfl, k F H _ _ S (Same.refl _) (.int _) q⟩
  · obtain ⟨rfl, z1⟩ := isO_str hv; obtain ⟨rfl, z2⟩ := isO_str hu
    exact .inr (.inl ⟨_, _, rfl, rfl, q.1, k F H _ _ S (Same.refl _) (.str _ (by rw [str_app_length]; exact q.1)) q.2⟩)
  · obtain ⟨a, xs, rfl, e1, z1, t1⟩ := isO_list S.le hv; obtain ⟨b, ys, rfl, e2, z2, t2⟩ := isO_list S.le hu
    have z : xs.length + ys.length ≤ sizeLine := by rw [t1.length, t2.length]; exact q.1
    refine .inr (.inr (.inl ⟨a, b, xs, ys, rfl, rfl, e1, e2, z, fun p hp => ?_⟩))
    obtain ⟨S', s'⟩ := new_still S (o := .lst (xs ++ ys)) hp
    exact k _ _ _ _ S' s' (.lst upd_same (by rw [List.length_append]; exact z) ((t1.append t2).up s')) q.2
  · obtain ⟨a, xs, rfl, e1, z1, t1⟩ := isO_tup hv; obtain ⟨b, ys, rfl, e2, z2, t2⟩ := isO_tup hu
    have z : xs.length + ys.length ≤ sizeLine := by rw [t1.length, t2.length]; exact q.1
    refine .inr (.inr (.inr ⟨a, b, xs, ys, rfl, rfl, sqT_mono S.le e1.sq, sqT_mono S.le e2.sq, z, fun e => ?_, fun _ e => ?_, fun _ _ p o hp ho => ?_⟩))
    · subst e; cases t1
      exact k F H _ _ S (Same.refl _) (.tup e2 z2 t2) q.2
    · subst e; cases t2
      rw [List.append_nil] at q
      exact k F H _ _ S (Same.refl _) (.tup e1 z1 t1) q.2
    · obtain ⟨S', s'⟩ := new_still S (o := .frz o (.tup (xs ++ ys))) hp
      exact k _ _ _ _ S' s' (.tup (.of upd_same ho) (by rw [List.length_append]; exact z) ((t1.append t2).up s')) q.2
  · exact q.elim
/-! ### - * // % ** -/
def gInt (C : Int → Int → Prop) (f : Int → Int → Int) : PyData → PyData → (PyData → Prop) → Prop
  | .int i, .int j, Q => C i j ∧ Q (.int (f i j))
  | _, _, _ => False
theorem d_int {C0 : Int → Int → Prop} {f : Int → Int → Int} : OpD X (rI C0 fun i j => .int (f i j)) (gInt C0 f) := by
  intro C F H σ ρ v u x y Qz Q S hv hu q k
  unfold gInt at q
  split at q
  · have := isO_int hv; have := isO_int hu; subst v u
    exact ⟨_, _, rfl, rfl, q.1, k F H _ _ S (Same.refl _) (.int _) q.2⟩
  · exact q.elim
def gSub : PyData → PyData → (PyData → Prop) → Prop
  | .int i, .int j, Q => Q (.int (i - j))
  | _, _, _ => False
theorem d_sub : OpD X (rI0 fun i j => .int (i - j)) gSub := by
  intro C F H σ ρ v u x y Qz Q S hv hu q k
  unfold gSub at q
  split at q
  · have := isO_int hv; have := isO_int hu; subst v u
    exact ⟨_, _, rfl, rfl, k F H _ _ S (Same.refl _) (.int _) q⟩
  · exact q.elim
abbrev gMod := gInt (fun _ j => 0 < j) (fun i j => i % j)
abbrev gFdiv := gInt CDiv (fun i j => i / j)
abbrev gPow := gInt CPow (fun i j => i ^ j.toNat)
theorem txt_mul_len (x : Str) (n : Nat) : (Txt.mul x n).length = n * x.length := by
  have rep : ∀ (k : Nat) (acc : Array Nat), ((List.replicate k x.cps).foldl (· ++ ·) acc).size = acc.size + k * x.length := by
    intro k
    induction k with
    | zero => intro acc; simp
    | succ k ih =>
      intro acc
      rw [List.replicate_succ, List.foldl_cons, ih, Array.size_append, Nat.succ_mul]
      show acc.size + x.cps.size + k * x.length = acc.size + (k * x.length + x.cps.size)
      omega
  unfold Txt.mul
  by_cases h1 : (n : Int) < 1
  · rw [if_pos h1]
    have e : n = 0 := by omega
    subst e
    rw [Nat.zero_mul]
    rfl
  · rw [if_neg h1]
    by_cases h2 : (((n : Int) == 1) || (x.length == 0)) = true
    · rw [if_pos h2]
      rcases Bool.or_eq_true_iff.mp h2 with e | e
      · have e' : (n : Int) = 1 := by simpa using e
        have e2 : n = 1 := by omega
        subst e2; rw [Nat.one_mul]
      · have e' : x.length = 0 := by simpa using e
        rw [e', Nat.mul_zero]
    · rw [if_neg h2]
      have e : ((n : Int)).toNat = n := Int.toNat_natCast n
      rw [e]
      have := rep n #[]
      show ((List.replicate n x.cps).foldl (· ++ ·) #[]).size = n * x.length
      rw [this]
      simp
def gMul : PyData → PyData → (PyData → Prop) → Prop
  | .int i, .int j, Q => CMul i j ∧ Q (.int (i * j))
  | .str x, .int j, Q => 0 ≤ j ∧ j < 1000000 ∧ j.toNat * x.length ≤ sizeLine ∧ Q (.str (Txt.mul x j))
  | _, _, _ => False
def rMulS : R2 := fun x y H Q => ∃ (z : Str) (j : Int), x = .str z ∧ y = .int j ∧ 0 ≤ j ∧ j < 1000000 ∧ j.toNat * z.length ≤ sizeLine ∧ Q (.str (Txt.mul z j)) H
theorem op_mulS : OpR X (binaryOp .Mult) rMulS := by
  intro pins s σ H x y v u Q I rx ry ⟨z, j, ex, ey, h0, h1, hz, q⟩
  subst ex ey
  obtain ⟨t, rfl⟩ := rx
  obtain ⟨t', rfl⟩ := ry
  have small : j.toNat * z.length ≤ 16777216 := by rw [← sizeLine_eq]; exact hz
  refine SB.mul ⟨?_, fun a b => ?_, fun a b => ?_⟩ fun t2 k => ⟨.str _, H, I.tok k, ⟨t2, rfl⟩, q⟩
  · rw [decide_eq_false (show ¬ j < -(2 ^ 63 : Int) by omega), decide_eq_false (show ¬ j ≥ 2 ^ 63 by omega)]; rfl
  · intro c
    have e1 : (z.length : Int) * j ≤ 16777216 := by
      have e : ((j.toNat * z.length : Nat) : Int) ≤ 16777216 := by omega
      rw [Int.natCast_mul, Int.toNat_of_nonneg h0, Int.mul_comm] at e
      exact e
    have hj : (0 : Int) < j := by omega
    have e2 : ((2 ^ 63 - 1) / j + 1) * j ≤ z.length * j := Int.mul_le_mul_of_nonneg_right (by omega) h0
    have e3 := Int.lt_ediv_add_one_mul_self (2 ^ 63 - 1) hj
    omega
  · have : z.length * j.toNat ≤ sizeLine := by rw [Nat.mul_comm]; exact hz
    show decide (z.length * j.toNat > sizeLine) = false
    exact decide_eq_false (by omega)
def rMulD : R2 := fun x y H Q => rI CMul (fun i j => .int (i * j)) x y H Q ∨ rMulS x y H Q
theorem op_mulD : OpR X (binaryOp .Mult) rMulD := OpR.or op_mul op_mulS
theorem d_mul : OpD X rMulD gMul := by
  intro C F H σ ρ v u x y Qz Q S hv hu q k
  unfold gMul at q
  split at q
  · have := isO_int hv; have := isO_int hu; subst v u
    exact .inl ⟨_, _, rfl, rfl, q.1, k F H _ _ S (Same.refl _) (.int _) q.2⟩
  · obtain ⟨rfl, z1⟩ := isO_str hv
    have := isO_int hu; subst u
    obtain ⟨q1, q2, q3, q⟩ := q
    refine .inr ⟨_, _, rfl, rfl, q1, q2, q3, k F H _ _ S (Same.refl _) (.str _ ?_) q⟩
    rename_i x j
    have e := txt_mul_len x j.toNat
    rw [Int.toNat_of_nonneg q1] at e
    rw [e]; exact q3
  · exact q.elim
/-! ### unary -/
def gNeg : PyData → (PyData → Prop) → Prop
  | .int i, Q => Q (.int (-i))
  | _, _ => False
theorem d_neg : UnD X (rU fun i => .int (-i)) gNeg := by
  intro C F H σ ρ v x Qz Q S hv q k
  unfold gNeg at q
  split at q
  · have := isO_int hv; subst v
    exact ⟨_, rfl, k F H _ _ S (Same.refl _) (.int _) q⟩
  · exact q.elim
/-! ### ==, != -/
mutual
theorem is_dp1 {K : KW} {F H : Hp} (le : Same F H) : ∀ (d : PyData) (v : V), Is K F v d → d.canLay0 = true → Dp K.K H v d
  | .none, _, h, _ => by cases h; exact .non
  | .bool b, _, h, _ => by cases h; exact .bl b
  | .int i, _, h, _ => by cases h; exact .int i
  | .str x, _, h, _ => by cases h; exact .str x
  | .list ds, _, h, c => by cases h with | lst e z t => exact .lst (.of (le _ _ e)) (is_dpA le ds _ t (by simpa only [PyData.canLay0] using c))
  | .tuple ds, _, h, c => by cases h with | tup e z t => exact .tup (sqT_mono le e.sq) (is_dpA le ds _ t (by simpa only [PyData.canLay0] using c))
  | .dict kvs, _, h, c => by simp [PyData.canLay0] at c
theorem is_dpA {K : KW} {F H : Hp} (le : Same F H) : ∀ (ds : List PyData) (vs : List V), IsAll K F vs ds → PyData.canLayAll0 ds = true → DpAll K.K H vs ds
  | [], _, h, _ => by cases h; exact .nil
  | d :: ds, _, h, c => by
    cases h with
    | cons a t =>
      have c' : PyData.canLay0 d = true ∧ PyData.canLayAll0 ds = true := by simpa only [PyData.canLayAll0, Bool.and_eq_true] using c
      exact .cons (is_dp1 le d _ a c'.1) (is_dpA le ds _ t c'.2)
end
theorem is_dp {K : KW} {F H : Hp} (le : Same F H) : (∀ (d : PyData) (v : V), Is K F v d → d.canLay0 = true → Dp K.K H v d) ∧ (∀ (ds : List PyData) (vs : List V), IsAll K F vs ds → PyData.canLayAll0 ds = true → DpAll K.K H vs ds) := ⟨is_dp1 le, is_dpA le⟩
theorem isO_dp {K : KW} {F H : Hp} {v : V} {d : PyData} (le : Same F H) (h : IsO K F H v d) (c : d.canLay0 = true) : Dp K.K H v d := by
  rcases h with h | ⟨a, xs, ds, rfl, rfl, e, _, t⟩ | ⟨a, ks, kvs, rfl, rfl, _⟩
  · exact (is_dp le).1 d v h c
  · exact .lst (.of e) ((is_dp le).2 ds xs t (by simpa [PyData.canLay0] using c))
  · simp [PyData.canLay0] at c
/-! ### the order of ints, of texts -/
def ltS (x y : Str) : Bool := decide (x.cps.toList < y.cps.toList)
def gOrd (f : Int → Int → Bool) (g : Str → Str → Bool) : PyData → PyData → (PyData → Prop) → Prop
  | .int i, .int j, Q => Q (.bool (f i j))
  | .str x, .str y, Q => Q (.bool (g x y))
  | _, _, _ => False
def rOrd (f : Int → Int → Bool) (g : Str → Str → Bool) : R2 := fun x y H Q => (∃ i j, x = .int i ∧ y = .int j ∧ Q (.bl (f i j)) H) ∨ (∃ i j, x = .str i ∧ y = .str j ∧ Q (.bl (g i j)) H)
theorem d_ord {f : Int → Int → Bool} {g : Str → Str → Bool} : OpD X (rOrd f g) (gOrd f g) := by
  intro C F H σ ρ v u x y Qz Q S hv hu q k
  unfold gOrd at q
  split at q
  · have := isO_int hv; have := isO_int hu; subst v u
    exact .inl ⟨_, _, rfl, rfl, k F H _ _ S (Same.refl _) (.bl _) q⟩
  · obtain ⟨rfl, _⟩ := isO_str hv; obtain ⟨rfl, _⟩ := isO_str hu
    exact .inr ⟨_, _, rfl, rfl, k F H _ _ S (Same.refl _) (.bl _) q⟩
  · exact q.elim
theorem op_ltD : OpR X (compareOp .Lt) (rOrd (fun i j => decide (i < j)) ltS) := OpR.or op_lt op_lt_str
theorem op_leD : OpR X (compareOp .LtE) (rOrd (fun i j => decide (i ≤ j)) (fun x y => !ltS y x)) := OpR.or op_le op_le_str
theorem op_gtD : OpR X (compareOp .Gt) (rOrd (fun i j => decide (j < i)) (fun x y => ltS y x)) := OpR.or op_gt op_gt_str
theorem op_geD : OpR X (compareOp .GtE) (rOrd (fun i j => decide (j ≤ i)) (fun x y => !ltS x y)) := OpR.or op_ge op_ge_str
/-! ### in, not in -/
def flatD : PyData → Bool
  | .none => true
  | .bool _ => true
  | .int _ => true
  | .str _ => true
  | _ => false
def vOf : PyData → V
  | .none => .non
  | .bool b => .bl b
  | .int i => .int i
  | .str x => .str x
  | _ => .non
theorem isO_flat {K : KW} {F H : Hp} {v : V} {d : PyData} (h : IsO K F H v d) (f : flatD d = true) : v = vOf d := by
  cases d with
  | none => exact isO_none h
  | bool b => exact isO_bool h
  | int i => exact isO_int h
  | str x => exact (isO_str h).1
  | _ => cases f
theorem isAll_flat {K : KW} {F : Hp} : ∀ {vs : List V} {ds : List PyData}, IsAll K F vs ds → ds.all flatD = true → vs = ds.map vOf
  | _, _, .nil, _ => rfl
  | _, _, .cons a t, f => by
    rw [List.all_cons, Bool.and_eq_true] at f
    rw [List.map_cons, isO_flat (H := F) a.o f.1, isAll_flat t f.2]
theorem flatV_of {d : PyData} (f : flatD d = true) : flatV (vOf d) = true := by cases d <;> first | rfl | cases f
theorem eqV_of {d e : PyData} (f : flatD d = true) (g : flatD e = true) : eqV (vOf d) (vOf e) = PyData.eqv d e := by
  cases d <;> cases e <;> first | (cases f; done) | (cases g; done) | (simp [vOf, eqV, PyData.eqv])
theorem inV_of {d : PyData} (f : flatD d = true) : ∀ {ds : List PyData}, ds.all flatD = true → inV (vOf d) (ds.map vOf) = ds.any fun e => PyData.eqv e d
  | [], _ => rfl
  | e :: ds, g => by
    rw [List.all_cons, Bool.and_eq_true] at g
    have ih := inV_of f g.2
    unfold inV at ih ⊢
    rw [List.map_cons, List.any_cons, List.any_cons, ih, eqV_of g.1 f]
theorem allFlat {ds : List PyData} (g : ds.all flatD = true) : (ds.map vOf).all flatV = true := by
  rw [List.all_map, List.all_eq_true]
  intro d hd
  exact flatV_of (List.all_eq_true.mp g d hd)
def hasS (x y : Str) : Bool := !(Builtin.Str.occurrences y x 0 y.length 1).isEmpty
def gIn (neg : Bool) : PyData → PyData → (PyData → Prop) → Prop
  | .str x, .str y, Q => Q (.bool (neg ^^ hasS x y))
  | d, .list ds, Q => flatD d = true ∧ ds.all flatD = true ∧ Q (.bool (neg ^^ ds.any fun e => PyData.eqv e d))
  | d, .tuple ds, Q => flatD d = true ∧ ds.all flatD = true ∧ Q (.bool (neg ^^ ds.any fun e => PyData.eqv e d))
  | .str x, .dict kvs, Q => PlainK kvs ∧ Q (.bool (neg ^^ kvs.any fun p => PyData.eqv p.1 (.str x)))
  | _, _, _ => False
def rInD (K : KW) (neg : Bool) : R2 := fun x y H Q => (∃ i j, x = .str i ∧ y = .str j ∧ Q (.bl (neg ^^ hasS i j)) H) ∨ rIn K.K neg x y H Q ∨ ∃ a z kvs, x = .str z ∧ y = .ref a ∧ H a = some (.dK kvs) ∧ Q (.bl (neg ^^ (valV kvs (.inr z)).isSome)) H
theorem op_inD (hu : X.A.units + 1 < cLine) : OpR X (compareOp .In) (rInD X.kw false) := by
  intro pins s σ H x y v u Q I rx ry h
  rcases h with ⟨i, j, h1, h2, q⟩ | h | ⟨a, z, kvs, h1, h2, e, q⟩
  · exact op_in_str pins s σ H x y v u Q I rx ry ⟨i, j, h1, h2, by simpa [hasS] using q⟩
  · exact op_in_seq pins s σ H x y v u Q I rx ry h
  · subst h1 h2
    cases (show u = Value.ref a from ry)
    exact d_in hu I (DGet.k (k := .inr z) e) rx fun s' I' => ⟨.bl _, H, I', rfl, by simpa using q⟩
theorem op_notinD (hu : X.A.units + 1 < cLine) : OpR X (compareOp .NotIn) (rInD X.kw true) := by
  intro pins s σ H x y v u Q I rx ry h
  rcases h with ⟨i, j, h1, h2, q⟩ | h | ⟨a, z, kvs, h1, h2, e, q⟩
  · exact op_notIn_str pins s σ H x y v u Q I rx ry ⟨i, j, h1, h2, by simpa [hasS] using q⟩
  · exact op_notIn_seq pins s σ H x y v u Q I rx ry h
  · subst h1 h2
    cases (show u = Value.ref a from ry)
    exact d_notIn hu I (DGet.k (k := .inr z) e) rx fun s' I' => ⟨.bl _, H, I', rfl, by simpa using q⟩
theorem kv_any {K : KW} {F : Hp} (z : Str) : ∀ {ks : List (Key × V)} {kvs : List (PyData × PyData)}, IsKv K F ks kvs → (kvs.any fun p => PyData.eqv p.1 (.str z)) = (valV ks (.inr z)).isSome
  | _, _, .nil => rfl
  | _, _, .cons (k := k) (v := v) (ks := ks) a t => by
    rw [List.any_cons, kv_any z t]
    cases k with
    | inl i => rw [valV_neg (p := (Sum.inl i, v)) (by simp)]; simp [keyD, PyData.eqv]
    | inr x =>
      by_cases e : x = z
      · subst e; rw [valV_pos (p := (Sum.inr x, v)) rfl]; simp [keyD, PyData.eqv]
      · rw [valV_neg (p := (Sum.inr x, v)) (by simpa using e)]
        have : PyData.eqv (keyD (Sum.inr x)) (.str z) = false := by simpa [keyD, PyData.eqv] using e
        rw [this, Bool.false_or]
theorem d_in' {neg : Bool} : OpD X (rInD X.kw neg) (gIn neg) := by
  intro C F H σ ρ v u x y Qz Q S hv hu q k
  unfold gIn at q
  have seq : ∀ {d : PyData} {ds : List PyData} {a : Addr} {xs : List V}, IsO X.kw F H v d → (SqL X.K H a xs ∨ SqT X.K H a xs) → IsAll X.kw F xs ds → flatD d = true → ds.all flatD = true → Qz (.bool (neg ^^ ds.any fun e => PyData.eqv e d)) → rInD X.kw neg v (.ref a) H Q := by
    intro d ds a xs hv hq t f g q
    have e1 := isO_flat hv f
    have e2 := isAll_flat t g
    subst e1 e2
    refine .inr (.inl ⟨a, _, rfl, hq, flatV_of f, allFlat g, ?_⟩)
    rw [inV_of f g]
    cases neg with
    | true => exact k F H _ _ S (Same.refl _) (.bl _) (by simpa using q)
    | false => exact k F H _ _ S (Same.refl _) (.bl _) (by simpa using q)
  split at q
  · obtain ⟨rfl, _⟩ := isO_str hv; obtain ⟨rfl, _⟩ := isO_str hu
    exact .inl ⟨_, _, rfl, rfl, k F H _ _ S (Same.refl _) (.bl _) q⟩
  · obtain ⟨a, xs, rfl, e, z, t⟩ := isO_list S.le hu
    exact seq hv (.inl (.of e)) t q.1 q.2.1 q.2.2
  · obtain ⟨a, xs, rfl, e, z, t⟩ := isO_tup hu
    exact seq hv (.inr (sqT_mono S.le e.sq)) t q.1 q.2.1 q.2.2
  · obtain ⟨rfl, _⟩ := isO_str hv; obtain ⟨a, ks, rfl, e, z, nd, t⟩ := isO_dict S.le hu q.1
    refine .inr (.inr ⟨a, _, ks, rfl, rfl, e, ?_⟩)
    rw [← kv_any _ t]
    exact k F H _ _ S (Same.refl _) (.bl _) q.2
  · exact q.elim
end
end DL
set_option Elab.async false
set_option linter.all false
set_option maxRecDepth 100000
set_option maxHeartbeats 4000000
/-! DL, the data layer: the law's end -/
namespace DL
open PySem PySem.Spec PyProof.Rows L2
/-- what the law's def promises: it hands back True -/
def spLaw (K : PySem.W.Frag) : Sp := fun vs H Q _ => ∃ (a : Addr) (ns : List Int), vs = [.ref a] ∧ SqL K H a (ns.map V.int) ∧ ns.length ≤ 63 ∧ ∀ H', Q (.bl true) H'
/-- the law's call, from its def's promise -/
theorem law_g {P : Program} {w : World} {K : PySem.W.Frag} {mg mb : Str → Option Value} {k : Nat} {fa a : Addr} {fd : FuncData} {x : Str} {s₁ : Shared} {vs : List Value} {ns : List Int}
    (KX : K.In s₁.heap) (hns : s₁.heap.Ns mainGlobals mg) (hb : s₁.heap.Ns builtinsNs mb) (hbb : ∀ x : Str, x ≠ "__name__" → mb x = bootBuiltins x) (hlim : s₁.heap.NoLimit) (hg : s₁.gens = #[])
    (ha : s₁.heap.get? a = some { cls := .type "list", data := .seq vs.toArray }) (hi : IntsAre vs ns) (hl : ns.length ≤ 63) (hr : RoomG k callerA)
    (F : ∀ base : Heap, K.In base → base.Ns mainGlobals mg → FnG P w K mg base CX0 k fa fd [x] (spLaw K)) (hbind : ∀ (s : Shared) (u : Value), BindsTo s fd ⟨[u], []⟩ [(x, u)]) :
    codeAny (model P w) callerA (.call (.ref fa) ⟨[.ref a], []⟩) (fun r s' => r = .ok (.ret (.bool true)) ∧ OldK s₁.heap s'.heap ∧ s'.os = s₁.os ∧ AllBare s'.gens) s₁ := by
  have rv := vals_ints hi
  have hlen := hi.length
  have big : ns.length ≤ sizeLine := Nat.le_trans hl (by decide)
  -- the script's own object, tracked as it stands, if the module doesn't hold it
  let so : Obj := { cls := .type "list", data := .seq vs.toArray }
  have main : ∀ H : Hp, SqL K H a (ns.map V.int) → HOk P w H s₁.heap → (∀ b, H b = none ∨ (b = a ∧ H b = some (.frz so (.lst (ns.map V.int))) ∧ K.lookup a = none)) →
      codeAny (model P w) callerA (.call (.ref fa) ⟨[.ref a], []⟩) (fun r s' => r = .ok (.ret (.bool true)) ∧ OldK s₁.heap s'.heap ∧ s'.os = s₁.os ∧ AllBare s'.gens) s₁ := by
    intro H hS hok only
    have there : ∀ {b : Addr} {o : Obj}, s₁.heap.get? b = some o → o ≠ so ∨ H b = none → (hidT s₁.heap H).get? b = some o := by
      intro b o e h
      refine hidT_get e ?_
      rcases only b with z | ⟨z, _, _⟩
      · exact z
      · subst z
        rw [ha] at e; cases e
        exact h.elim (fun q => absurd rfl q) id
    have ns' : ∀ {b : Addr} {m : Str → Option Value}, s₁.heap.Ns b m → (hidT s₁.heap H).Ns b m := by
      rintro b m ⟨o, es, ep, e, d, r⟩
      refine ⟨o, es, ep, there e (.inl fun z => ?_), d, r⟩
      subst z
      have d : Data.seq vs.toArray _ = Data.dict es ep := d
      cases d
    have kb : K.In (hidT s₁.heap H) := fun b o e => there (KX b o e) (.inr (by
      rcases only b with z | ⟨z, _, z2⟩
      · exact z
      · subst z; rw [z2] at e; cases e))
    obtain ⟨mc, l1, l2⟩ := hlim
    have e0 : Env0 P w K mg (hidT s₁.heap H) callerA [] s₁ H :=
      ⟨rfl, ⟨kb, ns' hns, ⟨mb, ns' hb, hbb⟩, ⟨mc, ns' l1, l2⟩⟩, fun b o e => of_hidT e, Nat.le_of_eq (hidT_size _ _), trivial, fun b hb => (nomatch hb), hok, .of_eq hg⟩
    refine codeAny_mono ((F _ kb (ns' hns)).run callerA [] s₁ H ⟨[.ref a], []⟩ [.ref a] [.ref a] (fun v _ => v = .bl true) (fun _ _ _ => False) hr e0 (hbind s₁ (.ref a)) (.cons rfl .nil) ⟨a, ns, rfl, hS, hl, fun _ => rfl⟩) fun r s' z => ?_
    match r, z with
    | .ok (.ret u), ⟨v, H', os, bare, un, hok', ru, q⟩ =>
      have q : v = .bl true := q
      subst q
      have ru : u = Value.bool true := ru
      subst ru
      refine ⟨rfl, OldK.of_keep fun b o e => ?_, os, bare⟩
      rcases only b with z | ⟨z, z1, _⟩
      · exact un.keep b o e z (fun m => (nomatch m)) (by simp)
      · subst z
        obtain ⟨h1, _⟩ := hok _ _ z1
        obtain ⟨h2, _⟩ := hok' _ _ (un.frzs _ _ _ z1)
        rw [e] at h1; cases h1
        exact h2
    | .ok .next, z => exact False.elim z
    | .ok .brk, z => exact False.elim z
    | .ok .cont, z => exact False.elim z
    | .error _, z => exact False.elim z
  cases hk : K.lookup a with
  | some o =>
    have e := KX a o hk
    rw [ha] at e
    cases e
    exact main (fun _ => none) (.inr ⟨_, vs.toArray, _, hk, rfl, rfl, rfl, by rw [List.size_toArray, hlen]; exact big, by simpa using rv⟩) (fun b u z => (nomatch z)) fun b => .inl rfl
  | none =>
    have at1 : (fun b => if b = a then some (HO.frz so (.lst (ns.map V.int))) else none) a = some (.frz so (.lst (ns.map V.int))) := if_pos rfl
    refine main (fun b => if b = a then some (.frz so (.lst (ns.map V.int))) else none) (.inl (.inr ⟨so, at1⟩)) (fun b u z => ?_) fun b => ?_
    · by_cases q : b = a
      · subst q
        have z : some (HO.frz so (.lst (ns.map V.int))) = some u := at1.symm.trans z
        cases z
        exact ⟨ha, by rw [List.length_map]; exact big, vs, _, rv, ha⟩
      · have z : (none : Option HO) = some u := (if_neg q).symm.trans z
        cases z
    · by_cases q : b = a
      · subst q; exact .inr ⟨rfl, at1, hk⟩
      · exact .inl (if_neg q)
/-- the goal that k_head leaves, from the law's promise -/
theorem walk_g {l : PySem.W.OpenLaw} {k : Nat} {q : Program} {loose : List Str} {XP : (Str → Option Value) → Heap → Prop} {YP : World → Heap → Prop} {d : DefRec} {K : Params → PySem.W.Frag} {x : Str}
    (hn : l.most = some 63) (hdf : d.params.defaults = []) (hr : RoomG k callerA) (hY : ∀ (w : World) (h : Heap), YP w h → (K w.params).In h)
    (F : ∀ (w : World) (mg : Str → Option Value) (fa : Addr) (h : Heap), (K w.params).In h → h.Ns mainGlobals mg → mg d.name = some (.ref fa) →
      ∃ fd : FuncData, (∀ (s : Shared) (u : Value), BindsTo s fd ⟨[u], []⟩ [(x, u)]) ∧ ∀ base : Heap, (K w.params).In base → base.Ns mainGlobals mg → FnG l.prog w (K w.params) mg base CX0 k fa fd [x] (spLaw (K w.params))) :
    PySem.W.WalkO q loose XP YP l.row.toRowW d [] (fun f vs => PySem.call f vs) :=
  Att.attach_callB hn hdf fun w s₀ s₁ mg mb fa o pm cd doc a vs ns G Y ho hd hcd hmg hobj hints hlen hbits hg =>
    let KX := hY w _ Y
    let ⟨_, hb, hF⟩ := F w mg fa _ KX G.T.g hmg
    law_g KX G.T.g G.T.b G.T.builtins G.T.nolimit hg hobj hints hlen hr hF hb
end DL
set_option Elab.async false
set_option linter.all false
set_option maxRecDepth 100000
set_option maxHeartbeats 4000000
/-! DL, the data layer (8): repr of data, dicts within -/
namespace DL
open PySem PySem.Spec PyProof.Rows L2
mutual
/-- data in a heap, each dict apart from the table of modules -/
inductive Lies (h : Heap) : Value → PyData → Prop
  | none : Lies h .none .none
  | bool (b : Bool) : Lies h (.bool b) (.bool b)
  | int (i : Int) (t : Tok) : Lies h (.int i t) (.int i)
  | str (x : Str) (t : Tok) : Lies h (.str x t) (.str x)
  | list {a : Addr} {o : Obj} {vs : List Value} {n : Nat} {xs : List PyData} : h.get? a = some o → o.cls = .type "list" → o.data = .seq vs.toArray n → LieAll h vs xs → Lies h (.ref a) (.list xs)
  | tuple {a : Addr} {o : Obj} {vs : List Value} {n : Nat} {xs : List PyData} : h.get? a = some o → o.cls = .type "tuple" → o.data = .seq vs.toArray n → LieAll h vs xs → Lies h (.ref a) (.tuple xs)
  | dict {a : Addr} {o : Obj} {es : List DictEntry} {n : Nat} {kvs : List (PyData × PyData)} : h.get? a = some o → o.cls = .type "dict" → o.data = .dict es.toArray n → (a == sysModules) = false → LieAll h (es.map (·.key)) (kvs.map (·.1)) → LieAll h (es.map (·.val)) (kvs.map (·.2)) → Lies h (.ref a) (.dict kvs)
inductive LieAll (h : Heap) : List Value → List PyData → Prop
  | nil : LieAll h [] []
  | cons {v : Value} {vs : List Value} {d : PyData} {ds : List PyData} : Lies h v d → LieAll h vs ds → LieAll h (v :: vs) (d :: ds)
end
section
variable {X : Cx} {pins : List (Addr × Obj)} {σ : L2.St} {F H : Hp} {s : Shared}
theorem key_lies {P : Program} {w : World} {h : Heap} {k : Key} {v : Value} (e : (mixKind P w).is k v = true) : Lies h v (keyD k) := by
  rcases keyIs_shape e with ⟨i, t, rfl, rfl⟩ | ⟨x, t, rfl, rfl⟩
  · exact .int i t
  · exact .str x t
theorem keys_lie {P : Program} {w : World} {h : Heap} {K : KW} {F : Hp} : ∀ {es : List DictEntry} {vs : List (Key × Value)} {ks : List (Key × V)} {kvs : List (PyData × PyData)}, Pairs (mixKind P w) es vs → KV ks vs → IsKv K F ks kvs → LieAll h (es.map (·.key)) (kvs.map (·.1))
  | _, _, _, _, .nil, .nil, .nil => .nil
  | _, _, _, _, .cons e1 _ t, .cons r t', .cons _ t'' => .cons (by have := key_lies (h := h) e1; rw [← r.1] at this; exact this) (keys_lie t t' t'')
mutual
theorem is_lies (I : Inv X pins σ H s) (le : Same F H) : ∀ (d : PyData) (v : V) (u : Value), Is X.kw F v d → RelV v u → Lies s.heap u d
  | .none, _, _, h, r => by cases h; cases r; exact .none
  | .bool b, _, _, h, r => by cases h; cases r; exact .bool b
  | .int i, _, _, h, r => by cases h; obtain ⟨t, rfl⟩ := r; exact .int i t
  | .str x, _, _, h, r => by cases h; obtain ⟨t, rfl⟩ := r; exact .str x t
  | .list ds, _, _, h, r => by
    cases h with
    | lst e z t =>
      cases r
      obtain ⟨its, rv, ⟨o, n, ho, hc, _, hd⟩, _⟩ := I.list (.of (le _ _ e))
      exact .list ho hc hd (isAll_lie I le ds _ its t rv)
  | .tuple ds, _, _, h, r => by
    cases h with
    | tup e z t =>
      cases r
      obtain ⟨its, rv, ⟨o, ho, hc, n, hd⟩, _⟩ := I.tuple (sqT_mono le e.sq)
      exact .tuple ho hc hd (isAll_lie I le ds _ its t rv)
  | .dict kvs, _, _, h, r => by
    cases h with
    | dic e z nd t =>
      cases r
      obtain ⟨_, hs, vs, rv, o, es, ep, ho, hx, hd, _, hp, _⟩ := (show ObjOk X.prog X.w H s.heap _ (.dK _) from I.hok _ _ (le _ _ e))
      obtain ⟨es⟩ := es
      exact .dict ho hx.1 hd hs (keys_lie hp rv t) (isKv_lie I le kvs _ _ _ t rv hp)
    | dit e z m nd t =>
      cases r
      obtain ⟨⟨hs, o, es, ep, us, ho, hx, hd, he, r⟩, _⟩ := (show ObjOk X.prog X.w H s.heap _ (TD X.w _ _) from I.hok _ _ (le _ _ e))
      obtain ⟨es⟩ := es
      have he : es = us.map (fun x => (⟨x.1.hash X.w, .ref x.2.1, x.2.2⟩ : DictEntry)) := he
      obtain ⟨q1, q2⟩ := isKt_lie I le kvs _ us t r
      refine .dict ho hx.1 hd hs ?_ ?_
      · rw [he, List.map_map]; exact q1
      · rw [he, List.map_map]; exact q2
theorem isAll_lie (I : Inv X pins σ H s) (le : Same F H) : ∀ (ds : List PyData) (vs : List V) (us : List Value), IsAll X.kw F vs ds → Vals vs us → LieAll s.heap us ds
  | [], _, _, h, r => by cases h; cases r; exact .nil
  | d :: ds, _, _, h, r => by cases h with | cons a t => cases r with | cons r1 r2 => exact .cons (is_lies I le d _ _ a r1) (isAll_lie I le ds _ _ t r2)
theorem isKv_lie (I : Inv X pins σ H s) (le : Same F H) : ∀ (kvs : List (PyData × PyData)) (ks : List (Key × V)) (vs : List (Key × Value)) (es : List DictEntry), IsKv X.kw F ks kvs → KV ks vs → Pairs (mixKind X.prog X.w) es vs → LieAll s.heap (es.map (·.val)) (kvs.map (·.2))
  | [], _, _, _, h, r, p => by cases h; cases r; cases p; exact .nil
  | (_, d) :: kvs, _, _, _, h, r, p => by
    cases h with | cons a t => cases r with | cons r1 r2 => cases p with | cons e1 e2 p2 =>
      refine .cons ?_ (isKv_lie I le kvs _ _ _ t r2 p2)
      show Lies s.heap (DictEntry.val _) d
      rw [e2]
      exact is_lies I le d _ _ a r1.2
theorem isKt_lie (I : Inv X pins σ H s) (le : Same F H) : ∀ (kvs : List (PyData × PyData)) (xs : List TEnt) (us : List (NestedKey × Addr × Value)), IsKt X.kw F xs kvs → EntIs xs us → LieAll s.heap (us.map fun x => Value.ref x.2.1) (kvs.map (·.1)) ∧ LieAll s.heap (us.map fun x => x.2.2) (kvs.map (·.2))
  | [], _, _, h, r => by cases h; cases r; exact ⟨.nil, .nil⟩
  | (.tuple cs, d) :: kvs, _, _, h, r => by
    cases h with | cons e z a b t => cases r with | cons r1 r2 =>
      obtain ⟨q1, q2⟩ := isKt_lie I le kvs _ _ t r2
      obtain ⟨e1, e2, e3⟩ := r1
      refine ⟨.cons ?_ q1, .cons (is_lies I le d _ _ b e3) q2⟩
      show Lies s.heap (Value.ref _) (PyData.tuple cs)
      rw [← e2]
      exact is_lies I le (.tuple cs) _ _ a rfl
end
theorem isO_lies {v : V} {u : Value} {d : PyData} (I : Inv X pins σ H s) (le : Same F H) (h : IsO X.kw F H v d) (r : RelV v u) : Lies s.heap u d := by
  rcases h with h | ⟨a, xs, ds, rfl, rfl, e, z, t⟩ | ⟨a, o, kvs, rfl, rfl, e, ⟨ks, rfl, z, nd, t⟩ | ⟨ks, rfl, z, ne, nd, t⟩⟩
  · exact is_lies I le d v u h r
  · cases r
    obtain ⟨its, rv, ⟨o, n, ho, hc, _, hd⟩, _⟩ := I.list (.of e)
    exact .list ho hc hd (isAll_lie I le ds _ its t rv)
  · cases r
    obtain ⟨_, hs, vs, rv, o, es, ep, ho, hx, hd, _, hp, _⟩ := (show ObjOk X.prog X.w H s.heap _ (.dK _) from I.hok _ _ e)
    obtain ⟨es⟩ := es
    exact .dict ho hx.1 hd hs (keys_lie hp rv t) (isKv_lie I le kvs _ _ _ t rv hp)
  · cases r
    obtain ⟨⟨hs, o, es, ep, us, ho, hx, hd, he, r⟩, _⟩ := (show ObjOk X.prog X.w H s.heap _ (TD X.w _ _) from I.hok _ _ e)
    obtain ⟨es⟩ := es
    have he : es = us.map (fun x => (⟨x.1.hash X.w, .ref x.2.1, x.2.2⟩ : DictEntry)) := he
    obtain ⟨q1, q2⟩ := isKt_lie I le kvs _ us t r
    refine .dict ho hx.1 hd hs ?_ ?_
    · rw [he, List.map_map]; exact q1
    · rw [he, List.map_map]; exact q2
end
section
variable {prog : Program} {w : World} {h : Heap}
mutual
theorem Lies.reads : ∀ {v : Value} {d : PyData}, Lies h v d → ∃ as, Reads h v d as
  | _, _, .none => ⟨_, .none⟩
  | _, _, .bool b => ⟨_, .bool b⟩
  | _, _, .int i t => ⟨_, .int i t⟩
  | _, _, .str x t => ⟨_, .str x t⟩
  | _, _, .list h1 h2 h3 h4 => let ⟨_, r⟩ := LieAll.reads h4; ⟨_, .list h1 h2 h3 r⟩
  | _, _, .tuple h1 h2 h3 h4 => let ⟨_, r⟩ := LieAll.reads h4; ⟨_, .tuple h1 h2 h3 r⟩
  | _, _, .dict h1 h2 h3 _ h4 h5 => let ⟨_, r⟩ := LieAll.reads h4; let ⟨_, r'⟩ := LieAll.reads h5; ⟨_, .dict h1 h2 h3 r r'⟩
theorem LieAll.reads : ∀ {vs : List Value} {ds : List PyData}, LieAll h vs ds → ∃ as, ReadsAll h vs ds as
  | _, _, .nil => ⟨_, .nil⟩
  | _, _, .cons a t => let ⟨_, r⟩ := Lies.reads a; let ⟨_, r'⟩ := LieAll.reads t; ⟨_, .cons r r'⟩
end
end
section
variable {X : Cx}
/-- two values that can be compared: no dict in them, or two lists of unlike length, or a tuple and the empty one -/
def EqOk (x y : PyData) : Prop := (x.plain = true ∧ y.plain = true ∧ x.depth ≤ 60) ∨ (∃ xs ys, x = .list xs ∧ y = .list ys ∧ xs.length ≠ ys.length) ∨ ∃ xs, x = .tuple xs ∧ y = .tuple []
def rPl (K : KW) (neg : Bool) : R2 := fun x y H Q => ∃ d e F, Same F H ∧ IsO K F H x d ∧ IsO K F H y e ∧ d.plain = true ∧ e.plain = true ∧ d.depth ≤ 60 ∧ Q (.bl (neg ^^ PyData.eqv d e)) H
theorem op_eqPl (hu : X.A.units + 64 < cLine) : OpR X (compareOp .Eq) (rPl X.kw false) := by
  intro pins s σ H x y v u Q I rx ry ⟨d, e, F, le, o1, o2, p1, p2, hd, k⟩
  obtain ⟨as, r1⟩ := (isO_lies I le o1 rx).reads
  obtain ⟨bs, r2⟩ := (isO_lies I le o2 ry).reads
  rw [Bool.false_xor] at k
  exact SeqAt.eq_plain r1 r2 p1 p2 (by omega) ⟨.bl _, H, I, rfl, k⟩
theorem op_nePl (hu : X.A.units + 64 < cLine) : OpR X (compareOp .NotEq) (rPl X.kw true) := by
  intro pins s σ H x y v u Q I rx ry ⟨d, e, F, le, o1, o2, p1, p2, hd, k⟩
  obtain ⟨as, r1⟩ := (isO_lies I le o1 rx).reads
  obtain ⟨bs, r2⟩ := (isO_lies I le o2 ry).reads
  rw [Bool.true_xor] at k
  exact SeqAt.ne_plain r1 r2 p1 p2 (by omega) ⟨.bl _, H, I, rfl, k⟩
def rNoTup (K : PySem.W.Frag) (neg : Bool) : R2 := fun x y H Q => ∃ p q xs, x = .ref p ∧ y = .ref q ∧ SqT K H p xs ∧ SqT K H q [] ∧ Q (.bl (neg ^^ (xs.length == 0))) H
theorem op_eqNoTup (hu : X.A.units + 64 < cLine) : OpR X (compareOp .Eq) (rNoTup X.K false) := by
  intro pins s σ H x y v u Q I rx ry ⟨p, q, xs, e1, e2, h1, h2, k⟩
  subst e1; subst e2
  cases rx; cases ry
  obtain ⟨us, r1, p1, _⟩ := I.tuple h1
  obtain ⟨ws, r2, p2, _⟩ := I.tuple h2
  cases r2
  refine SeqAt.RcAt.tuples (e := fun _ => true) p1 p2 (by omega) (fun j _ h => absurd h (Nat.not_lt_zero _)) _ _ _ _ ⟨.bl _, H, I, rfl, ?_⟩
  have e : ((List.range (min us.toArray.size ([] : List Value).toArray.size)).all (fun _ => true) && us.toArray.size == ([] : List Value).toArray.size) = (false ^^ (xs.length == 0)) := by
    simp [r1.length]
  rw [e]; exact k
theorem op_neNoTup (hu : X.A.units + 64 < cLine) : OpR X (compareOp .NotEq) (rNoTup X.K true) := by
  intro pins s σ H x y v u Q I rx ry ⟨p, q, xs, e1, e2, h1, h2, k⟩
  subst e1; subst e2
  cases rx; cases ry
  obtain ⟨us, r1, p1, _⟩ := I.tuple h1
  obtain ⟨ws, r2, p2, _⟩ := I.tuple h2
  cases r2
  refine SeqAt.RcNeAt.tuples (e := fun _ => true) p1 p2 (by omega) (fun j _ h => absurd h (Nat.not_lt_zero _)) _ _ _ _ ⟨.bl _, H, I, rfl, ?_⟩
  have e : (!((List.range (min us.toArray.size ([] : List Value).toArray.size)).all (fun _ => true) && us.toArray.size == ([] : List Value).toArray.size)) = (true ^^ (xs.length == 0)) := by
    simp [r1.length]
  rw [e]; exact k
theorem eqv_noTup (xs : List PyData) : PyData.eqv (.tuple xs) (.tuple []) = (xs.length == 0) := by
  rw [PyData.eqv]
  cases xs with
  | nil => rfl
  | cons x xs => rfl
def gEq : PyData → PyData → (PyData → Prop) → Prop := fun x y Q => EqOk x y ∧ Q (.bool (PyData.eqv x y))
def gNe : PyData → PyData → (PyData → Prop) → Prop := fun x y Q => EqOk x y ∧ Q (.bool (!PyData.eqv x y))
def rLens (K : PySem.W.Frag) (b : Bool) : R2 := fun x y H Q => ∃ p q xs ys, x = .ref p ∧ y = .ref q ∧ SqL K H p xs ∧ SqL K H q ys ∧ xs.length ≠ ys.length ∧ Q (.bl b) H
theorem op_eqLens (hu : X.A.units + 64 < cLine) : OpR X (compareOp .Eq) (rLens X.K false) := by
  intro pins s σ H x y v u Q I rx ry ⟨p, q, xs, ys, e1, e2, h1, h2, hn, k⟩
  subst e1; subst e2
  cases rx; cases ry
  obtain ⟨us, r1, p1, _⟩ := I.list h1
  obtain ⟨ws, r2, p2, _⟩ := I.list h2
  exact SeqAt.RcAt.lists_lengths p1.isList p2.isList (by rw [List.size_toArray, List.size_toArray, ← r1.length, ← r2.length]; simpa using hn) (by omega) _ _ _ _ ⟨.bl false, H, I, rfl, k⟩
theorem op_neLens (hu : X.A.units + 64 < cLine) : OpR X (compareOp .NotEq) (rLens X.K true) := by
  intro pins s σ H x y v u Q I rx ry ⟨p, q, xs, ys, e1, e2, h1, h2, hn, k⟩
  subst e1; subst e2
  cases rx; cases ry
  obtain ⟨us, r1, p1, _⟩ := I.list h1
  obtain ⟨ws, r2, p2, _⟩ := I.list h2
  exact SeqAt.RcNeAt.lists_lengths p1.isList p2.isList (by rw [List.size_toArray, List.size_toArray, ← r1.length, ← r2.length]; simpa using hn) (by omega) _ _ _ _ ⟨.bl true, H, I, rfl, k⟩
abbrev rEqE (K : KW) : R2 := fun x y H Q => rPl K false x y H Q ∨ rLens K.K false x y H Q ∨ rNoTup K.K false x y H Q
abbrev rNeE (K : KW) : R2 := fun x y H Q => rPl K true x y H Q ∨ rLens K.K true x y H Q ∨ rNoTup K.K true x y H Q
theorem op_eqE (hu : X.A.units + 64 < cLine) : OpR X (compareOp .Eq) (rEqE X.kw) := OpR.or (op_eqPl hu) (OpR.or (op_eqLens hu) (op_eqNoTup hu))
theorem op_neE (hu : X.A.units + 64 < cLine) : OpR X (compareOp .NotEq) (rNeE X.kw) := OpR.or (op_nePl hu) (OpR.or (op_neLens hu) (op_neNoTup hu))
theorem eqv_lens {xs ys : List PyData} (h : xs.length ≠ ys.length) : PyData.eqv (.list xs) (.list ys) = false := by
  rw [PyData.eqv]; exact SeqAt.eqvAll_other_length h
theorem d_eq : OpD X (rEqE X.kw) gEq := by
  intro C F H σ ρ v u x y Qz Q S hv hu ⟨ok, q⟩ k
  rcases ok with ⟨s1, s2, s3⟩ | ⟨xs, ys, rfl, rfl, hn⟩ | ⟨xs, rfl, rfl⟩
  · exact .inl ⟨x, y, F, S.le, hv, hu, s1, s2, s3, k F H _ _ S (Same.refl _) (by rw [Bool.false_xor]; exact .bl _) q⟩
  · obtain ⟨a, us, rfl, e1, _, t1⟩ := isO_list S.le hv
    obtain ⟨b, ws, rfl, e2, _, t2⟩ := isO_list S.le hu
    rw [eqv_lens hn] at q
    exact .inr (.inl ⟨a, b, us, ws, rfl, rfl, .of e1, .of e2, by rw [t1.length, t2.length]; exact hn, k F H _ _ S (Same.refl _) (.bl _) q⟩)
  · obtain ⟨a, us, rfl, e1, _, t1⟩ := isO_tup hv
    obtain ⟨b, ws, rfl, e2, _, t2⟩ := isO_tup hu
    cases t2
    rw [eqv_noTup] at q
    refine .inr (.inr ⟨a, b, us, rfl, rfl, sqT_mono S.le e1.sq, sqT_mono S.le e2.sq, k F H _ _ S (Same.refl _) ?_ q⟩)
    rw [t1.length]; exact (by simpa using Is.bl (K := X.kw) (F := F) (false ^^ (xs.length == 0)))
theorem d_ne : OpD X (rNeE X.kw) gNe := by
  intro C F H σ ρ v u x y Qz Q S hv hu ⟨ok, q⟩ k
  rcases ok with ⟨s1, s2, s3⟩ | ⟨xs, ys, rfl, rfl, hn⟩ | ⟨xs, rfl, rfl⟩
  · exact .inl ⟨x, y, F, S.le, hv, hu, s1, s2, s3, k F H _ _ S (Same.refl _) (by rw [Bool.true_xor]; exact .bl _) q⟩
  · obtain ⟨a, us, rfl, e1, _, t1⟩ := isO_list S.le hv
    obtain ⟨b, ws, rfl, e2, _, t2⟩ := isO_list S.le hu
    rw [eqv_lens hn] at q
    exact .inr (.inl ⟨a, b, us, ws, rfl, rfl, .of e1, .of e2, by rw [t1.length, t2.length]; exact hn, k F H _ _ S (Same.refl _) (.bl _) q⟩)
  · obtain ⟨a, us, rfl, e1, _, t1⟩ := isO_tup hv
    obtain ⟨b, ws, rfl, e2, _, t2⟩ := isO_tup hu
    cases t2
    rw [eqv_noTup] at q
    refine .inr (.inr ⟨a, b, us, rfl, rfl, sqT_mono S.le e1.sq, sqT_mono S.le e2.sq, k F H _ _ S (Same.refl _) ?_ q⟩)
    rw [t1.length]; exact (by simpa using Is.bl (K := X.kw) (F := F) (true ^^ (xs.length == 0)))
end
section
variable {prog : Program} {w : World} {h : Heap}
/-- what a text that is part of a shown one is long at most -/
theorem keys_short {kvs : List (PyData × PyData)} (hz : (dictText (PyData.shownKv kvs)).length ≤ sizeLine) : (∀ t ∈ PyData.shownAll (kvs.map (·.1)), t.length ≤ sizeLine) ∧ ∀ t ∈ PyData.shownAll (kvs.map (·.2)), t.length ≤ sizeLine := by
  refine ⟨fun t ht => ?_, fun t ht => ?_⟩
  · obtain ⟨p, hp, hl⟩ := PyData.shownKv_key_le kvs t ht
    exact Nat.le_trans (Nat.le_trans hl (dictText_mem_le hp)) hz
  · obtain ⟨p, hp, hl⟩ := PyData.shownKv_val_le kvs t ht
    exact Nat.le_trans (Nat.le_trans hl (dictText_mem_le hp)) hz
mutual
theorem Lies.show : ∀ {v : Value} {d : PyData}, Lies h v d → d.showable = true → d.shown.length ≤ sizeLine → ∃ bs, ReadAtMost h d.depth bs ∧ ReprK prog w bs h d.depth v d.shown
  | _, _, .none, _, _ => ⟨[], (fun _ m => nomatch m), by simp only [PyData.shown]; exact .of_is ReprIs.none _ _ _⟩
  | _, _, .bool b, _, _ => ⟨[], (fun _ m => nomatch m), by simp only [PyData.shown]; exact .of_is (ReprIs.bool b) _ _ _⟩
  | _, _, .int i t, hs, _ => ⟨[], (fun _ m => nomatch m), by simp only [PyData.shown]; exact .of_is (ReprIs.int t (by simpa [PyData.showable] using hs)) _ _ _⟩
  | _, _, .str x t, _, hz => ⟨[], (fun _ m => nomatch m), by simp only [PyData.shown]; exact .of_is (ReprIs.str x t (by simpa only [PyData.shown] using hz)) _ _ _⟩
  | _, _, .list (a := a) (vs := vs) (xs := xs) h1 h2 h3 h4, hs, hz => by
    have z : (listText (PyData.shownAll xs)).length ≤ sizeLine := by simpa only [PyData.shown] using hz
    obtain ⟨as, ra⟩ := Lies.reads (.list h1 h2 h3 h4)
    obtain ⟨bs, hb, hk⟩ := LieAll.show h4 (by simpa [PyData.showable] using hs) fun t ht => Nat.le_trans (listText_mem_le ht) z
    have deep : PyData.depthAll xs < (PyData.list xs).depth := by simp only [PyData.depth]; omega
    have out : a ∉ bs := not_mem_of_deeper ra deep hb
    refine ⟨a :: bs, .cons ra (Nat.le_of_lt deep) hb, ?_⟩
    simp only [PyData.depth, PyData.shown]
    cases vs with
    | nil =>
      cases h4
      simp only [PyData.shownAll, listText_nil]
      exact .listEmpty h1 h2 h3
    | cons x l => exact .list h1 h2 h3 out (by simpa using hk.length_eq) fun i y e => hk.item i y (by simpa using e)
  | _, _, .tuple (a := a) (vs := vs) (xs := xs) h1 h2 h3 h4, hs, hz => by
    have z : (tupleText (PyData.shownAll xs)).length ≤ sizeLine := by simpa only [PyData.shown] using hz
    obtain ⟨as, ra⟩ := Lies.reads (.tuple h1 h2 h3 h4)
    obtain ⟨bs, hb, hk⟩ := LieAll.show h4 (by simpa [PyData.showable] using hs) fun t ht => Nat.le_trans (tupleText_mem_le ht) z
    have deep : PyData.depthAll xs < (PyData.tuple xs).depth := by simp only [PyData.depth]; omega
    refine ⟨a :: bs, .cons ra (Nat.le_of_lt deep) hb, ?_⟩
    have out : a ∉ bs := not_mem_of_deeper ra deep hb
    simp only [PyData.depth, PyData.shown]
    exact .tuple h1 h2 h3 out hk
  | _, _, .dict (a := a) (es := es) (kvs := kvs) h1 h2 h3 hsys h4 h5, hs, hz => by
    have z : (dictText (PyData.shownKv kvs)).length ≤ sizeLine := by simpa only [PyData.shown] using hz
    obtain ⟨as, ra⟩ := Lies.reads (.dict h1 h2 h3 hsys h4 h5)
    obtain ⟨s1, s2⟩ := PyData.showableKv_split kvs (by simpa [PyData.showable] using hs)
    obtain ⟨z1, z2⟩ := keys_short z
    obtain ⟨b1, hb1, k1⟩ := LieAll.show h4 s1 z1
    obtain ⟨b2, hb2, k2⟩ := LieAll.show h5 s2 z2
    have hb : ReadAtMost h (PyData.depthKv kvs) (b1 ++ b2) := .append (hb1.mono (PyData.depthAll_keys_le kvs)) (hb2.mono (PyData.depthAll_vals_le kvs))
    have deep : PyData.depthKv kvs < (PyData.dict kvs).depth := by simp only [PyData.depth]; omega
    have out : a ∉ b1 ++ b2 := not_mem_of_deeper ra deep hb
    refine ⟨a :: (b1 ++ b2), .cons ra (Nat.le_of_lt deep) hb, ?_⟩
    simp only [PyData.depth, PyData.shown, PyData.shownKv_eq]
    exact .dict h1 h2 h3 hsys out (.of_two es.toArray.toList _ _ (k1.more_le (fun b m => List.mem_append_left _ m) (PyData.depthAll_keys_le kvs)) (k2.more_le (fun b m => List.mem_append_right _ m) (PyData.depthAll_vals_le kvs)))
theorem LieAll.show : ∀ {vs : List Value} {ds : List PyData}, LieAll h vs ds → PyData.showableAll ds = true → (∀ t ∈ PyData.shownAll ds, t.length ≤ sizeLine) → ∃ bs, ReadAtMost h (PyData.depthAll ds) bs ∧ ReprAllK prog w bs h (PyData.depthAll ds) vs (PyData.shownAll ds)
  | _, _, .nil, _, _ => ⟨[], (fun _ m => nomatch m), by simp only [PyData.shownAll]; exact .nil⟩
  | _, _, .cons (d := d) (ds := ds) a t, hs, hz => by
    have hs' : d.showable = true ∧ PyData.showableAll ds = true := by simpa [PyData.showableAll] using hs
    have hz' : d.shown.length ≤ sizeLine ∧ ∀ t ∈ PyData.shownAll ds, t.length ≤ sizeLine := ⟨hz _ (by simp only [PyData.shownAll]; exact List.mem_cons_self), fun t ht => hz t (by simp only [PyData.shownAll]; exact List.mem_cons_of_mem _ ht)⟩
    obtain ⟨b1, hb1, k1⟩ := Lies.show a hs'.1 hz'.1
    obtain ⟨b2, hb2, k2⟩ := LieAll.show t hs'.2 hz'.2
    have m1 : d.depth ≤ max d.depth (PyData.depthAll ds) := Nat.le_max_left _ _
    have m2 : PyData.depthAll ds ≤ max d.depth (PyData.depthAll ds) := Nat.le_max_right _ _
    simp only [PyData.depthAll, PyData.shownAll]
    exact ⟨b1 ++ b2, .append (hb1.mono m1) (hb2.mono m2), .cons ((k1.more fun b m => List.mem_append_left _ m).level_le m1) (k2.more_le (fun b m => List.mem_append_right _ m) m2)⟩
end
/-- repr(v), v a list, a tuple, a dict of data -/
theorem Lies.call {A : Around} {E : Value → Shared → Prop} {s : Shared} {Q : Value → Shared → Prop} {v : Value} {d : PyData} (L : Lies s.heap v d) (hs : d.showable = true) (hz : d.shown.length ≤ sizeLine) (hg : A.guards = some []) (hu : A.units + (d.depth + 1) < cLine)
    (hQ : ∀ h' u tk, (∀ b o, s.heap.get? b = some o → h'.get? b = some o) → Q (.str d.shown u) { s with heap := h', toks := tk }) : wpAny (model prog w) A (call (.builtin "repr") [v]) Q E s := by
  have room : A.in1.units + d.depth < cLine := by show A.units + 1 + d.depth < cLine; omega
  cases L with
  | none => simp only [PyData.shown] at hQ; exact PySem.P.repr_of_none (hQ s.heap _ _ fun _ _ e => e)
  | bool b => simp only [PyData.shown] at hQ; exact PySem.P.repr_of_bool (hQ s.heap _ _ fun _ _ e => e)
  | int i t => simp only [PyData.shown] at hQ; exact PySem.P.repr_of_int (by simpa [PyData.showable] using hs) (hQ s.heap _ _ fun _ _ e => e)
  | str x t => simp only [PyData.shown] at hQ hz; exact PySem.P.repr_of_str (hQ s.heap _ _ fun _ _ e => e) hz
  | @list a o vs n xs h1 h2 h3 h4 =>
    have z : (listText (PyData.shownAll xs)).length ≤ sizeLine := by simpa only [PyData.shown] using hz
    obtain ⟨as, ra⟩ := Lies.reads (.list h1 h2 h3 h4)
    obtain ⟨bs, hb, hk⟩ := LieAll.show (prog := prog) (w := w) h4 (by simpa [PyData.showable] using hs) fun t ht => Nat.le_trans (listText_mem_le ht) z
    have out : a ∉ bs := not_mem_of_deeper ra (show PyData.depthAll xs < (PyData.list xs).depth by simp only [PyData.depth]; omega) hb
    simp only [PyData.depth] at room
    simp only [PyData.shown] at hQ
    refine call_repr_slot (by omega) ⟨o, h1, h2⟩ F.slot_list_repr.toG ?_
    cases vs with
    | nil =>
      cases h4
      simp only [PyData.shownAll, listText_nil] at hQ
      exact call_list_repr_empty ⟨o, h1, h2⟩ h1 h3 ⟨_, _, rfl, hQ s.heap _ _ fun _ _ e => e⟩
    | cons x l => exact call_list_reprK h1 h2 h3 out (by simpa using hk.length_eq) (fun i y e => hk.item i y (by simpa using e)) hg (fun b _ => Clear.nil b) room (fun _ _ e => e) (fun h' u tk k => ⟨_, _, rfl, hQ h' u tk k⟩) z
  | @tuple a o vs n xs h1 h2 h3 h4 =>
    have z : (tupleText (PyData.shownAll xs)).length ≤ sizeLine := by simpa only [PyData.shown] using hz
    obtain ⟨as, ra⟩ := Lies.reads (.tuple h1 h2 h3 h4)
    obtain ⟨bs, hb, hk⟩ := LieAll.show (prog := prog) (w := w) h4 (by simpa [PyData.showable] using hs) fun t ht => Nat.le_trans (tupleText_mem_le ht) z
    have out : a ∉ bs := not_mem_of_deeper ra (show PyData.depthAll xs < (PyData.tuple xs).depth by simp only [PyData.depth]; omega) hb
    simp only [PyData.depth] at room
    simp only [PyData.shown] at hQ
    exact call_repr_slot (by omega) ⟨o, h1, h2⟩ F.slot_tuple_repr (call_tuple_reprK h1 h2 h3 out hk hg (fun b _ => Clear.nil b) room (fun _ _ e => e) (fun h' u tk k => ⟨_, _, rfl, hQ h' u tk k⟩) z)
  | @dict a o es n kvs h1 h2 h3 hsys h4 h5 =>
    have z : (dictText (PyData.shownKv kvs)).length ≤ sizeLine := by simpa only [PyData.shown] using hz
    obtain ⟨as, ra⟩ := Lies.reads (.dict h1 h2 h3 hsys h4 h5)
    obtain ⟨s1, s2⟩ := PyData.showableKv_split kvs (by simpa [PyData.showable] using hs)
    obtain ⟨z1, z2⟩ := keys_short z
    obtain ⟨b1, hb1, k1⟩ := LieAll.show (prog := prog) (w := w) h4 s1 z1
    obtain ⟨b2, hb2, k2⟩ := LieAll.show (prog := prog) (w := w) h5 s2 z2
    have hb : ReadAtMost s.heap (PyData.depthKv kvs) (b1 ++ b2) := .append (hb1.mono (PyData.depthAll_keys_le kvs)) (hb2.mono (PyData.depthAll_vals_le kvs))
    have out : a ∉ b1 ++ b2 := not_mem_of_deeper ra (show PyData.depthKv kvs < (PyData.dict kvs).depth by simp only [PyData.depth]; omega) hb
    simp only [PyData.depth] at room
    simp only [PyData.shown, PyData.shownKv_eq] at hQ
    exact call_repr_slot (by omega) ⟨o, h1, h2⟩ F.slot_dict_repr (call_dict_reprK h1 h2 h3 hsys out (.of_two es.toArray.toList _ _ (k1.more_le (fun b m => List.mem_append_left _ m) (PyData.depthAll_keys_le kvs)) (k2.more_le (fun b m => List.mem_append_right _ m) (PyData.depthAll_vals_le kvs)))
      hg (fun b _ => Clear.nil b) room (fun _ _ e => e) (fun h' u tk k => ⟨_, _, rfl, hQ h' u tk k⟩) (by rw [← PyData.shownKv_eq]; exact z))
end
/-- repr -/
def rRepr (K : KW) : List V → Hp → VK → Prop := fun xs H Q => ∃ v d F, xs = [v] ∧ Same F H ∧ IsO K F H v d ∧ d.showable = true ∧ d.depth ≤ 100 ∧ d.shown.length ≤ sizeLine ∧ Q (.str d.shown) H
section
variable {X : Cx}
theorem call_repr {k : Nat} (hr : RoomG k X.A) : CallR X (.builtin "repr") (rRepr X.kw) := by
  intro pins s σ H xs us Q I r ⟨v, d, F, e, le, o, hs, hd, hz, q⟩
  subst e
  obtain ⟨u, rfl, ru⟩ := vals1 r
  have hu := hr.r.un
  exact (isO_lies I le o ru).call hs hz hr.g (by omega) fun h' t tk k => ⟨.str d.shown, H, I.kept k, ⟨t, rfl⟩, q⟩
def gRepr : List PyData → (PyData → Prop) → Prop
  | [d], Q => d.showable = true ∧ d.depth ≤ 100 ∧ d.shown.length ≤ sizeLine ∧ Q (.str d.shown)
  | _, _ => False
theorem d_repr : CallD X (rRepr X.kw) gRepr := by
  intro C F H σ ρ vs ds Qz Q S h q k
  unfold gRepr at q
  split at q
  · rename_i d
    obtain ⟨v, rfl, o⟩ := allO_1 h
    exact ⟨v, d, F, rfl, S.le, o, q.1, q.2.1, q.2.2.1, k F H _ _ S (Same.refl _) (.str _ q.2.2.1) q.2.2.2⟩
  · exact q.elim
end
end DL
set_option Elab.async false
set_option linter.all false
set_option maxRecDepth 100000
set_option maxHeartbeats 4000000
/-! DL, the data layer (9): isinstance, len, tuple, list, sorted, all, int; items, slices, methods -/
namespace DL
open PySem PySem.Spec PyProof.Rows L2
/-! ### isinstance with a built-in class -/
def tyN : PyData → String
  | .none => "NoneType"
  | .bool _ => "bool"
  | .int _ => "int"
  | .str _ => "str"
  | .list _ => "list"
  | .tuple _ => "tuple"
  | .dict _ => "dict"
def isInt : PyData → Bool
  | .int _ => true
  | .bool _ => true
  | _ => false
def isBool : PyData → Bool
  | .bool _ => true
  | _ => false
def isStr : PyData → Bool
  | .str _ => true
  | _ => false
def isTup : PyData → Bool
  | .tuple _ => true
  | _ => false
def isList : PyData → Bool
  | .list _ => true
  | _ => false
def isDict : PyData → Bool
  | .dict _ => true
  | _ => false
theorem isi_int (d : PyData) : kitB (tyN d) "int" = some (isInt d) := by cases d <;> (simp only [tyN, isInt]; decide +kernel)
theorem isi_bool (d : PyData) : kitB (tyN d) "bool" = some (isBool d) := by cases d <;> (simp only [tyN, isBool]; decide +kernel)
theorem isi_str (d : PyData) : kitB (tyN d) "str" = some (isStr d) := by cases d <;> (simp only [tyN, isStr]; decide +kernel)
theorem isi_tup (d : PyData) : kitB (tyN d) "tuple" = some (isTup d) := by cases d <;> (simp only [tyN, isTup]; decide +kernel)
theorem isi_list (d : PyData) : kitB (tyN d) "list" = some (isList d) := by cases d <;> (simp only [tyN, isList]; decide +kernel)
theorem isi_dict (d : PyData) : kitB (tyN d) "dict" = some (isDict d) := by cases d <;> (simp only [tyN, isDict]; decide +kernel)
/-- the type of a value, of a dict whose keys are tuples too -/
def TyZ (K : KW) (H : Hp) (v : V) (t : Value) : Prop := TyX K.K H v t ∨ ∃ a xs, v = .ref a ∧ H a = some (TD K.w a xs) ∧ t = .type "dict"
theorem kit_ofZ {X : Cx} {pins : List (Addr × Obj)} {σ : L2.St} {H : Hp} {s : Shared} {x : V} {u t : Value} (I : Inv X pins σ H s) (rx : RelV x u) (ty : TyZ X.kw H x t) : ∃ P : Heap → Prop, PySem.W.KitX X.K u t P ∧ P s.heap ∧ u ≠ .builtin "__main__.__loader__#opaque" := by
  rcases ty with ty | ⟨a, xs, rfl, e, rfl⟩
  · exact kit_of I rx ty
  · cases (show u = Value.ref a from rx)
    obtain ⟨⟨_, o, _, _, _, h1, h2, _⟩, _⟩ := (show ObjOk X.prog X.w H s.heap a (TD X.w a xs) from I.hok a _ e)
    exact ⟨_, PySem.W.kitx_dict, ⟨o, h1, h2.1⟩, fun z => nomatch z⟩
def rIsiZ (K : KW) : List V → Hp → VK → Prop := fun xs H Q => ∃ (x c : V) (t u : Value) (b : Bool), xs = [x, c] ∧ ClsV c u ∧ TyZ K H x t ∧ PySem.W.kitOne K.K t u = some b ∧ Q (.bl b) H
theorem call_isiZ {X : Cx} : CallR X (.builtin "isinstance") (rIsiZ X.kw) := by
  intro pins s σ H xs us Q I r h
  obtain ⟨x, c, t, u, b, rfl, k, ty, e, q⟩ := h
  obtain ⟨u1, u2, rfl, r1, r2⟩ := vals2 r
  have e2 := k.eq r2
  subst e2
  obtain ⟨P, Z, p, hx⟩ := kit_ofZ I r1 ty
  exact PySem.W.kia_one Z I.kIn p e hx fun tk => ⟨.bl b, H, I.tok tk, rfl, q⟩
theorem tyX_of {K : KW} {F H : Hp} {v : V} {d : PyData} (le : Same F H) (h : IsO K F H v d) : TyZ K H v (.type (tyN d)) := by
  cases d with
  | none => rw [isO_none h]; exact .inl <| .base .non
  | bool b => rw [isO_bool h]; exact .inl <| .base (.bl b)
  | int i => rw [isO_int h]; exact .inl <| .base (.int i)
  | str x => rw [(isO_str h).1]; exact .inl <| .base (.str x)
  | list ds => obtain ⟨a, xs, rfl, e, _⟩ := isO_list le h; exact .inl <| .base (.lst e)
  | tuple ds =>
    obtain ⟨a, xs, rfl, e, _⟩ := isO_tup h
    rcases sqT_mono le e.sq with (e | ⟨o, e⟩) | ⟨o, its, n, e, c, _⟩
    · exact .inl <| .base (.tup e)
    · exact .inl <| .fTuple e
    · exact .inl <| .kTuple e c
  | dict kvs => 
    rcases isO_dic le h with ⟨a, ks, rfl, e, _⟩ | ⟨a, xs, rfl, e, _⟩
    · exact .inl <| .base (.dK e)
    · exact .inr ⟨a, xs, rfl, e, rfl⟩
def dIsi (f : PyData → Bool) (fe : DE) : DE := fun ρ Q E => fe ρ (fun d => Q (.bool (f d))) E
section
variable {X : Cx} {W : WX} {pos p p2 : Pos} {e : Expr} {es : List Expr} {fe : DE}
theorem pd_isi {T : Str} {Tn : String} {f : PyData → Bool} (hT : ∀ d, kitB (tyN d) Tn = some (f d)) (hm : X.mg "isinstance" = none) (hmT : X.mg T = none) (he : PE X e (tO X.kw W fe)) (hg : Gl X "isinstance" := by rfl) (hgT : Gl X T := by rfl)
    (hvT : bootBuiltins T = some (.type Tn) := by decide +kernel) (hnT : T ≠ "__name__" := by decide) (hdT : (T == ("__debug__" : Str)) = false := by decide)
    (hs : starEach (e :: [.Name T p2]) X.env = (false, eval e X.env) :: starEach [.Name T p2] X.env := by rfl) (hs2 : starEach (.Name T p2 :: []) X.env = (false, eval (.Name T p2) X.env) :: starEach [] X.env := by rfl) (hpl : (backTo pos (starEach [.Name T p2] X.env)).any (·.1) = false := by rfl) :
    PE X (.Call (.Name "isinstance" p) [e, .Name T p2] [] pos) (tD X.kw W (dIsi f fe)) :=
  PE.weak (pe_callB call_isiZ hg hm (by decide +kernel) (pa_cons he (pa_cons (pe_bltn hgT hmT hvT (show RelV (.ty Tn) (.type Tn) from rfl) hnT hdT) pa_nil hs2) hs) (by decide) (by decide) hs hpl) fun σ H Q ⟨C, F, ρ, Qd, Ed, S, h, k, x⟩ =>
    ⟨C, F, ρ, _, Ed, S, h, fun F1 H1 v d S1 s1 i1 q1 => ⟨v, _, _, _, f d, rfl, .ty Tn, tyX_of S1.le (i1 F1 H1 S1 (Same.refl _)), kit_ty (hT d), k F1 H1 _ _ S1 s1 (.bl _) q1⟩, x⟩
end
section
variable {X : Cx}
/-! ### len, tuple, list, all, int -/
def lenD : PyData → Option Nat
  | .str x => some x.length
  | .list ds => some ds.length
  | .tuple ds => some ds.length
  | .dict kvs => some kvs.length
  | _ => none
def gLen : List PyData → (PyData → Prop) → Prop
  | [.str x], Q => Q (.int x.length)
  | [.list ds], Q => Q (.int ds.length)
  | [.tuple ds], Q => Q (.int ds.length)
  | [.dict kvs], Q => PlainK kvs ∧ Q (.int kvs.length)
  | _, _ => False
def rLen (K : KW) : List V → Hp → VK → Prop := fun xs H Q => (∃ z, xs = [.str z] ∧ z.length ≤ sizeLine ∧ Q (.int z.length) H) ∨ (∃ p ys, xs = [.ref p] ∧ (SqL K.K H p ys ∨ SqT K.K H p ys) ∧ Q (.int ys.length) H) ∨ ∃ a kvs, xs = [V.ref a] ∧ H a = some (.dK kvs) ∧ Q (.int kvs.length) H
theorem call_lenA : CallR X (.builtin "len") (rLen X.kw) := CallR.or call_len_str (CallR.or call_len_seq call_lenD)
theorem isKv_length {K : KW} {F : Hp} : ∀ {ks : List (Key × V)} {kvs : List (PyData × PyData)}, IsKv K F ks kvs → ks.length = kvs.length
  | _, _, .nil => rfl
  | _, _, .cons _ t => by rw [List.length_cons, List.length_cons, isKv_length t]
theorem d_len : CallD X (rLen X.kw) gLen := by
  intro C F H σ ρ vs ds Qz Q S h q k
  unfold gLen at q
  split at q
  · obtain ⟨v, rfl, o⟩ := allO_1 h
    obtain ⟨rfl, z⟩ := isO_str o
    exact .inl ⟨_, rfl, z, k F H _ _ S (Same.refl _) (.int _) q⟩
  · obtain ⟨v, rfl, o⟩ := allO_1 h
    obtain ⟨a, xs, rfl, e, z, t⟩ := isO_list S.le o
    exact .inr (.inl ⟨a, xs, rfl, .inl (.of e), by rw [t.length]; exact k F H _ _ S (Same.refl _) (.int _) q⟩)
  · obtain ⟨v, rfl, o⟩ := allO_1 h
    obtain ⟨a, xs, rfl, e, z, t⟩ := isO_tup o
    exact .inr (.inl ⟨a, xs, rfl, .inr (sqT_mono S.le e.sq), by rw [t.length]; exact k F H _ _ S (Same.refl _) (.int _) q⟩)
  · obtain ⟨v, rfl, o⟩ := allO_1 h
    obtain ⟨a, ks, rfl, e, z, nd, t⟩ := isO_dict S.le o q.1
    exact .inr (.inr ⟨a, ks, rfl, e, by rw [isKv_length t]; exact k F H _ _ S (Same.refl _) (.int _) q.2⟩)
  · exact q.elim
def gTuple : List PyData → (PyData → Prop) → Prop
  | [.list ds], Q => Q (.tuple ds)
  | [.tuple ds], Q => Q (.tuple ds)
  | _, _ => False
def rTuple (K : KW) : List V → Hp → VK → Prop := fun xs H Q => ∃ p ys, xs = [.ref p] ∧ ((SqL K.K H p ys ∧ NewT H Q ys) ∨ (SqT K.K H p ys ∧ Q (.ref p) H))
theorem d_tuple : CallD X (rTuple X.kw) gTuple := by
  intro C F H σ ρ vs ds Qz Q S h q k
  unfold gTuple at q
  split at q
  · obtain ⟨v, rfl, o⟩ := allO_1 h
    obtain ⟨a, xs, rfl, e, z, t⟩ := isO_list S.le o
    refine ⟨a, xs, rfl, .inl ⟨.of e, fun l o hl ho => ?_⟩⟩
    obtain ⟨S', s'⟩ := new_still S (o := .frz o (.tup xs)) hl
    exact k _ _ _ _ S' s' (.tup (.of upd_same ho) z (t.up s')) q
  · obtain ⟨v, rfl, o⟩ := allO_1 h
    obtain ⟨a, xs, rfl, e, z, t⟩ := isO_tup o
    exact ⟨a, xs, rfl, .inr ⟨sqT_mono S.le e.sq, k F H _ _ S (Same.refl _) (.tup e z t) q⟩⟩
  · exact q.elim
/-- list(x), new -/
def gList : List PyData → (List PyData → Prop) → Prop
  | [.list ds], Q => Q ds
  | [.tuple ds], Q => Q ds
  | _, _ => False
def rList (K : KW) : List V → Hp → VK → Prop := fun xs H Q => ∃ p ys, xs = [.ref p] ∧ (SqL K.K H p ys ∨ SqT K.K H p ys) ∧ ∀ l, H l = none → Q (.ref l) (upd H l (.lst ys))
theorem d_list : CallF X (rList X.kw) gList := by
  intro C F H σ ρ vs ds Qz Q S h q k
  have go : ∀ {a : Addr} {xs : List V} {es : List PyData}, (SqL X.K H a xs ∨ SqT X.K H a xs) → xs.length ≤ sizeLine → IsAll X.kw F xs es → Qz es → rList X.kw [.ref a] H Q := by
    intro a xs es hq z t q
    refine ⟨a, xs, rfl, hq, fun l hl => ?_⟩
    have ap := S.new hl
    exact k F _ l xs es (S.fresh hl) (Same.refl _) ⟨ap.f, ap.h0, ap.bg, ap.no⟩ upd_same z t q
  unfold gList at q
  split at q
  · obtain ⟨v, rfl, o⟩ := allO_1 h
    obtain ⟨a, xs, rfl, e, z, t⟩ := isO_list S.le o
    exact go (.inl (.of e)) z t q
  · obtain ⟨v, rfl, o⟩ := allO_1 h
    obtain ⟨a, xs, rfl, e, z, t⟩ := isO_tup o
    exact go (.inr (sqT_mono S.le e.sq)) z t q
  · exact q.elim
theorem isAll_bools {K : KW} {F : Hp} : ∀ {bs : List Bool} {vs : List V}, IsAll K F vs (bs.map .bool) → vs = bs.map .bl
  | [], _, h => by cases h; rfl
  | b :: bs, _, h => by
    have h : IsAll K F _ (.bool b :: bs.map .bool) := h
    cases h with | cons a t => cases a; rw [isAll_bools t]; rfl
/-- all of a list of truths -/
def boolsOf : List PyData → Option (List Bool)
  | [] => some []
  | .bool b :: r => (boolsOf r).map (b :: ·)
  | _ => none
theorem boolsOf_map : ∀ (bs : List Bool), boolsOf (bs.map .bool) = some bs
  | [] => rfl
  | b :: bs => by simp [boolsOf, boolsOf_map bs]
def gAll : List PyData → (PyData → Prop) → Prop := fun ds Q => ∃ bs : List Bool, ds = [.list (bs.map .bool)] ∧ Q (.bool (bs.all id))
def gAny : List PyData → (PyData → Prop) → Prop := fun ds Q => ∃ bs : List Bool, ds = [.list (bs.map .bool)] ∧ Q (.bool (bs.any id))
theorem d_all : CallD X (rAll X.K) gAll := by
  intro C F H σ ρ vs ds Qz Q S h ⟨bs, e, q⟩ k
  subst e
  obtain ⟨v, rfl, o⟩ := allO_1 h
  obtain ⟨a, xs, rfl, e, z, t⟩ := isO_list S.le o
  rw [isAll_bools t] at e
  exact ⟨a, bs, rfl, .of e, k F H _ _ S (Same.refl _) (.bl _) q⟩
theorem d_any : CallD X (rAny X.K) gAny := by
  intro C F H σ ρ vs ds Qz Q S h ⟨bs, e, q⟩ k
  subst e
  obtain ⟨v, rfl, o⟩ := allO_1 h
  obtain ⟨a, xs, rfl, e, z, t⟩ := isO_list S.le o
  rw [isAll_bools t] at e
  exact ⟨a, bs, rfl, .of e, k F H _ _ S (Same.refl _) (.bl _) q⟩
def gIntC : List PyData → (PyData → Prop) → Prop
  | [.int i], Q => Q (.int i)
  | [.bool b], Q => Q (.int (if b then 1 else 0))
  | _, _ => False
def rInt1 : List V → Hp → VK → Prop := fun xs H Q => (∃ i, xs = [.int i] ∧ Q (.int i) H) ∨ ∃ k, xs = [.bl k] ∧ Q (.int (if k then 1 else 0)) H
theorem d_intC : CallD X rInt1 gIntC := by
  intro C F H σ ρ vs ds Qz Q S h q k
  unfold gIntC at q
  split at q
  · obtain ⟨v, rfl, o⟩ := allO_1 h
    rw [isO_int o]
    exact .inl ⟨_, rfl, k F H _ _ S (Same.refl _) (.int _) q⟩
  · obtain ⟨v, rfl, o⟩ := allO_1 h
    rw [isO_bool o]
    exact .inr ⟨_, rfl, k F H _ _ S (Same.refl _) (.int _) q⟩
  · exact q.elim
/-! ### sorted, of texts -/
theorem isAll_strs {K : KW} {F : Hp} : ∀ {xs : List Str} {vs : List V}, IsAll K F vs (xs.map .str) → vs = xs.map .str ∧ ∀ x ∈ xs, x.length ≤ sizeLine
  | [], _, h => by cases h; exact ⟨rfl, fun _ m => nomatch m⟩
  | x :: xs, _, h => by
    have h : IsAll K F _ (.str x :: xs.map .str) := h
    cases h with | cons a t => cases a with | str _ z =>
      obtain ⟨e, zs⟩ := isAll_strs t
      exact ⟨by rw [e]; rfl, fun y hy => (List.mem_cons.mp hy).elim (fun q => by rw [q]; exact z) (zs y)⟩
theorem strs_isAll {K : KW} {F : Hp} : ∀ {xs : List Str}, (∀ x ∈ xs, x.length ≤ sizeLine) → IsAll K F (xs.map .str) (xs.map .str)
  | [], _ => .nil
  | x :: xs, h => .cons (.str x (h x List.mem_cons_self)) (strs_isAll fun y hy => h y (List.mem_cons_of_mem _ hy))
def gSortS : List PyData → (List PyData → Prop) → Prop := fun ds Q => ∃ xs : List Str, ds = [.list (xs.map .str)] ∧ xs.length < 64 ∧ ∀ ys : List Str, ys.Perm xs → sortedS ys = true → Q (ys.map .str)
theorem d_sortS : CallF X (rSortedS X.K) gSortS := by
  intro C F H σ ρ vs ds Qz Q S h ⟨xs, e, h64, q⟩ k
  subst e
  obtain ⟨v, rfl, o⟩ := allO_1 h
  obtain ⟨a, us, rfl, e, z, t⟩ := isO_list S.le o
  obtain ⟨e2, zs⟩ := isAll_strs t
  subst e2
  refine ⟨a, xs, rfl, .of e, h64, fun ys p hp hs hl => ?_⟩
  have ap := S.new hl
  exact k F _ p _ _ (S.fresh hl) (Same.refl _) ⟨ap.f, ap.h0, ap.bg, ap.no⟩ upd_same (by rw [List.length_map, hp.length_eq]; exact small64 h64) (strs_isAll fun x hx => zs x (hp.mem_iff.mp hx)) (q ys hp hs)
/-! ### items -/
def gIx : PyData → PyData → (PyData → Prop) → Prop
  | .list ds, .int i, Q => ∃ d, atI ds i = some d ∧ Q d
  | .tuple ds, .int i, Q => ∃ d, atI ds i = some d ∧ Q d
  | .str x, .int i, Q => ∃ c, atI x.cps.toList i = some c ∧ Q (.str ⟨#[c]⟩)
  | _, _, _ => False
theorem atI_is {K : KW} {F : Hp} {vs : List V} {ds : List PyData} {i : Int} {d : PyData} (t : IsAll K F vs ds) (h : atI ds i = some d) : ∃ v, atI vs i = some v ∧ Is K F v d := by
  unfold atI at h ⊢
  rw [t.length]
  cases e : ixN ds.length i with
  | none => rw [e] at h; cases h
  | some j =>
    rw [e] at h
    obtain ⟨v, h1, h2⟩ := t.getD h
    exact ⟨v, h1, h2⟩
theorem d_ix : OpD X (rIx X.K) gIx := by
  intro C F H σ ρ v u x y Qz Q S hv hu q k
  unfold gIx at q
  split at q
  · obtain ⟨a, xs, rfl, e, z, t⟩ := isO_list S.le hv
    have := isO_int hu; subst u
    obtain ⟨d, hd, q⟩ := q
    obtain ⟨w, h1, h2⟩ := atI_is t hd
    exact .inl ⟨a, xs, _, w, rfl, rfl, .of e, h1, k F H _ _ S (Same.refl _) h2 q⟩
  · obtain ⟨a, xs, rfl, e, z, t⟩ := isO_tup hv
    have := isO_int hu; subst u
    obtain ⟨d, hd, q⟩ := q
    obtain ⟨w, h1, h2⟩ := atI_is t hd
    exact .inr (.inl ⟨a, xs, _, w, rfl, rfl, sqT_mono S.le e.sq, h1, k F H _ _ S (Same.refl _) h2 q⟩)
  · obtain ⟨rfl, z⟩ := isO_str hv
    have := isO_int hu; subst u
    obtain ⟨c, hc, q⟩ := q
    exact .inr (.inr ⟨_, _, c, rfl, rfl, z, hc, k F H _ _ S (Same.refl _) (.str _ (by show 1 ≤ sizeLine; decide)) q⟩)
  · exact q.elim
/-! ### slices -/
def cutD (ds : List PyData) (lo hi : Option Int) : List PyData := (ds.drop (HT.sIx ds.length 0 lo)).take (HT.sIx ds.length ds.length hi - HT.sIx ds.length 0 lo)
def gSl : PyData → Option Int → Option Int → (PyData → Prop) → Prop
  | .list ds, lo, hi, Q => Q (.list (cutD ds lo hi))
  | .tuple ds, lo, hi, Q => Q (.tuple (cutD ds lo hi))
  | .str x, lo, hi, Q => Q (.str (cutS x lo hi))
  | _, _, _, _ => False
def rSl (K : KW) : V → Option Int → Option Int → Hp → VK → Prop := fun x lo hi H Q => rSlL K.K x lo hi H Q ∨ rSlS K.K x lo hi H Q ∨ L2.rSlS x lo hi H Q
theorem sl_any : SlR X (rSl X.kw) := SlR.or sl_list (SlR.or sl_tupS sl_str)
theorem cut_is {K : KW} {F : Hp} {vs : List V} {ds : List PyData} {lo hi : Option Int} (t : IsAll K F vs ds) : IsAll K F (cutV vs lo hi) (cutD ds lo hi) := by
  unfold cutV cutD
  rw [t.length]
  exact (t.drop _).take _
theorem d_sl : SlD X (rSl X.kw) gSl := by
  intro C F H σ ρ v x lo hi Qz Q S hv q k
  unfold gSl at q
  split at q
  · obtain ⟨a, xs, rfl, e, z, t⟩ := isO_list S.le hv
    refine .inl ⟨a, xs, rfl, .of e, fun p hp => ?_⟩
    obtain ⟨S', s'⟩ := new_still S (o := .lst (cutV xs lo hi)) hp
    exact k _ _ _ _ S' s' (.lst upd_same (Nat.le_trans (cutV_length xs lo hi) z) ((cut_is t).up s')) q
  · rename_i ds
    obtain ⟨a, xs, rfl, e, z, t⟩ := isO_tup hv
    refine .inr (.inl ⟨a, xs, rfl, sqT_mono S.le e.sq, fun w => ?_, fun _ p o hp ho => ?_⟩)
    · have whole : cutD ds lo hi = ds := by
        unfold cutD
        rw [t.length] at w
        rw [w.1, w.2]
        simp
      rw [whole] at q
      exact k F H _ _ S (Same.refl _) (.tup e z t) q
    · obtain ⟨S', s'⟩ := new_still S (o := .frz o (.tup (cutV xs lo hi))) hp
      exact k _ _ _ _ S' s' (.tup (.of upd_same ho) (Nat.le_trans (cutV_length xs lo hi) z) ((cut_is t).up s')) q
  · obtain ⟨rfl, z⟩ := isO_str hv
    exact .inr (.inr ⟨_, rfl, z, k F H _ _ S (Same.refl _) (.str _ (Nat.le_trans (cutS_length _ lo hi) z)) q⟩)
  · exact q.elim
/-! ### str.upper -/
def gUpper : PyData → List PyData → (PyData → Prop) → Prop
  | .str x, [], Q => x.length ≤ 5592405 ∧ (Txt.upper x).length ≤ sizeLine ∧ Q (.str (Txt.upper x))
  | _, _, _ => False
theorem d_upper : MtD X (fun x xs H Q => ∃ a, x = .str a ∧ xs = [] ∧ a.length ≤ 5592405 ∧ Q (.str (Txt.upper a)) H) gUpper := by
  intro C F H σ ρ v x vs ds Qz Q S hv hs q k
  unfold gUpper at q
  split at q
  · obtain ⟨rfl, z⟩ := isO_str hv
    cases hs
    exact ⟨_, rfl, rfl, q.1, k F H _ _ S (Same.refl _) (.str _ q.2.1) q.2.2⟩
  · exact q.elim
end
/-! ### {} -/
section
variable {X : Cx} {W : WX} {pos : Pos}
def dEmptyK : DK := fun _ Q _ => Q []
theorem pg_empty : PE X (.Dict [] [] pos) (tG X.kw W dEmptyK) := PE.weak pe_dnewK fun σ H Q ⟨C, F, ρ, Qd, Ed, S, h, k, x⟩ => fun p hp =>
  let ap := S.new hp
  k F _ p (.dK []) [] (S.fresh hp) (Same.refl _) ⟨ap.f, ap.h0, ap.bg, ap.no⟩ upd_same (.inl ⟨[], rfl, Nat.zero_le _, List.nodup_nil, .nil⟩) h
end
end DL
set_option Elab.async false
set_option linter.all false
set_option maxRecDepth 100000
set_option maxHeartbeats 4000000
/-! DL, the data layer (10): t[::-1]; insert, extend, stores; dicts written -/
namespace DL
open PySem PySem.Spec PyProof.Rows L2
open HT in
section
variable {prog : Program} {w : World} {A : Around} {E : Value → Shared → Prop} {s : Shared}
theorem fm_pure {α β : Type} {f : α → Option β} {g : α → β} : ∀ {l : List α}, (∀ m ∈ l, f m = some (g m)) → l.filterMap f = l.map g
  | [], _ => rfl
  | a :: l, h => by
    rw [List.filterMap_cons_some (h a (by simp)), List.map_cons, fm_pure fun m q => h m (by simp [q])]
theorem rev_pick (xs : Array Value) : ((List.range xs.size).filterMap fun (m : Nat) => xs[((xs.size : Int) - 1 + (m : Int) * (-1)).toNat]?) = xs.toList.reverse := by
  have all : ((List.range xs.size).filterMap fun (m : Nat) => xs[((xs.size : Int) - 1 + (m : Int) * (-1)).toNat]?) = (List.range xs.size).map fun m => xs.toList.getD (xs.size - 1 - m) .none := by
    apply fm_pure
    intro m hm
    have hm' := List.mem_range.mp hm
    have e : ((xs.size : Int) - 1 + (m : Int) * (-1)).toNat = xs.size - 1 - m := by omega
    have lt : xs.size - 1 - m < xs.size := by omega
    rw [e]
    simp [lt, List.getD]
  rw [all]
  apply List.ext_getElem
  · simp
  · intro i h1 h2
    have h : i < xs.size := by simpa using h1
    simp [List.getD, show xs.size - 1 - i < xs.size by omega]
/-- the slice [::-1], applied -/
theorem rev_applied {sl : Addr} {vl vu vs : Value} {n : Nat} {Q : Int × Int × Nat → Shared → Prop} (hs : s.heap.IsSliceOf sl vl vu vs) (pl : IsPart vl none) (pu : IsPart vu none) (ps : IsPart vs (some (-1)))
    (h : Q ((n : Int) - 1, -1, n) s) : wpAny (model prog w) A (Builtin.Slice.sliceApplied (.ref sl) (pure (n : Int))) Q E s := by
  have fin : (match Builtin.Slice.sliceAdjust none none (-1) (n : Int) with | (lo, hi) => (lo, (-1 : Int), Builtin.Slice.slicePlaces lo hi (-1))) = ((n : Int) - 1, -1, n) := by
    unfold Builtin.Slice.sliceAdjust Builtin.Slice.slicePlaces
    have h1 : (-1 : Int) < 0 := by decide
    have h2 : ¬ (-1 : Int) > 0 := by decide
    simp only [h1, h2, if_true, if_false]
    by_cases z : n = 0
    · subst z; rfl
    · have : ((n : Int) - 1) > -1 := by omega
      simp only [this, if_true]
      congr 2
      show (((n : Int) - 1 - (-1) - 1) / 1 + 1).toNat = n
      rw [Int.ediv_one]
      omega
  obtain ⟨o, ho, _, hd⟩ := id hs
  unfold Builtin.Slice.sliceApplied Builtin.Slice.sliceFields
  refine wpAny_bind (wpAny_bind (wpAny_field ho hd (x := vl) rfl (wpAny_bind (wpAny_field ho hd (x := vu) rfl (wpAny_bind (wpAny_field ho hd (x := vs) rfl (wpAny_pure ?_)))))))
  refine wpAny_bind (slicePart_ ps ?_)
  show wpAny _ _ (if ((-1 : Int) == 0) = true then _ else _) _ _ s
  rw [if_neg (by decide)]
  refine wpAny_bind (slicePart_ pl (wpAny_bind (slicePart_ pu (wpAny_bind (wpAny_pure ?_)))))
  show wpAny _ _ (pure (match Builtin.Slice.sliceAdjust none none (-1) (n : Int) with | (lo, hi) => (lo, (-1 : Int), Builtin.Slice.slicePlaces lo hi (-1)))) _ _ s
  rw [fin]
  exact wpAny_pure h
theorem rev_tuple {t sl : Addr} {items : Array Value} {vl vu vs : Value} {Q : Value → Shared → Prop} (ht : IsTup s.heap t items) (hs : s.heap.IsSliceOf sl vl vu vs) (pl : IsPart vl none) (pu : IsPart vu none) (ps : IsPart vs (some (-1)))
    (h : Q (.ref s.heap.objs.size) { s with heap := s.heap.push { cls := .type "tuple", data := .seq items.toList.reverse.toArray } }) (hsz : items.size ≤ sizeLine) : wpAny (model prog w) A (getItem (.ref t) (.ref sl)) Q E s := by
  have fits : sizeOk (.seq items.toList.reverse.toArray) := by
    show items.toList.reverse.toArray.size ≤ sizeLine
    simpa using hsz
  have ty : s.TypeIs (.ref sl) "slice" := let ⟨o, ho, hc, _⟩ := hs; ⟨o, ho, hc⟩
  unfold getItem
  try with_reducible refine wpAny_holding ?_
  first | refine wpAny_bind (wpAny_pure ?_) | skip
  refine wpAny_bind (wpAny_sequenceKey ht.typeIs (by decide) (wpAny_bind (wpAny_callSpecial?_slot (name := Str.ofString "__getitem__") ht.typeIs PyProof.Rows.slot_tuple_getitem
    (wpAny_call_entry PyProof.Rows.slot_tuple_getitem ht.typeIs entry_tuple_getitem ?_ (args_tuple_getitem _ _)))))
  show wpAny _ _ (Builtin.Tuple.tupleItemsOf (.ref t) >>= _) _ _ s
  refine wpAny_bind (tupleItemsOf_ ht (wpAny_bind (wpAny_typeOf ty ?_)))
  rw [if_pos (by decide)]
  refine wpAny_bind (rev_applied hs pl pu ps ?_)
  have no : ¬ ((((items.size : Int) - 1) == 0 && (-1 : Int) == 1 && items.size == items.size) = true) := by simp
  show wpAny _ _ (if (((items.size : Int) - 1) == 0 && (-1 : Int) == 1 && items.size == items.size) = true then _ else _) _ _ s
  rw [if_neg no, rev_pick]
  first
    | exact wpAny_bind (m := Builtin.Tuple.tupleExact _) (wpAny_newObj_type (wpAny_pure ⟨_, rfl, wpAny_pure h⟩) fits)
    | exact wpAny_bind (m := Builtin.Tuple.tupleExact _) (wpAny_newObj_type (wpAny_bind (wpAny_pure (wpAny_pure ⟨_, rfl, wpAny_pure h⟩))) fits)
    | exact wpAny_bind (wpAny_bind (m := Builtin.Tuple.tupleExact _) (wpAny_newObj_type (wpAny_pure (wpAny_pure ⟨_, rfl, wpAny_pure h⟩)) fits))
    | exact wpAny_bind (wpAny_bind (m := Builtin.Tuple.tupleExact _) (wpAny_newObj_type (wpAny_pure ⟨_, rfl, wpAny_pure h⟩) fits))
end
section
variable {X : Cx} {W : WX} {pos : Pos} {e : Expr} {es : List Expr} {f f1 f2 : DE}
/-- x[::-1], a list or a tuple -/
def tRev (K : PySem.W.Frag) (te : TE) : TE := fun σ H Q => te σ H fun x H1 => ∃ a xs, x = .ref a ∧ ((SqL K H1 a xs ∧ ∀ p, H1 p = none → Q (.ref p) (upd H1 p (.lst xs.reverse))) ∨ (SqT K H1 a xs ∧ NewT H1 Q xs.reverse))
theorem pe_rev {te : TE} {k : Nat} {p1 p2 p3 : Pos} (he : PE X e te) : PE X (.Subscript e (.Slice none none (some (.UnaryOp .USub (.Constant (.int 1) k p1) p2)) p3) pos) (tRev X.K te) := by
  refine ⟨fun pins s σ H Q I h => ?_⟩
  refine Subscript_ (thn (he.run pins s σ H _ I h) fun v s1 ⟨x, H1, I1, r1, a, xs, ex, q⟩ => ?_)
  subst ex
  cases r1
  have third : PO X (some (.UnaryOp .USub (.Constant (.int 1) k p1) p2)) (tPart (tUn (rU fun i => .int (-i)) (tC (.int 1)))) := po_some (pe_un un_neg pe_int)
  refine wpAny_Slice (thn (po_none.run pins s1 σ H1 (fun o H2 => o = none ∧ H2 = H1) I1 ⟨rfl, rfl⟩) ?_)
  rintro vl s2 ⟨_, H2, I2, pl, rfl, rfl⟩
  refine thn (po_none.run pins s2 σ H2 (fun o H3 => o = none ∧ H3 = H2) I2 ⟨rfl, rfl⟩) ?_
  rintro vu s3 ⟨_, H3, I3, pu, rfl, rfl⟩
  refine thn (third.run pins s3 σ H3 (fun o H4 => o = some (-1) ∧ H4 = H3) I3 ⟨1, rfl, -1, rfl, rfl, rfl⟩) ?_
  rintro vs s4 ⟨_, H4, I4, ps, rfl, rfl⟩
  have I5 : Inv X pins σ H4 { s4 with heap := s4.heap.push { cls := .type "slice", data := .fields #[vl, vu, vs] } } := I4.kept (t' := s4.toks) fun b ob q => Heap.get?_push_of_some _ q
  show wpAny (model X.prog X.w) X.A (subscriptTail e (.Slice none none (some (.UnaryOp .USub (.Constant (.int 1) k p1) p2)) p3) (.ref a) (.ref s4.heap.objs.size)) (EP X pins σ Q) X.xe { s4 with heap := s4.heap.push { cls := .type "slice", data := .fields #[vl, vu, vs] } }
  rcases q with ⟨hx, q⟩ | ⟨hx, q⟩
  · obtain ⟨its, r, ht, hz⟩ := I5.list hx
    have hlen := r.length
    refine tail_any (ops := [.ref a, .ref s4.heap.objs.size]) ht.isList.typeIs (PySem.slot_list_getitem.lookup) ?_ (by with_unfolding_all rfl)
    refine wpAny_getItem_list_slice ht.isList (Heap.IsSliceOf.new _ vl vu vs) pl pu ps (by decide) ?_ (by rw [List.size_toArray]; omega)
    rw [PySem.W.krv_pick]
    exact ⟨.ref _, _, I5.laid (t' := s4.toks) (o := .lst xs.reverse) (fun b ob q => Heap.get?_push_of_some _ q) (Nat.le_refl _) ⟨by rw [List.length_reverse]; exact hz, _, 0, r.reverse, Heap.get?_push_size _ rfl⟩, rfl, q _ (I5.hok.fresh (Nat.le_refl _))⟩
  · obtain ⟨its, r, ht, hz⟩ := I5.tuple hx
    have hlen := r.length
    refine tail_any (ops := [.ref a, .ref s4.heap.objs.size]) ht.typeIs (PyProof.Rows.slot_tuple_getitem.lookup) ?_ (by with_unfolding_all rfl)
    refine rev_tuple ht (Heap.IsSliceOf.new _ vl vu vs) pl pu ps ?_ (by rw [List.size_toArray]; omega)
    exact I5.newT r.reverse (by rw [List.length_reverse]; exact hz) q
def dRev (f : DE) : DE := fun ρ Q E => f ρ (fun d => match d with | .list ds => Q (.list ds.reverse) | .tuple ds => Q (.tuple ds.reverse) | _ => False) E
theorem pd_rev {k : Nat} {p1 p2 p3 : Pos} (he : PE X e (tO X.kw W f)) : PE X (.Subscript e (.Slice none none (some (.UnaryOp .USub (.Constant (.int 1) k p1) p2)) p3) pos) (tD X.kw W (dRev f)) :=
  PE.weak (pe_rev he) fun σ H Q ⟨C, F, ρ, Qd, Ed, S, h, k, x⟩ => ⟨C, F, ρ, _, Ed, S, h, fun F1 H1 v d S1 s1 i1 q => by
    have o := i1 F1 H1 S1 (Same.refl _)
    split at q
    · obtain ⟨a, xs, rfl, e, z, t⟩ := isO_list S1.le o
      refine ⟨a, xs, rfl, .inl ⟨.of e, fun p hp => ?_⟩⟩
      obtain ⟨S', s'⟩ := new_still S1 (o := .lst xs.reverse) hp
      exact k _ _ _ _ S' (s1.trans s') (.lst upd_same (by rw [List.length_reverse]; exact z) (t.reverse.up s')) q
    · obtain ⟨a, xs, rfl, e, z, t⟩ := isO_tup o
      refine ⟨a, xs, rfl, .inr ⟨sqT_mono S1.le e.sq, fun p o hp ho => ?_⟩⟩
      obtain ⟨S', s'⟩ := new_still S1 (o := .frz o (.tup xs.reverse)) hp
      exact k _ _ _ _ S' (s1.trans s') (.tup (.of upd_same ho) (by rw [List.length_reverse]; exact z) (t.reverse.up s')) q
    · exact q.elim, x⟩

/-! ### x.insert(i, e), x.extend(e) -/
def dIns (i : Nat) (f1 f2 : DE) : DS := fun D ρ => match look ρ i with
  | .ownL ds => f1 ρ (fun a => f2 ρ (fun d => ∃ j : Int, a = .int j ∧ 0 ≤ j ∧ j < 2 ^ 62 ∧ ds.length < sizeLine ∧ D.nx (put ρ i (.ownL (ds.take j.toNat ++ [d] ++ ds.drop j.toNat)))) D.ex) D.ex
  | _ => False
theorem dins' (i : Nat) {o e2 : Expr} {apos cpos : Pos} (ho : PE X o (tVar i)) (he : PE X e (tD X.kw W f1)) (he2 : PE X e2 (tD X.kw W f2)) (hst : starEach [e, e2] X.env = (false, eval e X.env) :: starEach [e2] X.env := by rfl) (hst2 : starEach (e2 :: []) X.env = (false, eval e2 X.env) :: starEach [] X.env := by rfl)
    (hbase : attributeBase o "insert" X.env (eval o X.env) = eval o X.env := by rfl)
    (hfew : ((backTo cpos (starEach [e, e2] X.env)).all (fun x => !x.1) && (backToKw cpos (keywordEach [] X.env)).all (fun x => x.1.isSome)
      && decide ((e :: [e2]).length + ([] : List Keyword).length + (if ([] : List Keyword).isEmpty then 0 else 1) < 30)) = true := by rfl)
    (hline : (apos.endLine == cpos.line) = true := by rfl) (hplain : (backTo cpos (starEach [e2] X.env)).any (·.1) = false := by rfl)
    (hs : swapsWith (.Call (.Attribute o "insert" apos) [e, e2] [] cpos) none pos.line X.env = pure false := by rfl) :
    PS X (.Expr (.Call (.Attribute o "insert" apos) [e, e2] [] cpos) pos) (tDS X.kw W (dIns i f1 f2)) :=
  PS.weak (ps_expr (pe_bm PySem.F.plainAttrs_list PySem.F.slot_list_insert PySem.F.type_list_insert mt_insert ho (pa_cons he (pa_cons he2 pa_nil hst2) hst) hbase hfew hline hst hplain) hs) fun D σ H ⟨C, F, ρ, Dd, m, S, h, E⟩ => by
    have q := S.ok i
    unfold dIns at h
    split at h
    · rename_i ds e
      rw [e] at q
      obtain ⟨a, xs, h1, h2, h3, h4⟩ := q
      refine ⟨_, val_some h1, .inl ⟨rfl, _, .of h2⟩, C, F, ρ, _, Dd.ex, S, h, fun F1 H1 v1 d1 S1 s1 i1 q1 => ⟨C, F1, ρ, _, Dd.ex, S1, q1, fun F2 H2 v2 d2 S2 s2 i2 q2 => ?_, E.exits⟩, E.exits⟩
      obtain ⟨j, rfl, j0, j1, lt, q2⟩ := q2
      cases i1
      have q3 := S2.ok i
      rw [e] at q3
      obtain ⟨a', xs', g1, g2, g3, g4⟩ := q3
      rw [h1] at g1; cases g1
      have hw : Owns (val σ i) (look ρ i) a := by rw [e]; exact .l h1
      have lt' : xs'.length < sizeLine := by rw [g4.length]; exact lt
      refine ⟨a, xs', j, v2, rfl, rfl, g2, lt', j0, by omega, E.nx F2 _ σ _ (S2.mut (t := .ownL (ds.take j.toNat ++ [d2] ++ ds.drop j.toNat)) m h1 hw ⟨a, xs'.take j.toNat ++ [v2] ++ xs'.drop j.toNat, rfl, upd_same, ?_, ((g4.take j.toNat).append (.cons i2 .nil)).append (g4.drop j.toNat)⟩ fun b q => by have := q.lD; cases this; rfl) q2⟩
      rw [List.length_append, List.length_append, List.length_take, List.length_drop, List.length_singleton]
      omega
    · exact h.elim
def dExt (i : Nat) (f : DE) : DS := fun D ρ => match look ρ i with
  | .ownL ds => f ρ (fun d => ∃ es, d = .list es ∧ ds.length + es.length ≤ sizeLine ∧ D.nx (put ρ i (.ownL (ds ++ es)))) D.ex
  | _ => False
theorem dext' (i : Nat) {o : Expr} {apos cpos : Pos} (ho : PE X o (tVar i)) (he : PE X e (tD X.kw W f)) (hst : starEach (e :: []) X.env = (false, eval e X.env) :: starEach [] X.env := by rfl)
    (hbase : attributeBase o "extend" X.env (eval o X.env) = eval o X.env := by rfl)
    (hfew : ((backTo cpos (starEach (e :: []) X.env)).all (fun x => !x.1) && (backToKw cpos (keywordEach [] X.env)).all (fun x => x.1.isSome)
      && decide ((e :: []).length + ([] : List Keyword).length + (if ([] : List Keyword).isEmpty then 0 else 1) < 30)) = true := by rfl)
    (hline : (apos.endLine == cpos.line) = true := by rfl) (hplain : (backTo cpos (starEach [] X.env)).any (·.1) = false := by rfl)
    (hs : swapsWith (.Call (.Attribute o "extend" apos) [e] [] cpos) none pos.line X.env = pure false := by rfl) :
    PS X (.Expr (.Call (.Attribute o "extend" apos) [e] [] cpos) pos) (tDS X.kw W (dExt i f)) :=
  PS.weak (ps_expr (pe_bm PySem.F.plainAttrs_list PySem.F.slot_list_extend PySem.F.type_list_extend mt_extend ho (pa_cons he pa_nil hst) hbase hfew hline hst hplain) hs) fun D σ H ⟨C, F, ρ, Dd, m, S, h, E⟩ => by
    have q := S.ok i
    unfold dExt at h
    split at h
    · rename_i ds e
      rw [e] at q
      obtain ⟨a, xs, h1, h2, h3, h4⟩ := q
      refine ⟨_, val_some h1, .inl ⟨rfl, _, .of h2⟩, C, F, ρ, _, Dd.ex, S, h, fun F1 H1 v1 d1 S1 s1 i1 q1 => ?_, E.exits⟩
      obtain ⟨es, rfl, lt, q2⟩ := q1
      cases i1 with
      | @lst b ys _ eb zb tb =>
        have q3 := S1.ok i
        rw [e] at q3
        obtain ⟨a', xs', g1, g2, g3, g4⟩ := q3
        rw [h1] at g1; cases g1
        have hw : Owns (val σ i) (look ρ i) a := by rw [e]; exact .l h1
        have lt' : xs'.length + ys.length ≤ sizeLine := by rw [g4.length, tb.length]; exact lt
        exact ⟨a, b, xs', ys, rfl, rfl, g2, S1.le _ _ eb, lt', E.nx F1 _ σ _ (S1.mut (t := .ownL (ds ++ es)) m h1 hw ⟨a, xs' ++ ys, rfl, upd_same, by rw [List.length_append]; exact lt', g4.append tb⟩ fun b q => by have := q.lD; cases this; rfl) q2⟩
    · exact h.elim
/-! ### x[i] = e, a list that the name alone holds -/
def dSetIx (i : Nat) (fi fv : DE) : DS := fun D ρ => fv ρ (fun d => match look ρ i with
  | .ownL ds => fi ρ (fun a => ∃ (k : Int) (j : Nat), a = .int k ∧ ixN ds.length k = some j ∧ D.nx (put ρ i (.ownL (ds.set j d)))) D.ex
  | _ => False) D.ex
theorem dsetix (i : Nat) {o ix ev : Expr} {tpos : Pos} (ho : PE X o (tVar i)) (hi : PE X ix (tD X.kw W f1)) (hv : PE X ev (tD X.kw W f2)) (hsw : swapsWithSole [.Subscript o ix tpos] ev pos.line X.env = pure false := by rfl) (hw : swappedStores [.Subscript o ix tpos] ev X.env = pure none := by rfl)
    (h1 : (assignEach [.Subscript o ix tpos] X.env).map (·.2) = [assign (.Subscript o ix tpos) X.env] := by rfl) (ha : ∀ v, assign (.Subscript o ix tpos) X.env v = (do
      let ov ← holding [v] (eval o X.env)
      let iv ← holding [v, ov] (eval ix X.env)
      standAt tpos
      holding [v, ov, iv] (setItem ov iv v)
      release [v, ov, iv] []) := by intro _; rfl) : PS X (.Assign [.Subscript o ix tpos] ev pos) (tDS X.kw W (dSetIx i f1 f2)) :=
  PS.weak (ps_asg hv (pg_sub ho hi set_list ha) hsw hw h1) fun D σ H ⟨C, F, ρ, Dd, m, S, h, E⟩ => ⟨C, F, ρ, _, Dd.ex, S, h, fun F1 H1 v d S1 s1 i1 q1 => by
    have q := S1.ok i
    split at q1
    · rename_i ds e
      rw [e] at q
      obtain ⟨a, xs, h1, h2, h3, h4⟩ := q
      refine ⟨_, val_some h1, C, F1, ρ, _, Dd.ex, S1, q1, fun F2 H2 w z S2 s2 i2 q2 => ?_, E.exits⟩
      obtain ⟨k, j, rfl, hk, q2⟩ := q2
      cases i2
      have q3 := S2.ok i
      rw [e] at q3
      obtain ⟨a', xs', g1, g2, g3, g4⟩ := q3
      rw [h1] at g1; cases g1
      have hw : Owns (val σ i) (look ρ i) a := by rw [e]; exact .l h1
      exact ⟨a, xs', k, j, rfl, rfl, g2, by rw [g4.length]; exact hk, E.nx F2 _ σ _ (S2.mut (t := .ownL (ds.set j d)) m h1 hw ⟨a, xs'.set j v, rfl, upd_same, by rw [List.length_set]; exact g3, g4.set j (i1.up s2)⟩ fun b q => by have := q.lD; cases this; rfl) q2⟩
    · exact q1.elim, E.exits⟩
end
end DL
set_option Elab.async false
set_option linter.all false
set_option maxRecDepth 100000
set_option maxHeartbeats 4000000
/-! DL, the data layer (11): the source of draws is read and written; lists by place, changed in place -/
namespace DL
open PySem PySem.Spec PyProof.Rows L2
section
variable {K : KW} {C : Ctx} {F H : Hp} {σ : L2.St} {ρ : DEnv}
/-- the source's own list is written -/
theorem Sd.bagSet {p : Bag} {o : HO} (S : Sd K C F H σ ρ) (hp : C.bg = some p) (B : BagOk K F (upd H p.1 o) p) : Sd K C F (upd H p.1 o) σ ρ := by
  have keep : ∀ a u, a ≠ p.1 → H a = some u → upd H p.1 o a = some u := fun a u h e => by rw [upd_ne h]; exact e
  refine ⟨S.le0, fun a u e => keep a u (fun h => by rw [h, B.1] at e; cases e) (S.le _ _ e), fun a u e hb hl => keep a u (hb p hp).1 (S.frame a u e hb hl), fun a h => upd_alive (S.alive a h), S.still, fun q hq => ?_, S.len,
    fun i => (S.ok i).next (Same.refl _) fun a ha u e => keep a u (((S.own i a ha).2.2 p hp).1) e, S.own, S.dj⟩
  rw [hp] at hq; cases hq; exact B
end
section
variable {X : Cx} {W : WX} {pos : Pos} {e : Expr} {f : DE}
/-- a list's item, by values -/
theorem get_list : PGet X (rIxL X.K) := by
  intro pins s σ H x y v u Q I rx ry h
  obtain ⟨p, xs, i, z, rfl, rfl, hq, he, q⟩ := h
  cases rx
  obtain ⟨t, rfl⟩ := ry
  obtain ⟨its, r, pl, hz⟩ := I.list hq
  obtain ⟨j, h1, h2, h3, h4, h5⟩ := atI_get he
  obtain ⟨w, ew, rw'⟩ := r.get h2
  have hl := r.length
  have hn := line63
  have fin : EP X pins σ Q w s := ⟨z, H, I, rw', q⟩
  by_cases h0 : 0 ≤ i
  · have hj : i.toNat = j := by
      rw [seqIndex_of h0 h5] at h1
      exact Option.some.inj h1
    exact wpAny_getItem_list pl.isList h0 (by omega) (by rw [hj]; simpa using ew) fin
  · have hj : (i + (its.toArray.size : Int)).toNat = j := by
      rw [seqIndex_neg (by omega) h4] at h1
      rw [List.size_toArray, ← hl]
      exact Option.some.inj h1
    exact wpAny_getItem_list_neg pl.isList (by omega) (by rw [List.size_toArray] <;> omega) (by omega) (by rw [hj]; simpa using ew) fin
/-! ### the source of draws -/
/-- bag[0], bag[1], bag[2]: some number -/
def dBag (i : Nat) (j : Int) : DE := fun ρ Q _ => look ρ i = .bag ∧ ∀ n : Int, 0 ≤ n → (j = 1 → n < 2147483647) → Q (.int n)
/-- bag[3]: some numbers -/
def dBag3 (i : Nat) : DE := fun ρ Q _ => look ρ i = .bag ∧ ∀ ns : List Int, ns.length ≤ 63 → (∀ n ∈ ns, 0 ≤ n) → Q (.list (ns.map .int))
theorem pd_bag' (i : Nat) {j : Int} {o : Expr} {jj : Nat} {pos2 : Pos} (hj : j = 0 ∨ j = 1 ∨ j = 2) (ho : PE X o (tVar i)) : PE X (.Subscript o (.Constant (.int j) jj pos2) pos) (tD X.kw W (dBag i j)) :=
  PE.weak (pe_ix ix_list ho pe_int (fun _ _ => rfl)) fun σ H Q ⟨C, F, ρ, Qd, Ed, S, h, k, x⟩ => by
    obtain ⟨h, q⟩ := h
    have q' := S.ok i
    rw [h] at q'
    obtain ⟨p, h1, h2⟩ := q'
    obtain ⟨n1, n2, x, y, z, c, cells, t, g1, g2, g3, g4, g5, g6, g7, g8⟩ := S.bag p h1
    rcases hj with rfl | rfl | rfl
    · exact ⟨_, val_some h2, p.1, _, 0, .int x, rfl, rfl, SqL.of g1, atI_nat (j := 0) rfl, k F H _ _ S (Same.refl _) (.int x) (q x g2 (fun z => by omega))⟩
    · exact ⟨_, val_some h2, p.1, _, 1, .int y, rfl, rfl, SqL.of g1, atI_nat (j := 1) rfl, k F H _ _ S (Same.refl _) (.int y) (q y g3 (fun _ => g4))⟩
    · exact ⟨_, val_some h2, p.1, _, 2, .int z, rfl, rfl, SqL.of g1, atI_nat (j := 2) rfl, k F H _ _ S (Same.refl _) (.int z) (q z g5 (fun z => by omega))⟩
theorem pd_bag3' (i : Nat) {o : Expr} {jj : Nat} {pos2 : Pos} (ho : PE X o (tVar i)) : PE X (.Subscript o (.Constant (.int 3) jj pos2) pos) (tD X.kw W (dBag3 i)) :=
  PE.weak (pe_ix ix_list ho pe_int (fun _ _ => rfl)) fun σ H Q ⟨C, F, ρ, Qd, Ed, S, h, k, x⟩ => by
    obtain ⟨h, q⟩ := h
    have q' := S.ok i
    rw [h] at q'
    obtain ⟨p, h1, h2⟩ := q'
    obtain ⟨n1, n2, x, y, z, c, cells, t, g1, g2, g3, g4, g5, g6, g7, g8⟩ := S.bag p h1
    exact ⟨_, val_some h2, p.1, _, 3, .ref c, rfl, rfl, SqL.of g1, atI_nat (j := 3) rfl, k F H _ _ S (Same.refl _) g6 (q cells g7.1 g7.2)⟩
theorem pd_bag (i : Nat) {j : Int} {x : Str} {jj : Nat} {p1 pos2 : Pos} (hj : j = 0 ∨ j = 1 ∨ j = 2 := by decide) (hN : X.N[i]? = some x := by rfl) (hv : Vis X.env.scope x := by first | exact Or.inl rfl | exact Or.inr (Or.inl rfl) | exact Or.inr (Or.inr rfl)) (hd : (x == ("__debug__" : Str)) = false := by decide)
    (hcd : (x == ("__classdict__" : Str)) = false := by decide) : PE X (.Subscript (.Name x p1) (.Constant (.int j) jj pos2) pos) (tD X.kw W (dBag i j)) := pd_bag' i hj (pe_var hN hv hd hcd)
theorem pd_bag3 (i : Nat) {x : Str} {jj : Nat} {p1 pos2 : Pos} (hN : X.N[i]? = some x := by rfl) (hv : Vis X.env.scope x := by first | exact Or.inl rfl | exact Or.inr (Or.inl rfl) | exact Or.inr (Or.inr rfl)) (hd : (x == ("__debug__" : Str)) = false := by decide)
    (hcd : (x == ("__classdict__" : Str)) = false := by decide) : PE X (.Subscript (.Name x p1) (.Constant (.int 3) jj pos2) pos) (tD X.kw W (dBag3 i)) := pd_bag3' i (pe_var hN hv hd hcd)
/-- bag[j] = e -/
def dSetBag (i : Nat) (j : Int) (f : DE) : DS := fun D ρ => f ρ (fun d => ∃ n : Int, d = .int n ∧ 0 ≤ n ∧ (j = 1 → n < 2147483647) ∧ look ρ i = .bag ∧ D.nx ρ) D.ex
theorem Sd.bagAt {K : KW} {C : Ctx} {F H : Hp} {σ : L2.St} {ρ : DEnv} {i : Nat} (S : Sd K C F H σ ρ) (h : look ρ i = .bag) : ∃ p, C.bg = some p ∧ val σ i = some (.ref p.1) ∧ BagOk K F H p := by
  have q := S.ok i
  rw [h] at q
  obtain ⟨p, h1, h2⟩ := q
  exact ⟨p, h1, h2, S.bag p h1⟩
/-- the first, second, third number is another one -/
theorem BagOk.put {K : KW} {F H : Hp} {p : Bag} (B : BagOk K F H p) {j : Nat} (hj : j < 3) {n : Int} (h0 : 0 ≤ n) (h1 : j = 1 → n < 2147483647) : ∃ xs, H p.1 = some (.lst xs) ∧ ixN xs.length (j : Int) = some j ∧ BagOk K F (upd H p.1 (.lst (xs.set j (.int n)))) p := by
  obtain ⟨n1, n2, x, y, z, c, cells, t, g1, g2, g3, g4, g5, g6, g7, g8⟩ := B
  refine ⟨_, g1, ?_, ?_⟩
  · unfold ixN
    rw [if_pos (by omega), if_pos (by simp only [List.length_cons]; omega)]; simp
  · have e8 : ∀ o, (t = [] ∧ p.2 = p.1) ∨ (t = [.ref p.2] ∧ p.1 ≠ p.2 ∧ ∃ (words : List V) (wds : List Str), upd H p.1 o p.2 = some (.lst words) ∧ IsAll K F words (wds.map .str) ∧ WordsOk wds ∧ ∀ l, p.pin = some l → wds = l) := fun o =>
      g8.imp id fun ⟨e, ne, words, wds, q1, q2, q3⟩ => ⟨e, ne, words, wds, by rw [upd_ne (Ne.symm ne)]; exact q1, q2, q3⟩
    match j, hj with
    | 0, _ => exact ⟨n1, n2, n, y, z, c, cells, t, upd_same, h0, g3, g4, g5, g6, g7, e8 _⟩
    | 1, _ => exact ⟨n1, n2, x, n, z, c, cells, t, upd_same, g2, h0, h1 rfl, g5, g6, g7, e8 _⟩
    | 2, _ => exact ⟨n1, n2, x, y, n, c, cells, t, upd_same, g2, g3, g4, h0, g6, g7, e8 _⟩
theorem dsetbag' (i : Nat) (j : Nat) {o ev : Expr} {jj : Nat} {p2 tpos : Pos} (hj : j < 3) (ho : PE X o (tVar i)) (hv : PE X ev (tD X.kw W f)) (hsw : swapsWithSole [.Subscript o (.Constant (.int (j : Int)) jj p2) tpos] ev pos.line X.env = pure false := by rfl) (hw : swappedStores [.Subscript o (.Constant (.int (j : Int)) jj p2) tpos] ev X.env = pure none := by rfl)
    (h1 : (assignEach [.Subscript o (.Constant (.int (j : Int)) jj p2) tpos] X.env).map (·.2) = [assign (.Subscript o (.Constant (.int (j : Int)) jj p2) tpos) X.env] := by rfl) (ha : ∀ v, assign (.Subscript o (.Constant (.int (j : Int)) jj p2) tpos) X.env v = (do
      let ov ← holding [v] (eval o X.env)
      let iv ← holding [v, ov] (eval (.Constant (.int (j : Int)) jj p2) X.env)
      standAt tpos
      holding [v, ov, iv] (setItem ov iv v)
      release [v, ov, iv] []) := by intro _; rfl) : PS X (.Assign [.Subscript o (.Constant (.int (j : Int)) jj p2) tpos] ev pos) (tDS X.kw W (dSetBag i j f)) :=
  PS.weak (ps_asg hv (pg_sub ho pe_int set_list ha) hsw hw h1) fun D σ H ⟨C, F, ρ, Dd, m, S, h, E⟩ => ⟨C, F, ρ, _, Dd.ex, S, h, fun F1 H1 v d S1 s1 i1 q1 => by
    obtain ⟨n, rfl, q1, q2, q3, q4⟩ := q1
    cases i1
    obtain ⟨p, b1, b2, B⟩ := S1.bagAt q3
    obtain ⟨xs, g1, g2, B'⟩ := B.put hj q1 (fun e => q2 (by omega))
    exact ⟨_, val_some b2, p.1, xs, j, j, rfl, rfl, g1, g2, E.nx F1 _ σ ρ (S1.bagSet b1 B') q4⟩, E.exits⟩
/-- bag[j] += e -/
def dAugBag (i : Nat) (j : Int) (f : DE) : DS := fun D ρ => look ρ i = .bag ∧ j ≠ 1 ∧ f ρ (fun d => ∃ n : Int, d = .int n ∧ 0 ≤ n ∧ look ρ i = .bag ∧ D.nx ρ) D.ex
theorem daugbag' (i : Nat) (j : Nat) {o ev : Expr} {jj : Nat} {p2 tpos : Pos} (hj : j < 3) (ho : PE X o (tVar i)) (hv : PE X ev (tD X.kw W f)) (ha : ∀ ov iv new, augStore (.Constant (.int (j : Int)) jj p2) ov iv new = (do holding [new, ov, iv] (setItem ov iv new); release [new, ov, iv] []; pure .next) := by intros; rfl) :
    PS X (.AugAssign (.Subscript o (.Constant (.int (j : Int)) jj p2) tpos) .Add ev pos) (tDS X.kw W (dAugBag i j f)) :=
  PS.weak (ps_augS ho pe_int get_list hv ip_add set_list ha) fun D σ H ⟨C, F, ρ, Dd, m, S, h, E⟩ => by
    obtain ⟨h, hne, q⟩ := h
    obtain ⟨p, b1, b2, B⟩ := S.bagAt h
    obtain ⟨n1, n2, x, y, z, c, cells, t, g1, g2, g3, g4, g5, g6, g7, g8⟩ := B
    have old : ∃ n : Int, 0 ≤ n ∧ atI (.int x :: .int y :: .int z :: .ref c :: t) (j : Int) = some (V.int n) := by
      match j, hj with
      | 0, _ => exact ⟨x, g2, atI_nat (j := 0) rfl⟩
      | 1, _ => exact absurd rfl hne
      | 2, _ => exact ⟨z, g5, atI_nat (j := 2) rfl⟩
    obtain ⟨n, hn, en⟩ := old
    refine ⟨_, val_some b2, p.1, _, (j : Int), .int n, rfl, rfl, SqL.of g1, en, C, F, ρ, _, Dd.ex, S, q, fun F1 H1 v d S1 s1 i1 q1 => ?_, E.exits⟩
    obtain ⟨m', rfl, q1, q3, q4⟩ := q1
    cases i1
    obtain ⟨p', b1', b2', B⟩ := S1.bagAt q3
    rw [b1] at b1'; cases b1'
    obtain ⟨xs, g1, g2, B'⟩ := B.put (n := n + m') hj (by omega) (fun e => absurd (show (j : Int) = 1 by omega) hne)
    exact ⟨n, m', rfl, rfl, p.1, xs, j, j, rfl, rfl, g1, g2, E.nx F1 _ σ ρ (S1.bagSet b1 B') q4⟩
end
end DL
set_option Elab.async false
set_option linter.all false
set_option maxRecDepth 100000
set_option maxHeartbeats 4000000
/-! DL, the data layer (12): dicts written -/
namespace DL
open PySem PySem.Spec PyProof.Rows L2
section
variable {X : Cx} {W : WX} {pos : Pos} {e : Expr}
/-- {k: v, ..}, new; keys are numbers or texts, no two alike -/
def dPairs : List (DE × DE) → DEnv → (List (PyData × PyData) → Prop) → (ExcD → Prop) → Prop
  | [], _, Q, _ => Q []
  | (fk, fv) :: r, ρ, Q, E => fk ρ (fun k => fv ρ (fun v => dPairs r ρ (fun kvs => Q ((k, v) :: kvs)) E) E) E
def keyOf : PyData → Option Key
  | .int i => some (.inl i)
  | .str x => some (.inr x)
  | _ => none
def keysOf : List (PyData × PyData) → Option (List Key)
  | [] => some []
  | (k, _) :: r => match keyOf k, keysOf r with | some k, some r => some (k :: r) | _, _ => none
def dDisp (fs : List (DE × DE)) : DK := fun ρ Q E => dPairs fs ρ (fun kvs => ∃ ks, keysOf kvs = some ks ∧ ks.Nodup ∧ Q kvs) E
inductive IsPairs (K : KW) (F : Hp) : List (V × V) → List (PyData × PyData) → Prop
  | nil : IsPairs K F [] []
  | cons {k v : V} {ps : List (V × V)} {a b : PyData} {kvs : List (PyData × PyData)} : Is K F k a → Is K F v b → IsPairs K F ps kvs → IsPairs K F ((k, v) :: ps) ((a, b) :: kvs)
theorem pairs_read {K : KW} {C : Ctx} {σ : L2.St} {ρ : DEnv} {Ed : ExcD → Prop} (hx : Exits K W C σ ρ Ed) : ∀ (fs : List (DE × DE)) {F H : Hp} {Qd : List (PyData × PyData) → Prop} {Q : List (V × V) → Hp → Prop}, Sd K C F H σ ρ → dPairs fs ρ Qd Ed →
    (∀ F' H' ps kvs, Sd K C F' H' σ ρ → Same F F' → IsPairs K F' ps kvs → kvs.length = fs.length → Qd kvs → Q ps H') → tPairs (fs.map fun p => (tD K W p.1, tD K W p.2)) σ H Q
  | [], F, H, Qd, Q, S, h, k => k F H [] [] S (Same.refl _) .nil rfl h
  | (fk, fv) :: r, F, H, Qd, Q, S, h, k => ⟨C, F, ρ, _, Ed, S, h, fun F1 H1 x a S1 s1 i1 q1 => ⟨C, F1, ρ, _, Ed, S1, q1, fun F2 H2 y b S2 s2 i2 q2 =>
      pairs_read hx r S2 q2 fun F3 H3 ps kvs S3 s3 i3 l3 q3 => k F3 H3 _ _ S3 (s1.trans (s2.trans s3)) (.cons (i1.up (s2.trans s3)) (i2.up s3) i3) (by rw [List.length_cons, List.length_cons, l3]) q3, hx⟩, hx⟩
theorem merge_new : ∀ {more kvs : List (Key × V)}, ((kvs ++ more).map (·.1)).Nodup → mergeK kvs more = kvs ++ more
  | [], kvs, _ => by rw [List.append_nil]; rfl
  | p :: r, kvs, h => by
    have hn : ∀ q ∈ kvs, q.1 ≠ p.1 := by
      intro q hq e
      rw [List.map_append, List.nodup_append] at h
      exact h.2.2 q.1 (List.mem_map.mpr ⟨q, hq, rfl⟩) p.1 (by simp) e
    have e : putK kvs p.1 p.2 = kvs ++ [(p.1, p.2)] := by
      unfold putK
      rw [if_neg]
      rw [Bool.not_eq_true, List.any_eq_false]
      intro q hq
      simpa using hn q hq
    show mergeK (putK kvs p.1 p.2) r = _
    rw [e, merge_new (by simpa using h)]
    simp
theorem pairs_keys {K : KW} {F : Hp} : ∀ {ps : List (V × V)} {kvs : List (PyData × PyData)} {ks : List Key}, IsPairs K F ps kvs → keysOf kvs = some ks → ∃ kv : List (Key × V), ps = kv.map (fun p => (kV p.1, p.2)) ∧ kv.map (·.1) = ks ∧ IsKv K F kv kvs
  | _, _, ks, .nil, h => by
    cases h
    exact ⟨[], rfl, rfl, .nil⟩
  | _, _, ks, .cons (k := k) (v := v) (a := a) (b := b) i1 i2 t, h => by
    unfold keysOf at h
    split at h
    · rename_i k' r' e1 e2
      cases h
      obtain ⟨kv, h1, h2, h3⟩ := pairs_keys t e2
      have hk : k = kV k' ∧ a = keyD k' := by
        unfold keyOf at e1
        split at e1
        · cases e1; cases i1; exact ⟨rfl, rfl⟩
        · cases e1; cases i1; exact ⟨rfl, rfl⟩
        · cases e1
      obtain ⟨rfl, rfl⟩ := hk
      exact ⟨(k', v) :: kv, by rw [h1]; rfl, by rw [← h2]; rfl, .cons i2 h3⟩
    · cases h
/-- .. with its pairs' rules -/
theorem pg_disp {keys : List (Option Expr)} {values : List Expr} {fs : List (DE × DE)} (h : PPs X pos keys values (fs.map fun p => (tD X.kw W p.1, tD X.kw W p.2))) (hall : keys.all (·.isSome) = true := by rfl) (hl : keys.length = values.length := by rfl) (h0 : keys ≠ [] := by simp)
    (h15 : keys.length ≤ 15 := by decide) (hf : fs.length ≤ 15 := by decide) : PE X (.Dict keys values pos) (tG X.kw W (dDisp fs)) := PE.weak (pe_disp h hall hl h0 h15) fun σ H Q ⟨C, F, ρ, Qd, Ed, S, h, k, x⟩ => fun p hp => by
  have S1 := S.fresh (o := .dK []) hp
  have ap := S.new hp
  have N1 := S1.nest
  refine pairs_read (C := ⟨upd H p (.dK []), F, C.bg, false, []⟩) (Ed := Ed) (fun F' H' c dd y S' e q => x F' H' c dd y (S1.unnest S') e q) fs N1 h fun F2 H2 ps kvs S2 s2 i2 l2 q2 => ?_
  obtain ⟨ks, hk, nd, q2⟩ := q2
  have hp2 : H2 p = some (.dK []) := S2.frame p _ upd_same ap.bg (by simp)
  have fp : F2 p = none := S2.still p (by show upd H p (.dK []) p ≠ none; rw [upd_same]; simp) ap.f (by simp)
  obtain ⟨kv, e1, e2, i3⟩ := pairs_keys i2 hk
  have hlen : kv.length ≤ 15 := by rw [isKv_length i3, l2]; exact hf
  have nd' : (kv.map (·.1)).Nodup := by rw [e2]; exact nd
  have em : mergeK [] kv = kv := merge_new nd'
  have ap2 : Apart C F2 H2 σ ρ p := ⟨fp, ap.h0, ap.bg, ap.no⟩
  refine ⟨hp2, kv, e1, hlen, ?_⟩
  rw [em]
  exact k F2 _ p (.dK kv) kvs ((S1.unnest S2).write ap2) s2 ⟨fp, ap.h0, ap.bg, ap.no⟩ upd_same (.inl ⟨kv, rfl, Nat.le_trans hlen (by decide), nd', i3⟩) q2
end
end DL
set_option Elab.async false
set_option linter.all false
set_option maxRecDepth 100000
set_option maxHeartbeats 4000000
/-! DL, the data layer (13): a, b = x, y -/
namespace DL
open PySem PySem.Spec PyProof.Rows L2
section
variable {X : Cx} {W : WX} {pos : Pos} {a b c : Expr} {fs : DL'} {px py pz pt : Pos} {x y z : Str} {kt k2 : Nat} {pt2 : Pos}
def dPar (i j : Nat) (fs : DL') : DS := fun D ρ => i < ρ.length ∧ j < ρ.length ∧ fs ρ (fun ds => match ds with | [a, b] => D.nx (put (put ρ i (.data a)) j (.data b)) | _ => False) D.ex
theorem dpar (i j : Nat) (hN : X.N.Nodup) (ha : PA X [a, b] (tS X.kw W fs)) (hi : X.N[i]? = some x := by rfl) (hj : X.N[j]? = some y := by rfl) (hij : i ≠ j := by decide) (hx : X.env.scope.names.lookup x = some .local := by rfl) (hy : X.env.scope.names.lookup y = some .local := by rfl) (hc : X.calm = true := by rfl)
    (hw : swappedStores [.Tuple [.Name x px, .Name y py] kt pt] (.Tuple [a, b] k2 pt2) X.env = pure (some [x, y]) := by rfl)
    (hs : swapsWithSole [.Tuple [.Name x px, .Name y py] kt pt] (.Tuple [a, b] k2 pt2) pos.line X.env = pure false := by rfl) :
    PS X (.Assign [.Tuple [.Name x px, .Name y py] kt pt] (.Tuple [a, b] k2 pt2) pos) (tDS X.kw W (dPar i j fs)) :=
  PS.weak (ps_par hc hN hi hj hij hx hy ha hw hs) fun D σ H ⟨C, F, ρ, Dd, m, S, ⟨hi, hj, h⟩, E⟩ => ⟨C, F, ρ, _, Dd.ex, S, h, fun F1 H1 vs ds S1 s1 i1 q1 => by
    split at q1
    · cases i1 with | cons i1 t => cases t with | cons i2 t => cases t; exact ⟨_, _, rfl, E.nx F1 H1 _ _ ((S1.storeD (by rw [← S.len]; exact hi) i1).storeD (by rw [List.length_set, ← S.len]; exact hj) i2) q1⟩
    · exact q1.elim, E.exits⟩
def dPar3 (i j l : Nat) (fs : DL') : DS := fun D ρ => i < ρ.length ∧ j < ρ.length ∧ l < ρ.length ∧ fs ρ (fun ds => match ds with | [a, b, c] => D.nx (put (put (put ρ i (.data a)) j (.data b)) l (.data c)) | _ => False) D.ex
theorem dpar3 (i j l : Nat) (hN : X.N.Nodup) (ha : PA X [a, b, c] (tS X.kw W fs)) (hi : X.N[i]? = some x := by rfl) (hj : X.N[j]? = some y := by rfl) (hl : X.N[l]? = some z := by rfl) (hij : i ≠ j := by decide) (hil : i ≠ l := by decide) (hjl : j ≠ l := by decide)
    (hx : X.env.scope.names.lookup x = some .local := by rfl) (hy : X.env.scope.names.lookup y = some .local := by rfl) (hz : X.env.scope.names.lookup z = some .local := by rfl) (hc : X.calm = true := by rfl)
    (hw : swappedStores [.Tuple [.Name x px, .Name y py, .Name z pz] kt pt] (.Tuple [a, b, c] k2 pt2) X.env = pure (some [x, y, z]) := by rfl)
    (hs : swapsWithSole [.Tuple [.Name x px, .Name y py, .Name z pz] kt pt] (.Tuple [a, b, c] k2 pt2) pos.line X.env = pure false := by rfl) :
    PS X (.Assign [.Tuple [.Name x px, .Name y py, .Name z pz] kt pt] (.Tuple [a, b, c] k2 pt2) pos) (tDS X.kw W (dPar3 i j l fs)) :=
  PS.weak (ps_par3 hc hN hi hj hl hij hil hjl hx hy hz ha hw hs) fun D σ H ⟨C, F, ρ, Dd, m, S, ⟨hi, hj, hl, h⟩, E⟩ => ⟨C, F, ρ, _, Dd.ex, S, h, fun F1 H1 vs ds S1 s1 i1 q1 => by
    split at q1
    · cases i1 with | cons i1 t => cases t with | cons i2 t => cases t with | cons i3 t => cases t; exact ⟨_, _, _, rfl, E.nx F1 H1 _ _ (((S1.storeD (by rw [← S.len]; exact hi) i1).storeD (by rw [List.length_set, ← S.len]; exact hj) i2).storeD (by rw [List.length_set, List.length_set, ← S.len]; exact hl) i3) q1⟩
    · exact q1.elim, E.exits⟩
end
end DL
set_option Elab.async false
set_option linter.all false
set_option maxRecDepth 100000
set_option maxHeartbeats 4000000
/-! DL, the data layer (14): the source of draws is made; the law's def -/
namespace DL
open PySem PySem.Spec PyProof.Rows L2
/-- what the def promises that makes the source -/
def spBag (K : KW) : Sp := fun vs H Q _ => ∃ (a : Addr) (ns : List Int), vs = [.ref a] ∧ SqL K.K H a (ns.map V.int) ∧ ns.length ≤ 63 ∧
  ∀ (F' H' : Hp) (p : Bag), Same H H' → Same F' H' → (∀ b, H b ≠ none → F' b = none) → BagOk K F' H' p → Q (.ref p.1) H'
def absI (i : Int) : Int := if i < 0 then -i else i
theorem absI_nn (i : Int) : 0 ≤ absI i := by unfold absI; split <;> omega
/-- its list of numbers -/
def tScr (K : PySem.W.Frag) : TE := fun σ H Q => ∃ (a : Addr) (ns : List Int), 1 < σ.length ∧ val σ 0 = some (.ref a) ∧ SqL K H a (ns.map V.int) ∧ ns.length ≤ 63 ∧ ∀ H' c, Same H H' → H c = none → H' c = some (.lst (ns.map fun i => V.int (absI i))) → Q (.ref c) H'
theorem cut63 {ns : List Int} (h : ns.length ≤ 63) : cutV (ns.map V.int) none (some 63) = ns.map V.int := by
  have e : HT.sIx (ns.map V.int).length (ns.map V.int).length (some 63) = (ns.map V.int).length := by
    rw [show (some (63 : Int)) = some (((63 : Nat)) : Int) from rfl, HT.sIx_nat, List.length_map]; omega
  unfold cutV
  rw [e, HT.sIx_none, List.drop_zero, Nat.sub_zero, List.take_length]
theorem scr_read {K : PySem.W.Frag} {σ : L2.St} {H : Hp} {Q : VK} (h : tScr K σ H Q) :
    tLc (iList K (tSl (rSlL K) (tVar 0) tNoPart (tPart (tC (.int 63))))) (gName 1) tYes (tCB (fun xs H Q => ∃ i, xs = [.int i] ∧ Q (.int (if i < 0 then -i else i)) H) (tCons (tVar 1) tNil)) [1] σ H Q := by
  obtain ⟨a, ns, h0, h1, h2, h3, h4⟩ := h
  refine ⟨_, val_some h1, 63, rfl, a, _, rfl, h2, fun p hp => ⟨p, rfl, ⟨_, SqL.of upd_same⟩, fun D hD => ?_⟩⟩
  rw [cut63 h3] at *
  have nD : D ≠ p := fun e => by rw [e, upd_same] at hD; cases hD
  have fD : H D = none := by rw [upd_ne nD] at hD; exact hD
  have len : (ns.map V.int).length = ns.length := List.length_map _
  refine lc_list (xs := ns.map V.int) (fun i H2 => Same H H2 ∧ H2 p = some (.lst (ns.map V.int)) ∧ H2 D = some (.lst ((ns.take i).map fun n => V.int (absI n)))) ?_ ?_ ?_ ?_
  · refine ⟨fun b u e => ?_, ?_, ?_⟩
    · rw [upd_ne (ne_of_none e fD), upd_ne (ne_of_none e hp)]; exact e
    · rw [upd_ne (Ne.symm nD)]; exact upd_same
    · rw [upd_same]; rfl
  · intro i H2 _ ⟨_, q, _⟩
    exact SqL.of q
  · intro i x H2 hx ⟨q1, q2, q3⟩
    rw [List.getElem?_map] at hx
    cases e : ns[i]? with
    | none => rw [e] at hx; cases hx
    | some n =>
      rw [e] at hx
      have hx : x = V.int n := by cases hx; rfl
      subst hx
      have lt : i < ns.length := (List.getElem?_eq_some_iff.mp e).1
      have hl : i < ns.length := lt
      have wl : 1 < (wipe σ [1]).length := by rw [wipe_length]; exact h0
      refine ⟨(wipe_set (by simp)).trans (wipe_wipe σ [1]), ?_⟩
      simp only [tYes, if_true]
      refine ⟨.int n, by rw [List.getElem?_set_self wl], n, rfl, _, q3, ?_, fun b u e => ?_, ?_, ?_⟩
      · rw [List.length_map, List.length_take]
        exact Nat.lt_of_le_of_lt (Nat.min_le_left _ _) (Nat.lt_of_lt_of_le (show i < 64 by omega) (by decide))
      · rw [upd_ne (ne_of_none e fD)]; exact q1 _ _ e
      · rw [upd_ne (Ne.symm nD)]; exact q2
      · rw [upd_same, List.take_add_one, e, List.map_append]; rfl
  · intro H2 ⟨q1, q2, q3⟩
    rw [len, List.take_length] at q3
    exact h4 H2 D q1 fD q3
theorem cells_is {K : KW} {F : Hp} : ∀ ns : List Int, IsAll K F (ns.map V.int) (ns.map PyData.int)
  | [] => .nil
  | n :: r => .cons (.int n) (cells_is r)
/-- the heap behind: the source, and what is still -/
theorem bag_made {K : KW} {H H1 H3 : Hp} {a c : Addr} {ns : List Int} (t : List V) (q : Addr) (s : Same H H1) (hc : H c = none) (e : H1 c = some (.lst (ns.map fun i => V.int (absI i)))) (l : ns.length ≤ 63) {b : Addr} (hb : H1 b = none) (s3 : Same H1 H3)
    (h3 : H3 b = some (.lst (.int 0 :: .int 1234567891 :: .int 0 :: .ref c :: t))) (ht : (t = [] ∧ q = b) ∨ (t = [.ref q] ∧ b ≠ q ∧ q ≠ c ∧ H3 q = some (.lst []))) :
    ∃ F', Same H H3 ∧ Same F' H3 ∧ (∀ b, H b ≠ none → F' b = none) ∧ BagOk K F' H3 ⟨b, q, none⟩ := by
  let F' : Hp := upd (fun _ => none) c (.lst (ns.map fun i => V.int (absI i)))
  have fc : F' c = some (.lst (ns.map fun i => V.int (absI i))) := upd_same
  have fo : ∀ x, x ≠ c → F' x = none := fun x h => upd_ne h
  have bc : b ≠ c := fun h => by rw [h, e] at hb; cases hb
  refine ⟨F', s.trans s3, fun x u h => ?_, fun x h => fo x fun z => h (by rw [z]; exact hc), fo b bc, ?_, 0, 1234567891, 0, c, ns.map absI, t, h3, by decide, by decide, by decide, by decide, ?_, ⟨by rw [List.length_map]; exact l, fun n hn => ?_⟩, ?_⟩
  · by_cases z : x = c
    · subst z; rw [fc] at h; rw [← h]; exact s3 _ _ e
    · rw [fo x z] at h; cases h
  · rcases ht with ⟨_, z⟩ | ⟨_, _, z, _⟩
    · show F' q = none
      rw [z]; exact fo b bc
    · exact fo q z
  · refine .lst (xs := ns.map fun i => V.int (absI i)) fc (by rw [List.length_map]; exact Nat.le_trans l (by decide)) ?_
    have := cells_is (K := K) (F := F') (ns.map absI)
    rw [List.map_map] at this
    exact this
  · obtain ⟨i, _, rfl⟩ := List.mem_map.mp hn
    exact absI_nn i
  · exact ht.imp id fun ⟨h1, h2, _, h4⟩ => ⟨h1, h2, [], [], h4, .nil, ⟨List.nodup_nil, fun _ m => nomatch m⟩, fun _ e => nomatch e⟩
/-- [0, 1234567891, 0, .., []] -/
abbrev tScrLc (K : PySem.W.Frag) : TE := tLc (iList K (tSl (rSlL K) (tVar 0) tNoPart (tPart (tC (.int 63))))) (gName 1) tYes (tCB (fun xs H Q => ∃ i, xs = [.int i] ∧ Q (.int (if i < 0 then -i else i)) H) (tCons (tVar 1) tNil)) [1]
theorem bag5_read {K : KW} {σ : L2.St} {H : Hp} {Q : VK} {a : Addr} {ns : List Int} (hσ : 1 < σ.length) (h1 : val σ 0 = some (.ref a)) (h2 : SqL K.K H a (ns.map V.int)) (h3 : ns.length ≤ 63)
    (h4 : ∀ (F' H' : Hp) (p : Bag), Same H H' → Same F' H' → (∀ b, H b ≠ none → F' b = none) → BagOk K F' H' p → Q (.ref p.1) H') :
    tLst (tCons (tC (.int 0)) (tCons (tC (.int 1234567891)) (tCons (tC (.int 0)) (tCons (tScrLc K.K) (tCons (tLst tNil) tNil))))) σ H Q := by
  show tScrLc K.K σ H fun x H1 => tLst tNil σ H1 fun y H2 => [V.int 0, .int 1234567891, .int 0, x, y].length ≤ sizeLine ∧ ∀ p, H2 p = none → Q (.ref p) (upd H2 p (.lst [V.int 0, .int 1234567891, .int 0, x, y]))
  refine scr_read ⟨a, ns, hσ, h1, h2, h3, fun H1 c s hc e => ?_⟩
  refine ⟨(by show 0 ≤ sizeLine; decide), fun q hq => ⟨(by show 5 ≤ sizeLine; decide), fun b hb => ?_⟩⟩
  have nb : b ≠ q := fun z => by rw [z, upd_same] at hb; cases hb
  have hb1 : H1 b = none := by rw [upd_ne nb] at hb; exact hb
  have s3 : Same H1 (upd (upd H1 q (.lst [])) b (.lst [.int 0, .int 1234567891, .int 0, .ref c, .ref q])) := fun x u z => by
    rw [upd_ne (ne_of_none z hb1), upd_ne (ne_of_none z hq)]; exact z
  obtain ⟨F', g1, g2, g3, g4⟩ := bag_made (K := K) (a := a) [.ref q] q s hc e h3 hb1 s3 upd_same (.inr ⟨rfl, nb, (fun z => by rw [z, e] at hq; cases hq), (by rw [upd_ne (Ne.symm nb)]; exact upd_same)⟩)
  exact h4 F' _ ⟨b, q, none⟩ g1 g2 g3 g4
theorem bag4_read {K : KW} {σ : L2.St} {H : Hp} {Q : VK} {a : Addr} {ns : List Int} (hσ : 1 < σ.length) (h1 : val σ 0 = some (.ref a)) (h2 : SqL K.K H a (ns.map V.int)) (h3 : ns.length ≤ 63)
    (h4 : ∀ (F' H' : Hp) (p : Bag), Same H H' → Same F' H' → (∀ b, H b ≠ none → F' b = none) → BagOk K F' H' p → Q (.ref p.1) H') :
    tLst (tCons (tC (.int 0)) (tCons (tC (.int 1234567891)) (tCons (tC (.int 0)) (tCons (tScrLc K.K) tNil)))) σ H Q := by
  show tScrLc K.K σ H fun x H2 => [V.int 0, .int 1234567891, .int 0, x].length ≤ sizeLine ∧ ∀ p, H2 p = none → Q (.ref p) (upd H2 p (.lst [V.int 0, .int 1234567891, .int 0, x]))
  refine scr_read ⟨a, ns, hσ, h1, h2, h3, fun H1 c s hc e => ?_⟩
  refine ⟨(by show 4 ≤ sizeLine; decide), fun b hb => ?_⟩
  have s3 : Same H1 (upd H1 b (.lst [.int 0, .int 1234567891, .int 0, .ref c])) := fun x u z => by
    rw [upd_ne (ne_of_none z hb)]; exact z
  obtain ⟨F', g1, g2, g3, g4⟩ := bag_made (K := K) (a := a) [] b s hc e h3 hb s3 upd_same (.inl ⟨rfl, rfl⟩)
  exact h4 F' _ ⟨b, b, none⟩ g1 g2 g3 g4
section
variable {X : Cx} {W : WX} {pos : Pos}
/-- bag = (a call that makes the source of the script) -/
def tLaw (K : PySem.W.Frag) (g : DS) : TS := fun D σ H => ∃ (a : Addr) (ns : List Int), 1 < σ.length ∧ val σ 0 = some (.ref a) ∧ SqL K H a (ns.map V.int) ∧ ns.length ≤ 63 ∧
  g (ends0 (fun d => d = .bool true) fun _ => False) (.undef :: .bag :: List.replicate (σ.length - 2) .undef) ∧ ∀ H', D.rt (.bl true) H'
theorem look_undef : ∀ (m i : Nat), look (List.replicate m .undef) i = .undef
  | 0, _ => rfl
  | m + 1, 0 => rfl
  | m + 1, i + 1 => look_undef m i
theorem dlaw {st : Stmt} {sts : List Stmt} {g : DS} (h : PS X st (tAsg (tCall (spBag X.kw) [] E0 (tCons (tVar 0) tNil)) (gName 1))) (hg : PSs X sts (tDS X.kw W0 g)) : PSs X (st :: sts) (tLaw X.K g) :=
  PSs.weak (pss_cons h hg) fun D σ H ⟨a, ns, hσ, h1, h2, h3, q, k⟩ => by
    refine ⟨_, val_some h1, a, ns, rfl, h2, h3, fun F' H' p s1 s2 s3 B => ?_⟩
    have hl : 1 < (σ.set 1 (some (V.ref p.1))).length := by rw [List.length_set]; exact hσ
    have no : ∀ (i : Nat) (b : Addr), ¬ Owns (val (σ.set 1 (some (V.ref p.1))) i) (look (.undef :: .bag :: List.replicate (σ.length - 2) .undef) i) b := fun i b o => by
      match i with
      | 0 => exact o.not rfl
      | 1 => exact o.bag
      | i + 2 =>
        have o : Owns _ (look (List.replicate _ _) i) b := o
        rw [look_undef] at o; exact o.not rfl
    refine ⟨⟨H', F', some p, true, []⟩, F', _, _, rfl, ⟨Same.refl _, s2, fun _ _ e _ _ => e, fun _ h => h, fun _ _ h _ => h, fun q hq => by cases hq; exact B, ?_, fun i => ?_, fun i b o => ?_, fun i j b o _ => ?_⟩, q, ⟨(fun F2 H2 σ2 ρ2 S z => nomatch (show PyData.none = .bool true from z)), fun _ _ _ _ _ z => (show False from z).elim, fun _ _ _ _ _ z => (show False from z).elim, fun F2 H2 σ2 ρ2 v d S i z => ?_, fun _ _ _ _ _ _ _ _ _ z => (show False from z).elim⟩⟩
    · rw [List.length_set]; simp only [List.length_cons, List.length_replicate]; omega
    · match i with
      | 0 => trivial
      | 1 => exact ⟨p, rfl, by unfold val; rw [List.getElem?_set_self hσ]; rfl⟩
      | i + 2 =>
        show SlotOk _ _ _ _ _ (look (List.replicate _ _) i)
        rw [look_undef]; trivial
    · exact (no i b o).elim
    · exact (no i b o).elim
    · have z : d = .bool true := z
      subst z
      cases i
      exact k H2
end
section
variable {P : Program} {w : World} {K : PySem.W.Frag} {mg : Str → Option Value} {base : Heap} {k : Nat} {fa : Addr} {fd : FuncData}
/-- the law's def, by its body's reading -/
theorem law_d {x qual : Str} {st : Stmt} {N : List Str} (hN : 1 < N.length) (F : Fun K x qual st fa fd) (S : FnScope N ["script"] (defScope st)) {g : DS} (hg : g (ends0 (fun d => d = .bool true) fun _ => False) (.undef :: .bag :: List.replicate (N.length - 2) .undef))
    (hbody : ∀ (cdv : Value) (A : Around) (outer : List PySem.Env) (s : Shared) (H : Hp) (E : XK), RoomG k (A.deeper (envOfC qual (defScope st) s.heap.objs.size fa cdv)) →
      PSs (cxOf CX0 P w K mg base N qual (defScope st) fa cdv A outer s H E).nox (defBody st) (tLaw K g)) : FnG P w K mg base CX0 (k + 1) fa fd ["script"] (spLaw K) :=
  fun_g F S (fun vs H Q E ⟨a, ns, e, _⟩ => by subst e; rfl) fun cdv A outer s H vs Q E hr ⟨a, ns, e, h1, h2, h3⟩ => by
    subst e
    have hs : (start N [V.ref a]).length = N.length := by unfold L2.start; simp only [List.length_append, List.length_map, List.length_singleton, List.length_replicate]; omega
    exact ⟨_, hbody cdv A outer s H E hr, a, ns, by rw [hs]; exact hN, rfl, h1, h2, by rw [hs]; exact hg, h3⟩
theorem bag_d {x qual : Str} {st : Stmt} {N : List Str} (hN : 1 < N.length) (F : Fun K x qual st fa fd) (S : FnScope N ["script"] (defScope st)) {t : TE} (ht : ∀ {σ : L2.St} {H : Hp} {Q : VK} {a : Addr} {ns : List Int}, 1 < σ.length → val σ 0 = some (.ref a) → SqL K H a (ns.map V.int) → ns.length ≤ 63 →
      (∀ (F' H' : Hp) (p : Bag), Same H H' → Same F' H' → (∀ b, H b ≠ none → F' b = none) → BagOk ⟨K, w⟩ F' H' p → Q (.ref p.1) H') → t σ H Q)
    (hbody : ∀ (cdv : Value) (A : Around) (outer : List PySem.Env) (s : Shared) (H : Hp) (E : XK), PSs (cxOf CX0 P w K mg base N qual (defScope st) fa cdv A outer s H E).nox (defBody st) (tRet t)) : FnG P w K mg base CX0 (k + 1) fa fd ["script"] (spBag ⟨K, w⟩) :=
  fun_g F S (fun vs H Q E ⟨a, ns, e, _⟩ => by subst e; rfl) fun cdv A outer s H vs Q E hr ⟨a, ns, e, h1, h2, h3⟩ => by
    subst e
    have hs : (start N [V.ref a]).length = N.length := by unfold L2.start; simp only [List.length_append, List.length_map, List.length_singleton, List.length_replicate]; omega
    exact ⟨_, hbody cdv A outer s H E, ht (by rw [hs]; exact hN) rfl h1 h2 h3⟩
end
end DL
set_option Elab.async false
set_option linter.all false
set_option maxRecDepth 100000
set_option maxHeartbeats 4000000
/-! DL, the data layer (15): list * int; is None; str of an int; targets that change what a name alone holds -/
namespace DL
open PySem PySem.Spec PyProof.Rows L2
section
variable {X : Cx}
/-! ### * with lists -/
def gMulA : PyData → PyData → (PyData → Prop) → Prop
  | .int i, .int j, Q => CMul i j ∧ Q (.int (i * j))
  | .str x, .int j, Q => 0 ≤ j ∧ j < 1000000 ∧ j.toNat * x.length ≤ sizeLine ∧ Q (.str (Txt.mul x j))
  | .list ds, .int j, Q => 0 ≤ j ∧ j < 1000000 ∧ ds.length * j.toNat ≤ sizeLine ∧ Q (.list (List.replicate j.toNat ds).flatten)
  | _, _, _ => False
theorem rep_is {K : KW} {F : Hp} {vs : List V} {ds : List PyData} (t : IsAll K F vs ds) : ∀ n : Nat, IsAll K F (List.replicate n vs).flatten (List.replicate n ds).flatten
  | 0 => .nil
  | n + 1 => by
    rw [List.replicate_succ, List.replicate_succ, List.flatten_cons, List.flatten_cons]
    exact t.append (rep_is t n)
def rMulA : R2 := fun x y H Q => rMulD x y H Q ∨ rRep x y H Q
theorem op_mulA : OpR X (binaryOp .Mult) rMulA := OpR.or op_mulD op_rep
theorem d_mulA : OpD X rMulA gMulA := by
  intro C F H σ ρ v u x y Qz Q S hv hu q k
  unfold gMulA at q
  split at q
  · exact .inl (d_mul C F H σ ρ v u _ _ Qz Q S hv hu q k)
  · exact .inl (d_mul C F H σ ρ v u _ _ Qz Q S hv hu q k)
  · rename_i ds j
    obtain ⟨a, us, rfl, e, z, t⟩ := isO_list S.le hv
    have := isO_int hu; subst u
    refine .inr ⟨a, j, us, rfl, rfl, e, by omega, by omega, by rw [t.length]; exact q.2.2.1, fun p hp => ?_⟩
    obtain ⟨S', s'⟩ := new_still S (o := .lst (List.replicate j.toNat us).flatten) hp
    have r := rep_is (t.up s') j.toNat
    refine k _ _ _ _ S' s' (.lst upd_same ?_ r) q.2.2.2
    have e1 : (List.replicate j.toNat us).flatten.length = us.length * j.toNat := by simp [List.length_flatten, Nat.mul_comm]
    rw [e1, t.length]; exact q.2.2.1
  · exact q.elim
/-! ### is None -/
def isNon : PyData → Bool
  | .none => true
  | _ => false
theorem isO_non {K : KW} {F H : Hp} {v : V} {d : PyData} (h : IsO K F H v d) : decide (v = V.non) = isNon d := by
  rcases h with h | ⟨a, xs, ds, rfl, rfl, _⟩ | ⟨a, ks, kvs, rfl, rfl, _⟩
  · cases h <;> rfl
  · rfl
  · rfl
def gIsN (neg : Bool) : PyData → PyData → (PyData → Prop) → Prop := fun x y Q => y = .none ∧ Q (.bool (neg ^^ isNon x))
theorem d_isN : OpD X (fun x y H Q => y = .non ∧ Q (.bl (decide (x = .non))) H) (gIsN false) := by
  intro C F H σ ρ v u x y Qz Q S hv hu ⟨e, q⟩ k
  subst e
  have := isO_none hu; subst u
  refine ⟨rfl, k F H _ _ S (Same.refl _) ?_ q⟩
  rw [isO_non hv, Bool.false_xor]; exact .bl _
theorem d_notN : OpD X (fun x y H Q => y = .non ∧ Q (.bl (!decide (x = .non))) H) (gIsN true) := by
  intro C F H σ ρ v u x y Qz Q S hv hu ⟨e, q⟩ k
  subst e
  have := isO_none hu; subst u
  refine ⟨rfl, k F H _ _ S (Same.refl _) ?_ q⟩
  rw [isO_non hv, Bool.true_xor]; exact .bl _
/-! ### str of an int -/
def gStrI : List PyData → (PyData → Prop) → Prop
  | [.int i], Q => i.natAbs.log2 < 1920 ∧ (Str.ofString (toString i)).length ≤ sizeLine ∧ Q (.str (toString i))
  | _, _ => False
theorem d_strI : CallD X (fun xs H Q => ∃ i, xs = [.int i] ∧ i.natAbs.log2 < 1920 ∧ Q (.str (toString i)) H) gStrI := by
  intro C F H σ ρ vs ds Qz Q S h q k
  unfold gStrI at q
  split at q
  · obtain ⟨v, rfl, o⟩ := allO_1 h
    have := isO_int o; subst v
    exact ⟨_, rfl, q.1, k F H _ _ S (Same.refl _) (.str _ q.2.1) q.2.2⟩
  · exact q.elim
end
/-! ### targets of an assignment that may change what a name alone holds -/
section
variable {X : Cx} {W : WX} {pos : Pos} {e tg : Expr}
def tGE (K : KW) (g : DG) : TG := fun v σ H Q => ∃ C F ρ d Qd, C.mu = true ∧ Sd K C F H σ ρ ∧ Is K F v d ∧ g d ρ Qd ∧ ∀ F' H' σ' ρ', Sd K C F' H' σ' ρ' → Same F F' → Qd ρ' → Q σ' H'
def tGEs (K : KW) (g : DGs) : TGs := fun us σ H Q => ∃ C F ρ ds Qd, C.mu = true ∧ Sd K C F H σ ρ ∧ IsAll K F us ds ∧ g ds ρ Qd ∧ ∀ F' H' σ' ρ', Sd K C F' H' σ' ρ' → Same F F' → Qd ρ' → Q σ' H'
theorem pg_nameE (i : Nat) {x : Str} {pos : Pos} (hN : X.N.Nodup) (hi : X.N[i]? = some x := by rfl) (hx : Loc X.env.scope x := by first | exact Or.inl rfl | exact Or.inr rfl)
    (hf : X.fn x = true ∨ X.env.scope.names.lookup x = some .local := by first | exact .inl rfl | exact .inr rfl | assumption) : PG X (.Name x pos) (tGE X.kw (gN i)) :=
  PG.weak (pg_name hN hi hx hf) fun v σ H Q ⟨C, F, ρ, d, Qd, m, S, h, q, k⟩ => k F H _ _ (S.storeD (by rw [← S.len]; exact q.1) h) (Same.refl _) q.2
theorem pgs_nilE : PGs X [] (tGEs X.kw gsNil) := PGs.weak pgs_nil fun v σ H Q ⟨C, F, ρ, ds, Qd, m, S, h, q, k⟩ => by
  obtain ⟨rfl, q⟩ := q
  cases h
  exact ⟨rfl, k F H σ ρ S (Same.refl _) q⟩
theorem pgs_consE {g : DG} {h : DGs} {ts : List Expr} (h1 : PG X e (tGE X.kw g)) (h2 : PGs X ts (tGEs X.kw h)) (hs : (assignEach (e :: ts) X.env).map (·.2) = assign e X.env :: (assignEach ts X.env).map (·.2) := by rfl) :
    PGs X (e :: ts) (tGEs X.kw (gsCons g h)) := PGs.weak (pgs_cons h1 h2 hs) fun v σ H Q ⟨C, F, ρ, ds, Qd, m, S, h, q, k⟩ => by
  cases ds with
  | nil => exact q.elim
  | cons d r =>
    cases h with
    | cons a t => exact ⟨_, _, rfl, C, F, ρ, d, _, m, S, a, q, fun F1 H1 σ1 ρ1 S1 s1 q1 => ⟨C, F1, ρ1, r, Qd, m, S1, t.up s1, q1, fun F2 H2 σ2 ρ2 S2 s2 q2 => k F2 H2 σ2 ρ2 S2 (s1.trans s2) q2⟩⟩
theorem pg_tupE {gs : DGs} {ts : List Expr} {n k : Nat} (hc : X.calm = true) (h : PGs X ts (tGEs X.kw gs)) (hn : (assignEach ts X.env).length = n := by rfl) (hst : (assignEach ts X.env).findIdx? (·.1) = none := by rfl) :
    PG X (.Tuple ts k pos) (tGE X.kw (gT n gs)) := PG.weak (pg_tup hc h hn hst) fun v σ H Q ⟨C, F, ρ, d, Qd, m, S, h, q, k⟩ => by
  unfold gT at q
  split at q
  · rename_i ds
    cases h with
    | tup e z t => exact ⟨_, _, rfl, sqT_mono S.le e.sq, by rw [t.length]; exact q.1, C, F, ρ, ds, Qd, m, S, t, q.2, k⟩
  · exact q.elim
/-- x[j] = .., a list that the name alone holds -/
def gIxE (i : Nat) (fi : DE) : DG := fun d ρ Q => match look ρ i with
  | .ownL ds => fi ρ (fun a => ∃ (k : Int) (j : Nat), a = .int k ∧ ixN ds.length k = some j ∧ Q (put ρ i (.ownL (ds.set j d)))) fun _ => False
  | _ => False
theorem pg_ixE (i : Nat) {o ix : Expr} {tpos : Pos} {fi : DE} (ho : PE X o (tVar i)) (hi : PE X ix (tD X.kw W0 fi)) (ha : ∀ v, assign (.Subscript o ix tpos) X.env v = (do
      let ov ← holding [v] (eval o X.env)
      let iv ← holding [v, ov] (eval ix X.env)
      standAt tpos
      holding [v, ov, iv] (setItem ov iv v)
      release [v, ov, iv] []) := by intro _; rfl) : PG X (.Subscript o ix tpos) (tGE X.kw (gIxE i fi)) :=
  PG.weak (pg_sub ho hi set_list ha) fun v σ H Q ⟨C, F, ρ, d, Qd, m, S, h, q, k⟩ => by
    unfold gIxE at q
    have q0 := S.ok i
    split at q
    · rename_i ds e
      rw [e] at q0
      obtain ⟨a, xs, h1, h2, h3, h4⟩ := q0
      refine ⟨_, val_some h1, C, F, ρ, _, _, S, q, fun F2 H2 w z S2 s2 i2 q2 => ?_, exits0⟩
      obtain ⟨kk, j, rfl, hk, q2⟩ := q2
      cases i2
      have q3 := S2.ok i
      rw [e] at q3
      obtain ⟨a', xs', g1, g2, g3, g4⟩ := q3
      rw [h1] at g1; cases g1
      have hw : Owns (val σ i) (look ρ i) a := by rw [e]; exact .l h1
      exact ⟨a, xs', kk, j, rfl, rfl, g2, by rw [g4.length]; exact hk, k F2 _ σ _ (S2.mut (t := .ownL (ds.set j d)) m h1 hw ⟨a, xs'.set j v, rfl, upd_same, by rw [List.length_set]; exact g3, g4.set j (h.up s2)⟩ fun b q => by have := q.lD; cases this; rfl) s2 q2⟩
    · exact q.elim
theorem dasgE {f : DE} {g : DG} (he : PE X e (tD X.kw W f)) (hg : PG X tg (tGE X.kw g)) (hs : swapsWithSole [tg] e pos.line X.env = pure false := by rfl) (hw : swappedStores [tg] e X.env = pure none := by rfl)
    (h1 : (assignEach [tg] X.env).map (·.2) = [assign tg X.env] := by rfl) : PS X (.Assign [tg] e pos) (tDS X.kw W (dAsg f g)) :=
  PS.weak (ps_asg he hg hs hw h1) fun D σ H ⟨C, F, ρ, Dd, m, S, h, E⟩ => ⟨C, F, ρ, _, Dd.ex, S, h, fun F' H' v d S' s' i' q => ⟨C, F', ρ, d, _, m, S', i', q, fun F2 H2 σ' ρ' S2 _ q2 => E.nx F2 H2 σ' ρ' S2 q2⟩, E.exits⟩
end
end DL
set_option Elab.async false
set_option linter.all false
set_option maxRecDepth 100000
set_option maxHeartbeats 4000000
/-! DL, the data layer: zip of a tuple and a list. A RUN is a walk along a sequence, whatever it is -/
namespace DL
open PySem PySem.Spec PyProof.Rows L2
/-- a walk (the object i) along the things xs that lie at l -/
structure Runs (P : Program) (w : World) (i l : Addr) (xs : Array Value) (at' : Nat → Heap → Prop) : Prop where
  live : ∀ {k h}, at' k h → (∃ o, h.get? i = some o ∧ ∀ v, o.data ≠ .cell v) ∧ l < h.objs.size
  stay : ∀ {k h h'}, at' k h → (∀ o, h.get? i = some o → h'.get? i = some o) → (∀ o, h.get? l = some o → h'.get? l = some o) → at' k h'
  step : ∀ {A : Around} {E : Value → Shared → Prop} {s : Shared} {k : Nat} {x : Value} {Q : Value → Shared → Prop}, at' k s.heap → xs[k]? = some x →
    (∀ h', at' (k + 1) h' → Heap.SameBut i s.heap h' → Q x { s with heap := h' }) → wpAny (model P w) A (Builtin.SmallTypes.nextOf (.ref i)) Q E s
  over : ∀ {A : Around} {E : Value → Shared → Prop} {s : Shared} {k : Nat} {Q : Value → Shared → Prop}, A.handled = none → at' k s.heap → xs[k]? = none →
    (∀ h' e, Heap.ExtBut i s.heap h' → (∃ o, h'.get? e = some o ∧ o.cls = .type "StopIteration") → E (.ref e) { s with heap := h' }) → wpAny (model P w) A (Builtin.SmallTypes.nextOf (.ref i)) Q E s
section
variable {P : Program} {w : World} {i l : Addr} {xs : Array Value}
theorem runs_tup (hil : i ≠ l) : Runs P w i l xs (fun k h => h.IsTupleIter i l k ∧ h.IsTuple l xs) where
  live := fun {k h} ⟨⟨o, e, _, d⟩, ⟨o2, e2, _⟩⟩ => ⟨⟨o, e, fun v q => by rw [d] at q; cases q⟩, Heap.lt_size e2⟩
  stay := fun ⟨⟨o, e, r⟩, ⟨o2, e2, r2⟩⟩ k1 k2 => ⟨⟨o, k1 o e, r⟩, ⟨o2, k2 o2 e2, r2⟩⟩
  step := fun {A E s k x Q} ⟨h1, h2⟩ hx q => RZ.nextOf_tuple_item h1 h2 hx fun h' g1 g2 => q h' ⟨g1, let ⟨o, e, r⟩ := h2; ⟨o, (g2.2 l (Ne.symm hil)).trans e, r⟩⟩ g2
  over := fun hh ⟨h1, h2⟩ hx q => RZ.nextOf_tuple_end hh h1 h2 hx q
theorem runs_lst (hil : i ≠ l) : Runs P w i l xs (fun k h => h.IsListIter i l k ∧ h.IsList l xs) where
  live := fun {k h} ⟨⟨o, e, _, d⟩, ⟨o2, e2, _⟩⟩ => ⟨⟨o, e, fun v q => by rw [d] at q; cases q⟩, Heap.lt_size e2⟩
  stay := fun ⟨⟨o, e, r⟩, ⟨o2, e2, r2⟩⟩ k1 k2 => ⟨⟨o, k1 o e, r⟩, ⟨o2, k2 o2 e2, r2⟩⟩
  step := fun {A E s k x Q} ⟨h1, h2⟩ hx q => wpAny_nextOf_list_item h1 h2 hx fun h' g1 g2 => q h' ⟨g1, let ⟨o, e, r⟩ := h2; ⟨o, (g2.2 l (Ne.symm hil)).trans e, r⟩⟩ g2
  over := fun hh ⟨h1, h2⟩ hx q => wpAny_nextOf_list_end hh h1 h2 hx q
end
section
variable {P : Program} {w : World} {A : Around} {E : Value → Shared → Prop} {s : Shared} {z TI TO i1 i2 l1 l2 : Addr} {k : Nat} {xs ys : Array Value} {at1 at2 : Nat → Heap → Prop} {x y a b : Value}
/-- one step of zip over two runs -/
theorem zipR_item {Q : Value → Shared → Prop} (R1 : Runs P w i1 l1 xs at1) (R2 : Runs P w i2 l2 ys at2) (D : ZipApart z TI TO i1 i2 l1 l2) (hz : IsZip s.heap z TI TO .none) (hTI : IsPair s.heap TI (.ref i1) (.ref i2)) (hTO : IsPair s.heap TO a b)
    (h1 : at1 k s.heap) (h2 : at2 k s.heap) (hx : xs[k]? = some x) (hy : ys[k]? = some y)
    (hQ : ∀ h', IsZip h' z TI TO (rawInt s.heap.objs.size) → IsPair h' TO x y → at1 (k + 1) h' → at2 (k + 1) h' → IsPair h' s.heap.objs.size x y →
      (∀ c o, c ≠ z → c ≠ TO → c ≠ i1 → c ≠ i2 → s.heap.get? c = some o → h'.get? c = some o) → Q (.ref s.heap.objs.size) { s with heap := h' }) :
    wpAny (model P w) A (Builtin.«zip.__next__» ⟨[.ref z], []⟩) (fun fin s' => ∃ v, fin = .done (.ret v) ∧ Q v s') E s := by
  refine wpAny_bind (m := field (.ref z) 2) (wpAny_field hz rfl (x := .bool false) rfl ?_)
  refine wpAny_bind (m := field (.ref z) 3) (wpAny_field hz rfl (x := .ref TI) rfl ?_)
  refine wpAny_bind (wpAny_seqItems hTI rfl ?_)
  refine wpAny_bind (m := Builtin.SmallTypes.ownedTupleIsFree (.ref z)) ?_
  unfold Builtin.SmallTypes.ownedTupleIsFree
  refine wpAny_bind (wpAny_field hz rfl (x := .none) rfl (wpAny_pure ?_))
  simp only [if_true]
  refine wpAny_bind (wpAny_rule ?_)
  refine wpAny_bind (wpAny_field hz rfl (x := .ref TO) rfl ?_)
  refine wpAny_bind (wpAny_setField_rec hz (by simp) fun m1 z1 c1 => ?_)
  have z1 : IsZip m1 z TI TO .ellipsis := z1
  refine wpAny_bind ?_
  simp only [List.zipIdx_cons, List.zipIdx_nil, List.forIn_cons, List.forIn_nil]
  refine wpAny_bind (wpAny_bind (wpAny_onRaise (wpAny_bind (m := Builtin.SmallTypes.nextOf (.ref i1)) ?_)))
  have a1 : at1 k m1 := R1.stay h1 (fun o e => c1.extBut _ _ D.i1z e) (fun o e => c1.extBut _ _ D.l1z e)
  refine R1.step (s := { s with heap := m1 }) a1 hx fun m2 a2 c2 => wpAny_pure ?_
  have t2 : IsPair m2 TO a b := c2.extBut _ _ D.TOi1 (c1.extBut _ _ D.TOz hTO)
  refine wpAny_bind (wpAny_seqItems t2 rfl (wpAny_bind (wpAny_updateSeq_pair t2 fun m3 t3 c3 => ?_)))
  have t3 : IsPair m3 TO x b := t3
  refine wpAny_bind (wpAny_letGo (wpAny_pure ?_))
  refine wpAny_bind (wpAny_bind (wpAny_onRaise (wpAny_bind (m := Builtin.SmallTypes.nextOf (.ref i2)) ?_)))
  have b1 : at2 k m3 := R2.stay h2 (fun o e => c3.extBut _ _ D.TOi2.symm (c2.extBut _ _ D.i12.symm (c1.extBut _ _ D.i2z e))) (fun o e => c3.extBut _ _ D.l2TO (c2.extBut _ _ D.l2i1 (c1.extBut _ _ D.l2z e)))
  refine R2.step (s := { s with heap := m3 }) b1 hy fun m4 b2 c4 => wpAny_pure ?_
  have t4 : IsPair m4 TO x b := c4.extBut _ _ D.TOi2 t3
  refine wpAny_bind (wpAny_seqItems t4 rfl (wpAny_bind (wpAny_updateSeq_pair t4 fun m5 t5 c5 => ?_)))
  have t5 : IsPair m5 TO x y := t5
  refine wpAny_bind (wpAny_letGo (wpAny_pure (wpAny_pure ?_)))
  have sz : m5.objs.size = s.heap.objs.size := by rw [c5.1, c4.1, c3.1, c2.1, c1.1]
  have zz : IsZip m5 z TI TO .ellipsis := c5.extBut _ _ D.TOz.symm (c4.extBut _ _ D.i2z.symm (c3.extBut _ _ D.TOz.symm (c2.extBut _ _ D.i1z.symm z1)))
  have kept : ∀ c o, c ≠ z → c ≠ TO → c ≠ i1 → c ≠ i2 → s.heap.get? c = some o → m5.get? c = some o := fun c o n1 n2 n3 n4 e => c5.extBut _ _ n2 (c4.extBut _ _ n4 (c3.extBut _ _ n2 (c2.extBut _ _ n3 (c1.extBut _ _ n1 e))))
  have a5 : at1 (k + 1) m5 := R1.stay a2 (fun o e => c5.extBut _ _ D.TOi1.symm (c4.extBut _ _ D.i12 (c3.extBut _ _ D.TOi1.symm e))) (fun o e => c5.extBut _ _ D.l1TO (c4.extBut _ _ D.l1i2 (c3.extBut _ _ D.l1TO e)))
  have b5 : at2 (k + 1) m5 := R2.stay b2 (fun o e => c5.extBut _ _ D.TOi2.symm e) (fun o e => c5.extBut _ _ D.l2TO e)
  have zlt : z < m5.objs.size := Heap.lt_size zz
  refine wpAny_bind (wpAny_seqItems t5 rfl (wpAny_bind (wpAny_newTuple ?_)))
  refine wpAny_bind (m := Builtin.SmallTypes.ownedTupleHandOut (.ref z) (.ref m5.objs.size)) ?_
  unfold Builtin.SmallTypes.ownedTupleHandOut
  have z6 : IsZip (m5.push { cls := .type "tuple", data := .seq #[x, y] }) z TI TO .ellipsis := Heap.get?_push_of_some _ zz
  refine wpAny_bind (wpAny_setField_rec z6 (by simp) fun m7 z7 c7 => ?_)
  have z7 : IsZip m7 z TI TO (rawInt m5.objs.size) := z7
  refine wpAny_setField_rec z7 (by simp) fun m8 z8 c8 => ?_
  have z8 : IsZip m8 z TI TO (rawInt m5.objs.size) := z8
  have lift : ∀ c o, c ≠ z → m5.get? c = some o → m8.get? c = some o := fun c o n e => c8.extBut _ _ n (c7.extBut _ _ n (Heap.get?_push_of_some _ e))
  have new : IsPair m8 m5.objs.size x y := c8.extBut _ _ (Nat.ne_of_gt zlt) (c7.extBut _ _ (Nat.ne_of_gt zlt) (Heap.get?_push_size _ rfl))
  rw [sz] at z8 new
  refine wpAny_pure ⟨_, rfl, ?_⟩
  rw [show (Value.ref m5.objs.size) = Value.ref s.heap.objs.size by rw [sz]]
  exact hQ m8 z8 (lift _ _ D.TOz t5) (R1.stay a5 (fun o e => lift _ o D.i1z e) (fun o e => lift _ o D.l1z e)) (R2.stay b5 (fun o e => lift _ o D.i2z e) (fun o e => lift _ o D.l2z e)) new fun c o n1 n2 n3 n4 e => lift c o n1 (kept c o n1 n2 n3 n4 e)
/-- .. at the end of one of them -/
theorem zipR_end {Q : Fin → Shared → Prop} (R1 : Runs P w i1 l1 xs at1) (R2 : Runs P w i2 l2 ys at2) (hh : A.handled = none) (D : ZipApart z TI TO i1 i2 l1 l2) (hz : IsZip s.heap z TI TO .none) (hTI : IsPair s.heap TI (.ref i1) (.ref i2)) (hTO : IsPair s.heap TO a b)
    (h1 : at1 k s.heap) (h2 : at2 k s.heap) (hend : xs[k]? = none ∨ ys[k]? = none)
    (hE : ∀ h' e, (∀ c o, c ≠ z → c ≠ TO → c ≠ i1 → c ≠ i2 → s.heap.get? c = some o → h'.get? c = some o) → (∃ o, h'.get? e = some o ∧ o.cls = .type "StopIteration") → E (.ref e) { s with heap := h' }) :
    wpAny (model P w) A (Builtin.«zip.__next__» ⟨[.ref z], []⟩) Q E s := by
  refine wpAny_bind (m := field (.ref z) 2) (wpAny_field hz rfl (x := .bool false) rfl ?_)
  refine wpAny_bind (m := field (.ref z) 3) (wpAny_field hz rfl (x := .ref TI) rfl ?_)
  refine wpAny_bind (wpAny_seqItems hTI rfl ?_)
  refine wpAny_bind (m := Builtin.SmallTypes.ownedTupleIsFree (.ref z)) ?_
  unfold Builtin.SmallTypes.ownedTupleIsFree
  refine wpAny_bind (wpAny_field hz rfl (x := .none) rfl (wpAny_pure ?_))
  simp only [if_true]
  refine wpAny_bind (wpAny_rule ?_)
  refine wpAny_bind (wpAny_field hz rfl (x := .ref TO) rfl ?_)
  refine wpAny_bind (wpAny_setField_rec hz (by simp) fun m1 z1 c1 => ?_)
  have z1 : IsZip m1 z TI TO .ellipsis := z1
  refine wpAny_bind ?_
  simp only [List.zipIdx_cons, List.zipIdx_nil, List.forIn_cons, List.forIn_nil]
  refine wpAny_bind (wpAny_bind (wpAny_onRaise (wpAny_bind (m := Builtin.SmallTypes.nextOf (.ref i1)) ?_)))
  have a1 : at1 k m1 := R1.stay h1 (fun o e => c1.extBut _ _ D.i1z e) (fun o e => c1.extBut _ _ D.l1z e)
  cases hx : xs[k]? with
  | none =>
    refine R1.over (s := { s with heap := m1 }) hh a1 hx fun m2 e c2 ⟨oe, g1, g2⟩ => ?_
    have z2 : IsZip m2 z TI TO .ellipsis := c2 _ _ D.i1z.symm z1
    have ne : e ≠ z := fun q => by rw [q, z2] at g1; cases g1; simp at g2
    refine wpAny_setField_rec z2 (by simp) fun m3 _ c3 => hE m3 e (fun c o n1 _ n3 _ q => c3.extBut _ _ n1 (c2 _ _ n3 (c1.extBut _ _ n1 q))) ⟨oe, c3.extBut _ _ ne g1, g2⟩
  | some x =>
    have hy : ys[k]? = none := hend.resolve_left (by rw [hx]; exact nofun)
    refine R1.step (s := { s with heap := m1 }) a1 hx fun m2 a2 c2 => wpAny_pure ?_
    have t2 : IsPair m2 TO a b := c2.extBut _ _ D.TOi1 (c1.extBut _ _ D.TOz hTO)
    refine wpAny_bind (wpAny_seqItems t2 rfl (wpAny_bind (wpAny_updateSeq_pair t2 fun m3 t3 c3 => ?_)))
    refine wpAny_bind (wpAny_letGo (wpAny_pure ?_))
    refine wpAny_bind (wpAny_bind (wpAny_onRaise (wpAny_bind (m := Builtin.SmallTypes.nextOf (.ref i2)) ?_)))
    have b1 : at2 k m3 := R2.stay h2 (fun o e => c3.extBut _ _ D.TOi2.symm (c2.extBut _ _ D.i12.symm (c1.extBut _ _ D.i2z e))) (fun o e => c3.extBut _ _ D.l2TO (c2.extBut _ _ D.l2i1 (c1.extBut _ _ D.l2z e)))
    refine R2.over (s := { s with heap := m3 }) hh b1 hy fun m4 e c4 ⟨oe, g1, g2⟩ => ?_
    have z4 : IsZip m4 z TI TO .ellipsis := c4 _ _ D.i2z.symm (c3.extBut _ _ D.TOz.symm (c2.extBut _ _ D.i1z.symm z1))
    have ne : e ≠ z := fun q => by rw [q, z4] at g1; cases g1; simp at g2
    refine wpAny_setField_rec z4 (by simp) fun m5 _ c5 => hE m5 e (fun c o n1 n2 n3 n4 q => c5.extBut _ _ n1 (c4 _ _ n4 (c3.extBut _ _ n2 (c2.extBut _ _ n3 (c1.extBut _ _ n1 q))))) ⟨oe, c5.extBut _ _ ne g1, g2⟩
theorem nextZ_item {Q : Option Value → Shared → Prop} (R1 : Runs P w i1 l1 xs at1) (R2 : Runs P w i2 l2 ys at2) (D : ZipApart z TI TO i1 i2 l1 l2) (hz : IsZip s.heap z TI TO .none) (hTI : IsPair s.heap TI (.ref i1) (.ref i2)) (hTO : IsPair s.heap TO a b)
    (h1 : at1 k s.heap) (h2 : at2 k s.heap) (hx : xs[k]? = some x) (hy : ys[k]? = some y)
    (hQ : ∀ h', IsZip h' z TI TO (rawInt s.heap.objs.size) → IsPair h' TO x y → at1 (k + 1) h' → at2 (k + 1) h' → IsPair h' s.heap.objs.size x y →
      (∀ c o, c ≠ z → c ≠ TO → c ≠ i1 → c ≠ i2 → s.heap.get? c = some o → h'.get? c = some o) → Q (some (.ref s.heap.objs.size)) { s with heap := h' }) : wpAny (model P w) A (pyNext (.ref z)) Q E s := by
  have ty : s.TypeIs (.ref z) "zip" := ⟨_, hz, rfl⟩
  unfold pyNext
  refine wpAny_bind (wpAny_attempt (wpAny_callSpecial?_slot (name := Str.ofString "__next__") ty F.slot_zip_next (wpAny_call_entry F.slot_zip_next ty F.entry_zip_next ?_ (F.args_zip_next_1 _))))
  exact zipR_item R1 R2 D hz hTI hTO h1 h2 hx hy fun h' g1 g2 g3 g4 g5 g6 => wpAny_pure (hQ h' g1 g2 g3 g4 g5 g6)
theorem nextZ_end {Q : Option Value → Shared → Prop} (R1 : Runs P w i1 l1 xs at1) (R2 : Runs P w i2 l2 ys at2) (hh : A.handled = none) (D : ZipApart z TI TO i1 i2 l1 l2) (hz : IsZip s.heap z TI TO .none) (hTI : IsPair s.heap TI (.ref i1) (.ref i2)) (hTO : IsPair s.heap TO a b)
    (h1 : at1 k s.heap) (h2 : at2 k s.heap) (hend : xs[k]? = none ∨ ys[k]? = none) (hQ : ∀ h', (∀ c o, c ≠ z → c ≠ TO → c ≠ i1 → c ≠ i2 → s.heap.get? c = some o → h'.get? c = some o) → Q none { s with heap := h' }) :
    wpAny (model P w) A (pyNext (.ref z)) Q E s := by
  have ty : s.TypeIs (.ref z) "zip" := ⟨_, hz, rfl⟩
  unfold pyNext
  refine wpAny_bind (wpAny_attempt (wpAny_callSpecial?_slot (name := Str.ofString "__next__") ty F.slot_zip_next (wpAny_call_entry F.slot_zip_next ty F.entry_zip_next ?_ (F.args_zip_next_1 _))))
  refine zipR_end R1 R2 hh D hz hTI hTO h1 h2 hend fun h' e kept ⟨o, g1, g2⟩ => ?_
  exact wpAny_bind (wpAny_isInstance (T := "StopIteration") (b := true) ⟨o, g1, g2⟩ isSubtype_stop (wpAny_pure (hQ _ kept)))
end
/-! ### as a walk: the first sequence is told by S, the second by T -/
def ItR (S T : Hp → List V → Prop) : It :=
  ⟨fun i H => ∃ (xs ys : List V) (x y : V), S H xs ∧ T H ys ∧ xs[i]? = some x ∧ ys[i]? = some y,
    fun i H v H' => ∃ q x y, v = .ref q ∧ H q = none ∧ H' = upd H q (.tup [x, y]) ∧ (∀ xs, S H xs → xs[i]? = some x) ∧ ∀ ys, T H ys → ys[i]? = some y,
    fun i H => ∃ xs ys : List V, S H xs ∧ T H ys ∧ (xs.length ≤ i ∨ ys.length ≤ i)⟩
/-- a tuple and a list -/
abbrev ItTL (K : PySem.W.Frag) (a b : Addr) : It := ItR (fun H xs => SqT K H a xs) fun H ys => SqL K H b ys
theorem turn_TL {P : Program} {w : World} {K : PySem.W.Frag} {elts : List Expr} {kk : Nat} {tpos : Pos} {a b z TI TO i1 i2 : Addr} (D : ZipApart z TI TO i1 i2 a b) :
    Turn P w K (.Tuple elts kk tpos) (ItTL K a b) [z, TI, TO, i1, i2] z (fun i h => IsZip h z TI TO .none ∧ IsPair h TI (.ref i1) (.ref i2) ∧ (∃ x y, IsPair h TO x y) ∧ h.IsTupleIter i1 a i ∧ h.IsListIter i2 b i) where
  mem := List.mem_cons_self
  self := fun A i s Q E st h => wpAny_pyIter_zip st.1 h
  keep := fun i h h' ⟨g1, g2, ⟨x, y, g3⟩, g4, g5⟩ k =>
    ⟨k z (by simp) _ g1, k TI (by simp) _ g2, ⟨x, y, k TO (by simp) _ g3⟩, g4.at fun o q => k i1 (by simp) o q, g5.at fun o q => k i2 (by simp) o q⟩
  obj := by
    rintro i h ⟨g1, g2, ⟨x, y, g3⟩, ⟨o1, e1, _, d1⟩, ⟨o2, e2, _, d2⟩⟩ c hc
    simp only [List.mem_cons, List.not_mem_nil, or_false] at hc
    rcases hc with rfl | rfl | rfl | rfl | rfl
    · exact ⟨_, g1, nofun⟩
    · exact ⟨_, g2, nofun⟩
    · exact ⟨_, g3, nofun⟩
    · exact ⟨o1, e1, fun v q => by rw [d1] at q; cases q⟩
    · exact ⟨o2, e2, fun v q => by rw [d2] at q; cases q⟩
  item := by
    rintro X rfl rfl rfl hc i pins s σ H E I hf ⟨g1, g2, ⟨x0, y0, g3⟩, g4, g5⟩ ⟨xs, ys, x, y, hqx, hqy, hx, hy⟩
    obtain ⟨us, rv, p, _⟩ := I.tuple hqx
    obtain ⟨ws, rv2, p2, _⟩ := I.list hqy
    obtain ⟨u, hu, ru⟩ := rv.get hx
    obtain ⟨u2, hu2, ru2⟩ := rv2.get hy
    have zl : z < s.heap.objs.size := Heap.lt_size g1
    refine nextZ_item (runs_tup (i := i1) (l := a) (xs := us.toArray) (Ne.symm D.l1i1)) (runs_lst (i := i2) (l := b) (xs := ws.toArray) (Ne.symm D.l2i2)) D g1 g2 g3 ⟨g4, p⟩ ⟨g5, p2.isList⟩ (x := u) (y := u2) (by simpa using hu) (by simpa using hu2) fun h' q1 q2 q3 q4 q5 q6 => ?_
    refine ⟨_, rfl, wpAny_letOwnedTupleGo_zip (s := { s with heap := h' }) q1 fun h2 z2 sb => ?_⟩
    have pair : h2.get? s.heap.objs.size = some { cls := .type "tuple", data := .seq #[u, u2] } := (sb.2 _ (Nat.ne_of_gt zl)).trans q5
    have ok2 : ObjOk X.prog X.w (upd H s.heap.objs.size (.tup [x, y])) h2 s.heap.objs.size (.tup [x, y]) := ⟨by show 2 ≤ sizeLine; decide, [u, u2], .cons ru (.cons ru2 .nil), ⟨_, pair, rfl, _, rfl⟩⟩
    have out : ∀ c, c ∉ [z, TI, TO, i1, i2] → c ≠ z ∧ c ≠ TO ∧ c ≠ i1 ∧ c ≠ i2 := fun c hn => by
      simp only [List.mem_cons, List.not_mem_nil, or_false, not_or] at hn
      exact ⟨hn.1, hn.2.2.1, hn.2.2.2.1, hn.2.2.2.2⟩
    have J : Inv X pins σ (upd H s.heap.objs.size (.tup [x, y])) { s with heap := h2 } :=
      I.turnedNew (t' := s.toks) (ch := [z, TI, TO, i1, i2]) (fun c o hb q => let ⟨n1, n2, n3, n4⟩ := out c hb; (sb.2 c n1).trans (q6 c o n1 n2 n3 n4 q)) hf (Nat.le_refl _) ok2
    refine ⟨.ref s.heap.objs.size, _, J, rfl, ⟨_, x, y, rfl, I.hok.fresh (Nat.le_refl _), rfl, fun l hl => by rw [I.tuple_inj hl hqx]; exact hx, fun l hl => by rw [I.list_inj hl hqy]; exact hy⟩, ⟨z2, ?_, ⟨u, u2, ?_⟩, ?_, ?_⟩, fun c hcm => ?_⟩
    · exact (sb.2 _ D.TIz).trans (q6 _ _ D.TIz D.TITO D.TIi1 D.TIi2 g2)
    · exact (sb.2 _ D.TOz).trans q2
    · exact q3.1.at fun o q => (sb.2 _ D.i1z).trans q
    · exact q4.1.at fun o q => (sb.2 _ D.i2z).trans q
    · have lt : c < s.heap.objs.size := by
        simp only [List.mem_cons, List.not_mem_nil, or_false] at hcm
        obtain ⟨o1, e1, _⟩ := g4
        obtain ⟨o2, e2, _⟩ := g5
        rcases hcm with rfl | rfl | rfl | rfl | rfl
        · exact zl
        · exact Heap.lt_size g2
        · exact Heap.lt_size g3
        · exact Heap.lt_size e1
        · exact Heap.lt_size e2
      rw [upd_ne (Nat.ne_of_lt lt)]
      exact (hf c hcm).1
  done := by
    rintro X rfl rfl rfl hc i pins s σ H E I hf ⟨g1, g2, ⟨x0, y0, g3⟩, g4, g5⟩ ⟨xs, ys, hqx, hqy, hend⟩
    obtain ⟨us, rv, p, _⟩ := I.tuple hqx
    obtain ⟨ws, rv2, p2, _⟩ := I.list hqy
    have n1 := rv.length
    have n2 := rv2.length
    refine nextZ_end (runs_tup (i := i1) (l := a) (xs := us.toArray) (Ne.symm D.l1i1)) (runs_lst (i := i2) (l := b) (xs := ws.toArray) (Ne.symm D.l2i2)) (I.ok.hd hc) D g1 g2 g3 ⟨g4, p⟩ ⟨g5, p2.isList⟩ ?_ fun h' q6 => ⟨rfl, ?_⟩
    · rcases hend with q | q
      · exact .inl (by simp; omega)
      · exact .inr (by simp; omega)
    · refine I.turnedL (t' := s.toks) (ch := [z, TI, TO, i1, i2]) (fun c o hn q => ?_) hf
      simp only [List.mem_cons, List.not_mem_nil, or_false, not_or] at hn
      exact q6 c o hn.1 hn.2.2.1 hn.2.2.2.1 hn.2.2.2.2 q
section
variable {prog : Program} {w : World} {A : Around} {E : Value → Shared → Prop} {s : Shared}
abbrev hpTL1 (h : Heap) (l1 : Addr) : Heap := h.push { cls := .type "tuple_iterator", data := .fields #[.ref l1, .int 0 0] }
abbrev hpTL2 (h : Heap) (l1 l2 : Addr) : Heap := (hpTL1 h l1).push { cls := .type "list_iterator", data := .fields #[.ref l2, .int 0 0] }
abbrev hpTL3 (h : Heap) (l1 l2 : Addr) : Heap := (hpTL2 h l1 l2).push { cls := .type "tuple", data := .seq #[.ref h.objs.size, .ref (hpTL1 h l1).objs.size] }
abbrev hpTL4 (h : Heap) (l1 l2 : Addr) : Heap := (hpTL3 h l1 l2).push { cls := .type "tuple", data := .seq #[.none, .none] }
abbrev hpTL5 (h : Heap) (l1 l2 : Addr) : Heap := (hpTL4 h l1 l2).push { cls := .type "zip", data := .fields #[.none, .bool false, .bool false, .ref (hpTL2 h l1 l2).objs.size, .ref (hpTL3 h l1 l2).objs.size] }
theorem newTL (l1 l2 : Addr) (xs ys : Array Value) :
    Meets (Builtin.«zip.__new__» ⟨[.type "zip", .ref l1, .ref l2], []⟩) (fun _ R s => s.heap.IsTuple l1 xs ∧ s.heap.IsList l2 ys ∧
      R (.ok (.ret (.ref (hpTL4 s.heap l1 l2).objs.size))) { s with heap := hpTL5 s.heap l1 l2 }) :=
  .of_wp fun prog w A R s h => by
    obtain ⟨hp, g, d, tk, os⟩ := s
    obtain ⟨t1, t2, h⟩ := h
    have hsub := sub_zip
    have u1 : Heap.IsTuple (Shared.heap ⟨hp, g, d, tk, os⟩) l1 xs := t1
    have u2 : Heap.IsList (Shared.heap ⟨hp.push { cls := .type "tuple_iterator", data := .fields #[.ref l1, .int 0 0] }, g, d, tk, os⟩) l2 ys := Heap.IsList.push t2 _
    wp_walk using wpAny_pyIter_tuple u1, wpAny_pyIter_list u2
    exact ⟨_, rfl, h⟩
theorem callTL {l1 l2 : Addr} {xs ys : Array Value} {Q : Value → Shared → Prop} (t1 : s.heap.IsTuple l1 xs) (t2 : s.heap.IsList l2 ys)
    (h : ∀ h', IsZip h' (s.heap.objs.size + 4) (s.heap.objs.size + 2) (s.heap.objs.size + 3) .none → IsPair h' (s.heap.objs.size + 2) (.ref s.heap.objs.size) (.ref (s.heap.objs.size + 1)) →
      IsPair h' (s.heap.objs.size + 3) .none .none → h'.IsTupleIter s.heap.objs.size l1 0 → h'.IsListIter (s.heap.objs.size + 1) l2 0 → (∀ c o, s.heap.get? c = some o → h'.get? c = some o) → Q (.ref (s.heap.objs.size + 4)) { s with heap := h' }) :
    wpAny (model prog w) A (call (.type "zip") [.ref l1, .ref l2]) Q E s := by
  refine callType_new F.called_zip (by decide) (F.typeCall_zip_2 _ _) (F.newCall_zip_2 _ _) (fun obj => F.args_object_init_3 obj _ _) F.entry_zip_new (newTL l1 l2 xs ys) ⟨t1, t2, ?_⟩
  generalize hn : s.heap.objs.size = n at h
  have n1 : (hpTL1 s.heap l1).objs.size = n + 1 := by rw [Heap.size_push, hn]
  have n2 : (hpTL2 s.heap l1 l2).objs.size = n + 2 := by rw [Heap.size_push, n1]
  have n3 : (hpTL3 s.heap l1 l2).objs.size = n + 3 := by rw [Heap.size_push, n2]
  have n4 : (hpTL4 s.heap l1 l2).objs.size = n + 4 := by rw [Heap.size_push, n3]
  have up : ∀ {h : Heap} {c : Addr} {o o' : Obj}, h.get? c = some o → (h.push o').get? c = some o := fun e => Heap.get?_push_of_some _ e
  have at' : ∀ {h : Heap} {o : Obj} {m : Nat}, h.objs.size = m → o.isFreed = false → (h.push o).get? m = some o := fun e f => by subst e; exact Heap.get?_push_size _ f
  have o5 : (hpTL5 s.heap l1 l2).get? (n + 4) = some { cls := .type "zip", data := .fields #[.none, .bool false, .bool false, .ref (n + 2), .ref (n + 3)] } := (at' n4 rfl).trans (by rw [n2, n3])
  have o4 : (hpTL5 s.heap l1 l2).get? (n + 3) = _ := up (at' (o := { cls := .type "tuple", data := .seq #[.none, .none] }) n3 rfl)
  have o3 : (hpTL5 s.heap l1 l2).get? (n + 2) = _ := up (up (at' (o := { cls := .type "tuple", data := .seq #[.ref s.heap.objs.size, .ref (hpTL1 s.heap l1).objs.size] }) n2 rfl))
  have o2 : (hpTL5 s.heap l1 l2).get? (n + 1) = _ := up (up (up (at' (o := { cls := .type "list_iterator", data := .fields #[.ref l2, .int 0 0] }) n1 rfl)))
  have o1 : (hpTL5 s.heap l1 l2).get? n = _ := up (up (up (up (at' (o := { cls := .type "tuple_iterator", data := .fields #[.ref l1, .int 0 0] }) hn rfl))))
  rw [hn, n1] at o3
  show _ ∧ _
  rw [n4]
  exact ⟨⟨_, o5, rfl⟩, h _ o5 o3 o4 ⟨_, o1, rfl, rfl⟩ ⟨_, o2, rfl, rfl⟩ fun c o e => up (up (up (up (up e))))⟩
end
/-- zip of a tuple and a list, walked -/
def iTL (K : PySem.W.Frag) (ta : TA) : TI := fun σ H R => ta σ H fun vs H1 => ∃ a b xs ys, vs = [.ref a, .ref b] ∧ SqT K H1 a xs ∧ SqL K H1 b ys ∧ R (ItTL K a b) H1
theorem pi_TL {X : Cx} {e e2 : Expr} {ta : TA} {p pos tpos : Pos} {elts : List Expr} {kk : Nat} (hg : Gl X "zip") (hm : X.mg "zip" = none) (ha : PA X [e, e2] ta)
    (hs : starEach [e, e2] X.env = (false, eval e X.env) :: starEach [e2] X.env := by rfl) (hpl : (backTo pos (starEach [e2] X.env)).any (·.1) = false := by rfl) :
    PI X (.Tuple elts kk tpos) (.Call (.Name "zip" p) [e, e2] [] pos) (iTL X.K ta) := ⟨fun pins s σ H R I h => by
  refine Call_ (ld_blt I hg hm PyProof.Rows.boot_zip (PyProof.Rows.callWith_type1 (thn (ha.run pos pins s σ H _ I h) ?_) hs hpl))
  rintro us s1 ⟨vs, H1, I1, r1, a, b, xs, ys, rfl, hqx, hqy, q⟩
  cases r1 with
  | cons r rr => cases rr with
    | cons r' rr =>
      cases rr; cases r; cases r'
      obtain ⟨ts, _, p1, _⟩ := I1.tuple hqx
      obtain ⟨ls, _, p2, _⟩ := I1.list hqy
      have lt1 : a < s1.heap.objs.size := let ⟨_, e, _⟩ := p1; Heap.lt_size e
      have lt2 : b < s1.heap.objs.size := p2.lt
      generalize hn : s1.heap.objs.size = n at lt1 lt2
      refine callTL p1 p2.isList fun h' g1 g2 g3 g4 g5 kept => wpAny_pyIter_zip g1 ?_
      rw [hn] at g1 g2 g3 g4 g5
      have fresh : ∀ c ∈ [n + 4, n + 2, n + 3, n, n + 1], FpOk X pins H1 c := fun c hc => by
        have le : s1.heap.objs.size ≤ c := by
          simp only [List.mem_cons, List.not_mem_nil, or_false] at hc
          rw [hn]; omega
        exact I1.fpOk le (I1.hok.fresh le)
      rw [hn]
      exact ⟨n + 4, [n + 4, n + 2, n + 3, n, n + 1], _, _, H1, rfl, I1.kept (t' := s1.toks) kept, turn_TL (PySem.W.ktu_apart n a b lt1 lt2), ⟨g1, g2, ⟨_, _, g3⟩, g4, g5⟩, fresh, q⟩⟩
theorem walk_TL {K : PySem.W.Frag} {a b : Addr} {xs ys : List V} {n : Nat} (hn : n = min xs.length ys.length) : Walk (ItTL K a b) n (fun H => SqT K H a xs ∧ SqL K H b ys) (YPair (fun i => xs[i]?) (fun i => ys[i]?)) := by
  refine ⟨fun i _ hi ⟨q1, q2⟩ => ?_, fun _ ⟨q1, q2⟩ => ⟨xs, ys, q1, q2, by omega⟩, fun i H v H' _ ⟨q1, q2⟩ ⟨q, x, y, h1, h2, h3, h4, h5⟩ => ⟨q, x, y, h1, h2, h3, h4 xs q1, h5 ys q2⟩⟩
  have l1 : i < xs.length := by omega
  have l2 : i < ys.length := by omega
  exact ⟨xs, ys, xs[i], ys[i], q1, q2, List.getElem?_eq_getElem l1, List.getElem?_eq_getElem l2⟩
def iZTL (fs : DL') : DL' := fun ρ Q E => fs ρ (fun ds => match ds with | [.tuple xs, .list ys] => Q (zipD xs ys) | _ => False) E
theorem pi_zipTLD {X : Cx} {W : WX} {e e2 : Expr} {fs : DL'} {p pos tpos : Pos} {elts : List Expr} {kk : Nat} (hm : X.mg "zip" = none) (ha : PA X [e, e2] (tS X.kw W fs)) (hg : Gl X "zip" := by rfl)
    (hs : starEach [e, e2] X.env = (false, eval e X.env) :: starEach [e2] X.env := by rfl) (hpl : (backTo pos (starEach [e2] X.env)).any (·.1) = false := by rfl) :
    PI X (.Tuple elts kk tpos) (.Call (.Name "zip" p) [e, e2] [] pos) (tI X.kw true W (iZTL fs)) :=
  PI.weak (pi_TL hg hm ha hs hpl) fun σ H R ⟨C, F, ρ, Qd, Ed, S, h, k, x⟩ => ⟨C, F, ρ, _, Ed, S, h, fun F1 H1 vs ds S1 s1 i1 q => by
    split at q
    · cases i1 with | cons a t => cases t with | cons b t => cases t; cases a with | tup e1 z1 t1 => cases b with | lst e2 z2 t2 =>
        refine ⟨_, _, _, _, rfl, sqT_mono S1.le e1.sq, .of (S1.le _ _ e2), k F1 H1 _ _ S1 s1 (by rw [zipD_length, ← t1.length]; omega) ?_ q⟩
        rw [zipD_length, ← t1.length, ← t2.length]
        refine walk_pair (walk_TL rfl) (fun H hH => ⟨sqT_mono hH e1.sq, .of (hH _ _ e2)⟩) fun i u v h1 h2 => ?_
        obtain ⟨dx, g1, i1⟩ := t1.get h1
        obtain ⟨dy, g2, i2⟩ := t2.get h2
        exact ⟨dx, dy, i1, i2, zipD_get g1 g2⟩
    · exact q.elim, x⟩
end DL
set_option Elab.async false
set_option linter.all false
set_option maxRecDepth 100000
set_option maxHeartbeats 4000000
/-! DL, the data layer (16): sorted, of any data that are alike -/
namespace DL
open PySem PySem.Spec PyProof.Rows L2
/-- sorted(xs): texts, tuples that are alike, .. -/
def gSortA : List PyData → (List PyData → Prop) → Prop := fun ds Q => ∃ xs, ds = [.list xs] ∧ PySem.W.AllAlike xs ∧ PySem.W.Sortable xs ∧ (∀ d ∈ xs, d.depth ≤ 100) ∧ Q (xs.mergeSort (PySem.W.dataLe false id))
def rSortA (K : KW) : List V → Hp → VK → Prop := fun vs H Q => ∃ (a : Addr) (F : Hp) (us : List V) (xs : List PyData), vs = [V.ref a] ∧ Same F H ∧ SqL K.K H a us ∧ IsAll K F us xs ∧ PySem.W.AllAlike xs ∧ PySem.W.Sortable xs ∧ (∀ d ∈ xs, d.depth ≤ 100) ∧
  ∀ (ws : List V) (p : Addr), IsAll K F ws (xs.mergeSort (PySem.W.dataLe false id)) → H p = none → Q (.ref p) (upd H p (.lst ws))
section
variable {X : Cx} {pins : List (Addr × Obj)} {σ : L2.St} {H F : Hp} {s : Shared}
/-- an item: the value of the frame, the datum -/
abbrev Itm := V × PyData
theorem each_itm {K : KW} (hK : K = X.kw) (I : Inv X pins σ H s) (le : Same F H) : ∀ {us : List V} {xs : List PyData} {its : List Value}, IsAll K F us xs → Vals us its →
    ∃ bs : List Itm, bs.map (·.1) = us ∧ bs.map (·.2) = xs ∧ PySem.W.EachIs (fun u b => RelV b.1 u ∧ Is K F b.1 b.2) its bs ∧ PySem.W.EachIs (fun u b => ∃ as, Reads s.heap u b.2 as) its bs
  | _, _, _, .nil, .nil => ⟨[], rfl, rfl, .nil, .nil⟩
  | _, _, _, .cons (v := v) (d := d) h t, .cons r rs => by
    subst hK
    obtain ⟨bs, e1, e2, e3, e4⟩ := each_itm rfl I le t rs
    exact ⟨(v, d) :: bs, by rw [List.map_cons, e1], by rw [List.map_cons, e2], .cons ⟨r, h⟩ e3, .cons ((is_lies I le d v _ h r).reads) e4⟩
theorem itm_back {K : KW} : ∀ {out : List Value} {bs : List Itm}, PySem.W.EachIs (fun u b => RelV b.1 u ∧ Is K F b.1 b.2) out bs → Vals (bs.map (·.1)) out ∧ IsAll K F (bs.map (·.1)) (bs.map (·.2))
  | _, _, .nil => ⟨.nil, .nil⟩
  | _, _, .cons h t => let ⟨h1, h2⟩ := itm_back t; ⟨.cons h.1 h1, .cons h.2 h2⟩
theorem cr_sortA (hu : X.A.units + 200 < cLine) : CallR X (.builtin "sorted") (rSortA X.kw) := by
  intro pins s σ H vs us Q I r ⟨a, F, xs, ds, e, le, hs, t, al, so, dp, q⟩
  subst e
  obtain ⟨its, rv, hl, z⟩ := I.list hs
  rw [Vals.ref1 r]
  obtain ⟨bs, e1, e2, e3, e4⟩ := each_itm rfl I le t rv
  have lb : bs.length = xs.length := by rw [← e1, List.length_map]
  refine PySem.W.sorted_data (β := Itm) (enc := fun b => b.2) hl.isList e3 e4 (by rw [e2]; exact al) (by rw [e2]; exact so) (by rw [lb]; exact z) (fun b hb => ?_) fun out lo ho => ?_
  · have := dp b.2 (by rw [← e2]; exact List.mem_map.mpr ⟨b, hb, rfl⟩)
    omega
  obtain ⟨ep, he'⟩ := PyProof.Rows.sortedAll_at s.heap its out.toArray
  obtain ⟨g1, g2⟩ := itm_back ho
  have em : (bs.mergeSort (PySem.W.dataLe false fun b => b.2)).map (·.2) = ds.mergeSort (PySem.W.dataLe false id) := by
    rw [← e2]
    exact List.map_mergeSort fun x _ y _ => rfl
  rw [em] at g2
  have hz : ((bs.mergeSort (PySem.W.dataLe false fun b => b.2)).map (·.1)).length ≤ sizeLine := by
    rw [List.length_map, List.length_mergeSort, lb]; exact z
  exact ⟨.ref _, upd H (s.heap.objs.size + 1) (.lst _), I.laid (t' := s.toks) (fun _ _ => PyProof.Rows.sortedAll_old) (Nat.le_succ _) ⟨hz, out, ep, g1, he'⟩, rfl, q _ _ g2 (I.hok.fresh (Nat.le_succ _))⟩
theorem d_sortA : CallF X (rSortA X.kw) gSortA := by
  intro C F H σ ρ vs ds Qz Q S h ⟨xs, e, al, so, dp, q⟩ k
  subst e
  obtain ⟨v, rfl, o⟩ := allO_1 h
  obtain ⟨a, us, rfl, e, z, t⟩ := isO_list S.le o
  refine ⟨a, F, us, xs, rfl, S.le, .of e, t, al, so, dp, fun ws p hw hp => ?_⟩
  have ap := S.new hp
  have lw : ws.length = us.length := by rw [hw.length, List.length_mergeSort, t.length]
  exact k F _ p _ _ (S.fresh hp) (Same.refl _) ⟨ap.f, ap.h0, ap.bg, ap.no⟩ upd_same (by rw [lw]; exact z) hw q
end
end DL
set_option Elab.async false
set_option linter.all false
set_option maxRecDepth 100000
set_option maxHeartbeats 4000000
/-! DT, dicts whose keys are tuples: what the library's rules say of them -/
namespace DL
open PySem PySem.Spec PyProof.Rows L2
section
variable {X : Cx} {pins : List (Addr × Obj)} {σ : L2.St} {F H : Hp} {s : Shared}
theorem nkeys_cons {d : PyData} {ds : List PyData} {ks : List NestedKey} (h : nkeys (d :: ds) = some ks) : ∃ k r, nkey d = some k ∧ nkeys ds = some r ∧ ks = k :: r := by
  unfold nkeys at h
  split at h
  · rename_i k r e1 e2
    cases h
    exact ⟨k, r, e1, e2, rfl⟩
  · cases h
theorem nkey_tup {ds : List PyData} {k : NestedKey} (h : nkey (.tuple ds) = some k) : ∃ ks, nkeys ds = some ks ∧ k = .tup ks := by
  unfold nkey at h
  cases e : nkeys ds with
  | none => rw [e] at h; cases h
  | some ks => rw [e] at h; cases h; exact ⟨ks, rfl, rfl⟩
mutual
theorem is_nest (I : Inv X pins σ H s) (le : Same F H) : ∀ (d : PyData) (v : V) (u : Value) (k : NestedKey), Is X.kw F v d → RelV v u → nkey d = some k → NestedIs s.heap k u
  | .none, _, _, _, h, r, e => by cases h; cases r; cases e; exact .none
  | .bool b, _, _, _, h, r, e => by cases h; cases r; cases e; exact .bool rfl
  | .int i, _, _, _, h, r, e => by cases h; obtain ⟨t, rfl⟩ := r; cases e; exact .int i t
  | .str x, _, _, _, h, r, e => by cases h; obtain ⟨t, rfl⟩ := r; cases e; exact .text x t
  | .tuple ds, _, _, _, h, r, e => by
    obtain ⟨ks, e1, rfl⟩ := nkey_tup e
    cases h with
    | tup e0 z t =>
      cases r
      obtain ⟨its, rv, ⟨o, ho, hc, n, hd⟩, _⟩ := I.tuple (sqT_mono le e0.sq)
      exact .tup ho hc hd (by simpa using isAll_nest I le ds _ its ks t rv e1)
theorem isAll_nest (I : Inv X pins σ H s) (le : Same F H) : ∀ (ds : List PyData) (vs : List V) (us : List Value) (ks : List NestedKey), IsAll X.kw F vs ds → Vals vs us → nkeys ds = some ks → NestedAll s.heap ks us
  | [], _, _, _, h, r, e => by cases h; cases r; cases e; exact .nil
  | d :: ds, _, _, _, h, r, e => by
    obtain ⟨k, ks, e1, e2, rfl⟩ := nkeys_cons e
    cases h with | cons a t => cases r with | cons r1 r2 => exact .cons (is_nest I le d _ _ k a r1 e1) (isAll_nest I le ds _ _ ks t r2 e2)
end
theorem ent_keys : ∀ {xs : List TEnt} {us : List (NestedKey × Addr × Value)}, EntIs xs us → us.map (·.1) = xs.map (·.1)
  | _, _, .nil => rfl
  | _, _, .cons h t => by
    have ih := ent_keys t
    rw [List.map_cons, List.map_cons, ih, h.1]
theorem ent_length {xs : List TEnt} {us : List (NestedKey × Addr × Value)} (h : EntIs xs us) : us.length = xs.length := by
  have := congrArg List.length (ent_keys h)
  simpa using this
theorem ent_keys_are (I : Inv X pins σ H s) (le : Same F H) : ∀ {xs : List TEnt} {us : List (NestedKey × Addr × Value)} {kvs : List (PyData × PyData)}, EntIs xs us → IsKt X.kw F xs kvs → ∀ x ∈ us, (nestedKind X.prog X.w).is s.heap x.1 x.2.1
  | _, _, _, .nil, _, _, hx => nomatch hx
  | _, _, _, .cons h t, ik, x, hx => by
    cases ik with
    | cons e z a b r =>
      rcases List.mem_cons.mp hx with q | q
      · subst q
        rw [← h.1, ← h.2.1]
        exact ⟨is_nest I le _ _ _ _ a rfl e, z⟩
      · exact ent_keys_are I le t r x q
/-- the dict, as the library tells it -/
theorem td_of {a : Addr} {xs : List TEnt} {kvs : List (PyData × PyData)} (I : Inv X pins σ H s) (le : Same F H) (e : H a = some (TD X.w a xs)) (nd : (xs.map (·.1)).Nodup) (t : IsKt X.kw F xs kvs) :
    (a == sysModules) = false ∧ ∃ us, EntIs xs us ∧ s.heap.DictOfH (nestedKind X.prog X.w) a us := by
  obtain ⟨⟨y, o, es, ep, us, ho, hx, hd, he, r⟩, _⟩ := (show ObjOk X.prog X.w H s.heap a (TD X.w a xs) from I.hok a _ e)
  exact ⟨y, us, r, o, es, ep, ho, hx, hd, he, ent_keys_are I le r t, by rw [ent_keys r]; exact nd⟩
theorem td_back {h : Heap} {a : Addr} {xs : List TEnt} {us : List (NestedKey × Addr × Value)} {H : Hp} {P : Program} {w : World} (y : (a == sysModules) = false) (r : EntIs xs us) (d : h.DictOfH (nestedKind P w) a us) : ObjOk P w H h a (TD w a xs) := by
  obtain ⟨o, es, ep, ho, hx, hd, he, _, _⟩ := d
  exact tdOk_of ⟨y, o, es, ep, us, ho, hx, hd, he, r⟩
/-- the value at a key -/
def lookT : List (PyData × PyData) → NestedKey → Option PyData
  | [], _ => none
  | (kd, d) :: r, k => if nkey kd = some k then some d else lookT r k
theorem atKey_cons {x : NestedKey × Addr × Value} {us : List (NestedKey × Addr × Value)} {k : NestedKey} : atKey (x :: us) k = if x.1 = k then some x.2 else atKey us k := by
  unfold atKey
  rw [List.find?_cons]
  by_cases e : x.1 = k
  · simp [e]
  · simp [e]
theorem at_none {K : KW} {k : NestedKey} : ∀ {xs : List TEnt} {us : List (NestedKey × Addr × Value)} {kvs : List (PyData × PyData)}, EntIs xs us → IsKt K F xs kvs → lookT kvs k = none → atKey us k = none
  | _, _, _, .nil, .nil, _ => rfl
  | _, _, _, .cons h t, .cons e z a b r, l => by
    unfold lookT at l
    rw [e] at l
    split at l
    · cases l
    · rename_i ne
      rw [atKey_cons, if_neg (fun q => ne (by rw [← q, ← h.1]))]
      exact at_none t r l
theorem at_some {K : KW} {k : NestedKey} {d : PyData} : ∀ {xs : List TEnt} {us : List (NestedKey × Addr × Value)} {kvs : List (PyData × PyData)}, EntIs xs us → IsKt K F xs kvs → lookT kvs k = some d → ∃ b v u, atKey us k = some (b, u) ∧ RelV v u ∧ Is K F v d
  | _, _, _, .nil, .nil, l => by cases l
  | _, _, _, .cons h t, .cons e z a b r, l => by
    unfold lookT at l
    rw [e] at l
    split at l
    · rename_i q
      cases l
      cases q
      rw [atKey_cons, if_pos h.1.symm]
      exact ⟨_, _, _, rfl, h.2.2, b⟩
    · rename_i ne
      rw [atKey_cons, if_neg (fun q => ne (by rw [← q, ← h.1]))]
      exact at_some t r l
end
end DL
set_option Elab.async false
set_option linter.all false
set_option maxRecDepth 100000
set_option maxHeartbeats 4000000
/-! DD, dicts by any keys (1): get, in, set, setdefault, by values -/
namespace DL
open PySem PySem.Spec PyProof.Rows L2
/-! ### keys -/
def TupK (kvs : List (PyData × PyData)) : Prop := (kvs.all fun p => isTup p.1) = true
/-- k may be asked for in kvs; n is what tables see of it -/
def KeyAt (kvs : List (PyData × PyData)) (k : PyData) (n : NestedKey) : Prop := nkey k = some n ∧ ((plainK k = true ∧ PlainK kvs) ∨ (isTup k = true ∧ TupK kvs ∧ n.depth ≤ 8))
def keyN : Key → NestedKey
  | .inl i => .num i
  | .inr x => .text x
theorem keyN_inj {a b : Key} (e : keyN a = keyN b) : a = b := by
  cases a <;> cases b <;> simp only [keyN] at e <;> first | (cases e; rfl) | cases e
theorem nkey_keyD (k : Key) : nkey (keyD k) = some (keyN k) := by cases k <;> rfl
theorem plain_key {k : PyData} {n : NestedKey} (p : plainK k = true) (e : nkey k = some n) : ∃ key : Key, k = keyD key ∧ n = keyN key := by
  cases k with
  | int i => cases e; exact ⟨.inl i, rfl, rfl⟩
  | str x => cases e; exact ⟨.inr x, rfl, rfl⟩
  | _ => cases p
theorem plainK_keyD (k : Key) : plainK (keyD k) = true := by cases k <;> rfl
theorem isTup_keyD (k : Key) : isTup (keyD k) = false := by cases k <;> rfl
/-- the dict with the key k at d -/
def putT (kvs : List (PyData × PyData)) (k : PyData) (n : NestedKey) (d : PyData) : List (PyData × PyData) :=
  if (lookT kvs n).isSome = true then kvs.map (fun p => if nkey p.1 = some n then (p.1, d) else p) else kvs ++ [(k, d)]
section
variable {K : KW} {F H : Hp}
theorem isKv_plain : ∀ {ks : List (Key × V)} {kvs : List (PyData × PyData)}, IsKv K F ks kvs → PlainK kvs
  | _, _, .nil => rfl
  | _, _, .cons (k := k) a t => by
    have := isKv_plain t
    unfold PlainK at this ⊢
    rw [List.all_cons, this, plainK_keyD]; rfl
theorem isKt_tup : ∀ {xs : List TEnt} {kvs : List (PyData × PyData)}, IsKt K F xs kvs → TupK kvs
  | _, _, .nil => rfl
  | _, _, .cons e z a b t => by
    have := isKt_tup t
    unfold TupK at this ⊢
    rw [List.all_cons, this]; rfl
theorem isKt_length : ∀ {xs : List TEnt} {kvs : List (PyData × PyData)}, IsKt K F xs kvs → xs.length = kvs.length
  | _, _, .nil => rfl
  | _, _, .cons _ _ _ _ t => by rw [List.length_cons, List.length_cons, isKt_length t]
theorem plain_tup_nil {kvs : List (PyData × PyData)} (p : PlainK kvs) (t : TupK kvs) : kvs = [] := by
  cases kvs with
  | nil => rfl
  | cons x r =>
    obtain ⟨k, v⟩ := x
    simp only [PlainK, TupK, List.all_cons, Bool.and_eq_true] at p t
    cases k <;> first | (cases p.1; done) | (cases t.1; done)
theorem kv_look (key : Key) : ∀ {ks : List (Key × V)} {kvs : List (PyData × PyData)}, IsKv K F ks kvs →
    (lookT kvs (keyN key) = none ∧ valV ks key = none) ∨ ∃ d v, lookT kvs (keyN key) = some d ∧ valV ks key = some v ∧ Is K F v d
  | _, _, .nil => .inl ⟨rfl, rfl⟩
  | _, _, .cons (k := k) (v := v) (d := d) (ks := ks) (kvs := kvs) a t => by
    by_cases e : k = key
    · subst e
      refine .inr ⟨d, v, ?_, valV_pos rfl, a⟩
      unfold lookT
      rw [if_pos (nkey_keyD k)]
    · have ne : ¬ nkey (keyD k) = some (keyN key) := fun q => by
        rw [nkey_keyD] at q
        exact e (keyN_inj (Option.some.inj q))
      have l : lookT ((keyD k, d) :: kvs) (keyN key) = lookT kvs (keyN key) := by
        rw [lookT, if_neg ne]
      rw [l, valV_neg (p := (k, v)) e]
      exact kv_look key t
theorem isKv_map (key : Key) {v : V} {d : PyData} (h : Is K F v d) : ∀ {ks : List (Key × V)} {kvs : List (PyData × PyData)}, IsKv K F ks kvs →
    IsKv K F (ks.map fun kv => if kv.1 = key then (kv.1, v) else kv) (kvs.map fun p => if nkey p.1 = some (keyN key) then (p.1, d) else p)
  | _, _, .nil => .nil
  | _, _, .cons (k := k) a t => by
    have ih := isKv_map key h t
    rw [List.map_cons, List.map_cons]
    by_cases e : k = key
    · rw [if_pos e, if_pos (by rw [e]; exact nkey_keyD key)]
      exact .cons h ih
    · rw [if_neg e, if_neg (fun q => by rw [nkey_keyD] at q; exact e (keyN_inj (Option.some.inj q)))]
      exact .cons a ih
theorem isKv_snoc {key : Key} {v : V} {d : PyData} (h : Is K F v d) : ∀ {ks : List (Key × V)} {kvs : List (PyData × PyData)}, IsKv K F ks kvs → IsKv K F (ks ++ [(key, v)]) (kvs ++ [(keyD key, d)])
  | _, _, .nil => .cons h .nil
  | _, _, .cons a t => .cons a (isKv_snoc h t)
theorem isKv_put (key : Key) {v : V} {d : PyData} (h : Is K F v d) {ks : List (Key × V)} {kvs : List (PyData × PyData)} (t : IsKv K F ks kvs) : IsKv K F (putK ks key v) (putT kvs (keyD key) (keyN key) d) := by
  unfold putK putT
  rw [valV_any]
  rcases kv_look key t with ⟨e1, e2⟩ | ⟨d', v', e1, e2, _⟩
  · rw [e1, e2, if_neg (by decide), if_neg (by decide)]
    exact isKv_snoc h t
  · rw [e1, e2]
    simp only [Option.isSome_some, if_true]
    exact isKv_map key h t
theorem putK_keys {ks : List (Key × V)} {key : Key} {v : V} (nd : (ks.map (·.1)).Nodup) : ((putK ks key v).map (·.1)).Nodup := by
  unfold putK
  split
  · have e : (ks.map fun kv => if kv.1 = key then (kv.1, v) else kv).map (·.1) = ks.map (·.1) := by
      rw [List.map_map]
      refine List.map_congr_left fun p _ => ?_
      show (if p.1 = key then (p.1, v) else p).1 = p.1
      split <;> rfl
    rw [e]; exact nd
  · rename_i h
    rw [List.map_append, List.nodup_append]
    refine ⟨nd, by simp, fun a ha b hb e => ?_⟩
    subst e
    obtain ⟨p, hp, e⟩ := List.mem_map.mp ha
    rw [List.map_cons, List.map_nil, List.mem_singleton] at hb
    exact h (List.any_eq_true.mpr ⟨p, hp, by rw [e, hb]; simp⟩)
theorem lookT_put {kvs : List (PyData × PyData)} {k d : PyData} {n m : NestedKey} (hk : nkey k = some n) : lookT (putT kvs k n d) m = if m = n then some d else lookT kvs m := by
  have map : ∀ l : List (PyData × PyData), lookT (l.map fun p => if nkey p.1 = some n then (p.1, d) else p) m = if m = n then (lookT l m).map (fun _ => d) else lookT l m := by
    intro l
    induction l with
    | nil => simp [lookT]
    | cons p l ih =>
      obtain ⟨a, b⟩ := p
      rw [List.map_cons]
      by_cases ea : nkey a = some n
      · simp only [ea, if_true, lookT]
        by_cases em : m = n
        · subst em; simp
        · have : ¬ n = m := fun z => em z.symm
          simp only [Option.some.injEq, this, if_false, em]
          rw [ih, if_neg em]
      · simp only [ea, if_false, lookT]
        by_cases eb : nkey a = some m
        · simp only [eb, if_true]
          have : ¬ m = n := fun z => ea (by rw [eb, z])
          simp [this]
        · simp only [eb, if_false]
          exact ih
  have app : ∀ l : List (PyData × PyData), lookT (l ++ [(k, d)]) m = match lookT l m with | some x => some x | none => if m = n then some d else none := by
    intro l
    induction l with
    | nil =>
      simp only [List.nil_append, lookT, hk, Option.some.injEq]
      by_cases e : m = n
      · subst e; simp
      · have : ¬ n = m := fun z => e z.symm
        simp [e, this]
    | cons p l ih =>
      obtain ⟨a, b⟩ := p
      rw [List.cons_append]
      by_cases ea : nkey a = some m
      · simp [lookT, ea]
      · simp only [lookT, ea, if_false]; exact ih
  unfold putT
  split
  · rename_i h
    rw [map]
    by_cases e : m = n
    · subst e
      rw [if_pos rfl, if_pos rfl]
      cases q : lookT kvs m with
      | none => rw [q] at h; cases h
      | some x => rfl
    · rw [if_neg e, if_neg e]
  · rename_i h
    rw [app]
    by_cases e : m = n
    · subst e
      rw [if_pos rfl]
      cases q : lookT kvs m with
      | none => simp
      | some x => rw [q] at h; exact absurd rfl h
    · rw [if_neg e]
      cases lookT kvs m with
      | none => simp [e]
      | some x => simp [e]
/-! ### .. whose keys are tuples -/
def putX (xs : List TEnt) (n : NestedKey) (b : Addr) (v : V) : List TEnt :=
  if (xs.any fun x => decide (x.1 = n)) = true then xs.map (fun x => if x.1 = n then (x.1, x.2.1, v) else x) else xs ++ [(n, b, v)]
theorem kt_any {n : NestedKey} : ∀ {xs : List TEnt} {kvs : List (PyData × PyData)}, IsKt K F xs kvs → (xs.any fun x => decide (x.1 = n)) = (lookT kvs n).isSome
  | _, _, .nil => rfl
  | _, _, .cons (k := k) e z a b t => by
    rw [List.any_cons, kt_any t, lookT, e]
    by_cases q : k = n
    · subst q; simp
    · simp [q]
theorem isKt_put {n : NestedKey} {b : Addr} {v : V} {cs : List PyData} {d : PyData} (e : nkey (.tuple cs) = some n) (z : n.depth ≤ 8) (hb : Is K F (.ref b) (.tuple cs)) (h : Is K F v d) {xs : List TEnt} {kvs : List (PyData × PyData)} (t : IsKt K F xs kvs) :
    IsKt K F (putX xs n b v) (putT kvs (.tuple cs) n d) := by
  unfold putX putT
  rw [kt_any t]
  have map : ∀ {xs : List TEnt} {kvs : List (PyData × PyData)}, IsKt K F xs kvs → IsKt K F (xs.map fun x => if x.1 = n then (x.1, x.2.1, v) else x) (kvs.map fun p => if nkey p.1 = some n then (p.1, d) else p) := by
    intro xs kvs t
    induction xs generalizing kvs with
    | nil => cases t; exact .nil
    | cons x xs ih =>
      cases t with
      | @cons k c _ _ _ _ _ e1 z1 a1 b1 t1 =>
        rw [List.map_cons, List.map_cons]
        by_cases q : k = n
        · subst q
          rw [if_pos rfl, if_pos e1]
          exact .cons e1 z1 a1 h (ih t1)
        · rw [if_neg q, if_neg (fun w => q (by rw [e1] at w; exact Option.some.inj w))]
          exact .cons e1 z1 a1 b1 (ih t1)
  have snoc : ∀ {xs : List TEnt} {kvs : List (PyData × PyData)}, IsKt K F xs kvs → IsKt K F (xs ++ [(n, b, v)]) (kvs ++ [(.tuple cs, d)]) := by
    intro xs kvs t
    induction xs generalizing kvs with
    | nil => cases t; exact .cons e z hb h .nil
    | cons x xs ih => cases t with | cons e1 z1 a1 b1 t1 => exact .cons e1 z1 a1 b1 (ih t1)
  split
  · exact map t
  · exact snoc t
theorem putX_keys {xs : List TEnt} {n : NestedKey} {b : Addr} {v : V} (nd : (xs.map (·.1)).Nodup) : ((putX xs n b v).map (·.1)).Nodup := by
  unfold putX
  split
  · have e : (xs.map fun x => if x.1 = n then (x.1, x.2.1, v) else x).map (·.1) = xs.map (·.1) := by
      rw [List.map_map]
      refine List.map_congr_left fun p _ => ?_
      show (if p.1 = n then (p.1, p.2.1, v) else p).1 = p.1
      split <;> rfl
    rw [e]; exact nd
  · rename_i h
    rw [List.map_append, List.nodup_append]
    refine ⟨nd, by simp, fun a ha c hc e => ?_⟩
    subst e
    obtain ⟨p, hp, e⟩ := List.mem_map.mp ha
    rw [List.map_cons, List.map_nil, List.mem_singleton] at hc
    exact h (List.any_eq_true.mpr ⟨p, hp, by rw [e, hc]; simp⟩)
theorem putX_length (xs : List TEnt) (n : NestedKey) (b : Addr) (v : V) : (putX xs n b v).length ≤ xs.length + 1 := by
  unfold putX
  split
  · rw [List.length_map]; omega
  · rw [List.length_append, List.length_singleton]; omega
theorem ent_any {n : NestedKey} : ∀ {xs : List TEnt} {us : List (NestedKey × Addr × Value)}, EntIs xs us → (xs.any fun x => decide (x.1 = n)) = (atKey us n).isSome
  | _, _, .nil => rfl
  | p :: xs, q :: us, .cons h t => by
    rw [List.any_cons, ent_any t, atKey_cons]
    by_cases e : p.1 = n
    · rw [if_pos (by rw [← h.1]; exact e)]; simp [e]
    · rw [if_neg (by rw [← h.1]; exact e)]; simp [e]
theorem ent_put {n : NestedKey} {b : Addr} {v : V} {u : Value} (r : RelV v u) {xs : List TEnt} {us : List (NestedKey × Addr × Value)} (h : EntIs xs us) : EntIs (putX xs n b v) (storedH us n b u) := by
  unfold putX storedH
  rw [ent_any h]
  have map : ∀ {xs : List TEnt} {us : List (NestedKey × Addr × Value)}, EntIs xs us → EntIs (xs.map fun x => if x.1 = n then (x.1, x.2.1, v) else x) (us.map (putAt n u)) := by
    intro xs us h
    induction h with
    | nil => exact .nil
    | @cons p q ps qs h t ih =>
      rw [List.map_cons, List.map_cons]
      refine .cons ?_ ih
      obtain ⟨h1, h2, h3⟩ := h
      unfold putAt
      by_cases e : p.1 = n
      · rw [if_pos e, if_pos (h1.symm.trans e)]; exact ⟨h1, h2, r⟩
      · rw [if_neg e, if_neg (fun z => e (h1.trans z))]; exact ⟨h1, h2, h3⟩
  split
  · exact map h
  · exact Paired.snoc h ⟨rfl, rfl, r⟩
/-! ### a dict, in either form -/
def DctV (K : KW) (F H : Hp) (a : Addr) (kvs : List (PyData × PyData)) : Prop :=
  ∃ o, H a = some o ∧ DObj K F a kvs o
theorem isO_dct {v : V} {kvs : List (PyData × PyData)} (le : Same F H) (h : IsO K F H v (.dict kvs)) : ∃ a, v = .ref a ∧ DctV K F H a kvs := by
  rcases isO_dic le h with ⟨a, ks, e, r⟩ | ⟨a, xs, e, r⟩
  · exact ⟨a, e, _, r.1, .inl ⟨ks, rfl, r.2⟩⟩
  · exact ⟨a, e, _, r.1, .inr ⟨xs, rfl, r.2⟩⟩
theorem DctV.plain {a : Addr} {kvs : List (PyData × PyData)} (D : DctV K F H a kvs) (p : PlainK kvs) : ∃ ks, H a = some (.dK ks) ∧ ks.length ≤ sizeLine ∧ (ks.map (·.1)).Nodup ∧ IsKv K F ks kvs := by
  obtain ⟨o, e, ⟨ks, rfl, r⟩ | ⟨xs, _, _, ne, _, t⟩⟩ := D
  · exact ⟨ks, e, r⟩
  · exact absurd (isKt_plain t p) ne
end
section
variable {X : Cx} {pins : List (Addr × Obj)} {σ : L2.St} {F H : Hp} {s : Shared} {A : Around} {E : Value → Shared → Prop} {a : Addr} {kvs : List (PyData × PyData)} {k d : PyData} {n : NestedKey} {y : V} {uy : Value}
theorem DctV.nest (I : Inv X pins σ H s) (le : Same F H) (D : DctV X.kw F H a kvs) (t : TupK kvs) :
    (a == sysModules) = false ∧ ∃ xs us, xs.length ≤ sizeLine ∧ (xs.map (·.1)).Nodup ∧ IsKt X.kw F xs kvs ∧ EntIs xs us ∧ s.heap.DictOfH (nestedKind X.prog X.w) a us := by
  obtain ⟨o, e, ⟨ks, rfl, z, nd, ik⟩ | ⟨xs, rfl, z, _, nd, ik⟩⟩ := D
  · have e0 := plain_tup_nil (isKv_plain ik) t
    subst e0
    cases ik
    obtain ⟨z, hd, vs, rel, o, es, ep, ho, hx, hdat, hes⟩ := dk_of I.hok e
    cases rel
    refine ⟨hd, [], [], Nat.zero_le _, List.nodup_nil, .nil, .nil, o, es, ep, ho, hx, hdat, ?_, fun x hx => (nomatch hx), List.nodup_nil⟩
    have hes' := hes.2.1
    cases q : es.toList with
    | nil => rfl
    | cons p r => rw [q] at hes'; cases hes'
  · obtain ⟨hd, us, r, dd⟩ := td_of I le e nd ik
    exact ⟨hd, xs, us, z, nd, ik, r, dd⟩
theorem DctV.typ (I : Inv X pins σ H s) (D : DctV X.kw F H a kvs) : s.TypeIs (.ref a) "dict" ∧ ∀ b, Value.ref a = .ref b → ∃ ob, s.heap.get? b = some ob ∧ ob.dict = none := by
  obtain ⟨o, e, ⟨ks, rfl, _⟩ | ⟨xs, rfl, _⟩⟩ := D
  · obtain ⟨z, hd, vs, rel, o, es, ep, ho, hx, _⟩ := dk_of I.hok e
    exact ⟨⟨o, ho, hx.1⟩, fun b q => by cases q; exact ⟨o, ho, hx.2.1⟩⟩
  · obtain ⟨⟨_, o, _, _, _, h1, h2, _⟩, _⟩ := (show ObjOk X.prog X.w H s.heap a (TD X.w a xs) from I.hok a _ e)
    exact ⟨⟨o, h1, h2.1⟩, fun b q => by cases q; exact ⟨o, h1, h2.2.1⟩⟩
theorem at_isSome {K : KW} {F : Hp} {xs : List TEnt} {us : List (NestedKey × Addr × Value)} {kvs : List (PyData × PyData)} {n : NestedKey} (r : EntIs xs us) (ik : IsKt K F xs kvs) : (atKey us n).isSome = (lookT kvs n).isSome := by
  cases q : lookT kvs n with
  | none => rw [at_none r ik q]; rfl
  | some d => obtain ⟨c, v, u, e1, _⟩ := at_some r ik q; rw [e1]; rfl
/-- a key that is a tuple -/
theorem key_nest (I : Inv X pins σ H s) (le : Same F H) (hk : IsO X.kw F H y k) (ry : RelV y uy) (t : isTup k = true) (e : nkey k = some n) (z : n.depth ≤ 8) : ∃ b cs, y = .ref b ∧ uy = .ref b ∧ k = .tuple cs ∧ Is X.kw F (.ref b) (.tuple cs) ∧ (nestedKind X.prog X.w).is s.heap n b := by
  cases k with
  | tuple cs =>
    obtain ⟨b, xs, rfl, st, hz, t⟩ := isO_tup hk
    cases (show uy = Value.ref b from ry)
    have i : Is X.kw F (.ref b) (.tuple cs) := .tup st hz t
    exact ⟨b, cs, rfl, rfl, rfl, i, is_nest I le _ _ _ _ i rfl e, z⟩
  | _ => cases t
theorem key_plain (hk : IsO X.kw F H y k) (p : plainK k = true) (e : nkey k = some n) : ∃ key : Key, k = keyD key ∧ n = keyN key ∧ y = kV key := by
  obtain ⟨key, rfl, rfl⟩ := plain_key p e
  refine ⟨key, rfl, rfl, ?_⟩
  cases key with
  | inl i => exact isO_int hk
  | inr x => exact (isO_str hk).1
/-- d[k] -/
theorem dct_get {Q : Value → Shared → Prop} (hu : A.in1.units + 8 < cLine) (hu1 : A.units + 1 < cLine) (I : Inv X pins σ H s) (le : Same F H) (D : DctV X.kw F H a kvs) (hk : IsO X.kw F H y k) (ry : RelV y uy) (ka : KeyAt kvs k n) (hl : lookT kvs n = some d)
    (h : ∀ w w' s', Inv X pins σ H s' → RelV w w' → Is X.kw F w d → Q w' s') : wpAny (model X.prog X.w) A (getItem (.ref a) uy) Q E s := by
  obtain ⟨e, ⟨p, pk⟩ | ⟨t, tk, z⟩⟩ := ka
  · obtain ⟨key, rfl, rfl, rfl⟩ := key_plain hk p e
    obtain ⟨ks, eh, _, _, ik⟩ := D.plain pk
    rcases kv_look key ik with ⟨q, _⟩ | ⟨d', v, q1, q2, i⟩
    · rw [q] at hl; cases hl
    · rw [q1] at hl; cases hl
      exact d_getItem hu1 I (q2 ▸ DGet.k eh) ry fun w' s' I' r => h v w' s' I' r i
  · obtain ⟨b, cs, rfl, rfl, rfl, ib, kn⟩ := key_nest I le hk ry t e z
    obtain ⟨hd, xs, us, _, nd, ik, r, dd⟩ := D.nest I le tk
    obtain ⟨c, v, u, e1, rv, i⟩ := at_some r ik hl
    exact wpAny_getItem_heap hu kn dd e1 (h v u _ (I.tok _) rv i)
/-- k in d -/
theorem dct_in {Q : Value → Shared → Prop} (hu : A.in1.units + 8 < cLine) (hu1 : A.units + 1 < cLine) (I : Inv X pins σ H s) (le : Same F H) (D : DctV X.kw F H a kvs) (hk : IsO X.kw F H y k) (ry : RelV y uy) (ka : KeyAt kvs k n)
    (h : ∀ s', Inv X pins σ H s' → Q (.bool (lookT kvs n).isSome) s') : wpAny (model X.prog X.w) A (compareOp .In uy (.ref a)) Q E s := by
  obtain ⟨e, ⟨p, pk⟩ | ⟨t, tk, z⟩⟩ := ka
  · obtain ⟨key, rfl, rfl, rfl⟩ := key_plain hk p e
    obtain ⟨ks, eh, _, _, ik⟩ := D.plain pk
    refine d_in hu1 I (DGet.k eh) ry fun s' I' => ?_
    rcases kv_look key ik with ⟨q, q'⟩ | ⟨d', v, q, q', i⟩
    · rw [q']; have := h s' I'; rw [q] at this; exact this
    · rw [q']; have := h s' I'; rw [q] at this; exact this
  · obtain ⟨b, cs, rfl, rfl, rfl, ib, kn⟩ := key_nest I le hk ry t e z
    obtain ⟨hd, xs, us, _, nd, ik, r, dd⟩ := D.nest I le tk
    refine wpAny_in_heap hu kn hd dd ?_
    rw [at_isSome r ik]
    exact h _ (I.tok _)
theorem dct_notIn {Q : Value → Shared → Prop} (hu : A.in1.units + 8 < cLine) (hu1 : A.units + 1 < cLine) (I : Inv X pins σ H s) (le : Same F H) (D : DctV X.kw F H a kvs) (hk : IsO X.kw F H y k) (ry : RelV y uy) (ka : KeyAt kvs k n)
    (h : ∀ s', Inv X pins σ H s' → Q (.bool (!(lookT kvs n).isSome)) s') : wpAny (model X.prog X.w) A (compareOp .NotIn uy (.ref a)) Q E s := by
  obtain ⟨e, ⟨p, pk⟩ | ⟨t, tk, z⟩⟩ := ka
  · obtain ⟨key, rfl, rfl, rfl⟩ := key_plain hk p e
    obtain ⟨ks, eh, _, _, ik⟩ := D.plain pk
    refine d_notIn hu1 I (DGet.k eh) ry fun s' I' => ?_
    rcases kv_look key ik with ⟨q, q'⟩ | ⟨d', v, q, q', i⟩
    · rw [q']; have := h s' I'; rw [q] at this; exact this
    · rw [q']; have := h s' I'; rw [q] at this; exact this
  · obtain ⟨b, cs, rfl, rfl, rfl, ib, kn⟩ := key_nest I le hk ry t e z
    obtain ⟨hd, xs, us, _, nd, ik, r, dd⟩ := D.nest I le tk
    refine wpAny_notIn_heap hu kn hd dd ?_
    rw [at_isSome r ik]
    exact h _ (I.tok _)
/-- d.get(k), d.get(k, x) -/
theorem dct_get1 {Q : Value → Shared → Prop} (hu : A.in1.units + 8 < cLine) (hu1 : A.units + 1 < cLine) (I : Inv X pins σ H s) (le : Same F H) (D : DctV X.kw F H a kvs) (hk : IsO X.kw F H y k) (ry : RelV y uy) (ka : KeyAt kvs k n)
    (h : ∀ w w' s', Inv X pins σ H s' → RelV w w' → Is X.kw F w ((lookT kvs n).getD .none) → Q w' s') : wpAny (model X.prog X.w) A (call (.builtin "dict.get") [.ref a, uy]) Q E s := by
  obtain ⟨e, ⟨p, pk⟩ | ⟨t, tk, z⟩⟩ := ka
  · obtain ⟨key, rfl, rfl, rfl⟩ := key_plain hk p e
    obtain ⟨ks, eh, _, _, ik⟩ := D.plain pk
    refine L2.d_get1 hu1 I (DGet.k eh) ry fun w' s' I' rw' => ?_
    rcases kv_look key ik with ⟨q, q'⟩ | ⟨d', v, q, q', i⟩
    · rw [q'] at rw'; rw [q] at h; exact h _ _ _ I' rw' .non
    · rw [q'] at rw'; rw [q] at h; exact h _ _ _ I' rw' i
  · obtain ⟨b, cs, rfl, rfl, rfl, ib, kn⟩ := key_nest I le hk ry t e z
    obtain ⟨hd, xs, us, _, nd, ik, r, dd⟩ := D.nest I le tk
    refine call_meetsIn PySem.F.slot_dict_get dd.typeIs PySem.F.entry_dict_get (PySem.F.args_dict_get_2 _ _) (meetsH_dict_get (nestedKind X.prog X.w) a b hd) ⟨hu, n, us, kn, dd, ?_⟩
    cases q : lookT kvs n with
    | none => rw [q] at h; rw [at_none r ik q]; exact h .non _ _ (I.tok _) rfl .non
    | some d =>
      rw [q] at h
      obtain ⟨c, v, u, e1, rv, i⟩ := at_some r ik q
      rw [e1]; exact h v _ _ (I.tok _) rv i
theorem dct_get2 {Q : Value → Shared → Prop} {x : PyData} {vx : V} {ux : Value} (hu : A.in1.units + 8 < cLine) (hu1 : A.units + 1 < cLine) (I : Inv X pins σ H s) (le : Same F H) (D : DctV X.kw F H a kvs) (hk : IsO X.kw F H y k) (ry : RelV y uy) (ix : Is X.kw F vx x) (rx : RelV vx ux) (ka : KeyAt kvs k n)
    (h : ∀ w w' s', Inv X pins σ H s' → RelV w w' → Is X.kw F w ((lookT kvs n).getD x) → Q w' s') : wpAny (model X.prog X.w) A (call (.builtin "dict.get") [.ref a, uy, ux]) Q E s := by
  obtain ⟨e, ⟨p, pk⟩ | ⟨t, tk, z⟩⟩ := ka
  · obtain ⟨key, rfl, rfl, rfl⟩ := key_plain hk p e
    obtain ⟨ks, eh, _, _, ik⟩ := D.plain pk
    refine L2.d_get2 hu1 I (DGet.k eh) ry rx fun w' s' I' rw' => ?_
    rcases kv_look key ik with ⟨q, q'⟩ | ⟨d', v, q, q', i⟩
    · rw [q'] at rw'; rw [q] at h; exact h _ _ _ I' rw' ix
    · rw [q'] at rw'; rw [q] at h; exact h _ _ _ I' rw' i
  · obtain ⟨b, cs, rfl, rfl, rfl, ib, kn⟩ := key_nest I le hk ry t e z
    obtain ⟨hd, xs, us, _, nd, ik, r, dd⟩ := D.nest I le tk
    refine call_meetsIn PySem.F.slot_dict_get dd.typeIs PySem.F.entry_dict_get (PySem.F.args_dict_get_3 _ _ _) (meetsH_dict_get_default (nestedKind X.prog X.w) a b hd ux) ⟨hu, n, us, kn, dd, ?_⟩
    cases q : lookT kvs n with
    | none => rw [q] at h; rw [at_none r ik q]; exact h vx _ _ (I.tok _) rx ix
    | some d =>
      rw [q] at h
      obtain ⟨c, v, u, e1, rv, i⟩ := at_some r ik q
      rw [e1]; exact h v _ _ (I.tok _) rv i
theorem putX_ne (xs : List TEnt) (n : NestedKey) (b : Addr) (v : V) : putX xs n b v ≠ [] := by
  unfold putX
  split
  · rename_i h
    cases xs with
    | nil => cases h
    | cons x r => simp
  · simp
theorem mut_dct (I : Inv X pins σ H s) (D : DctV X.kw F H a kvs) : Mut (H a) := by
  obtain ⟨o, e, ⟨ks, rfl, _⟩ | ⟨xs, rfl, _⟩⟩ := D <;> (rw [e]; exact True.intro)
/-- d[k] = x -/
theorem dct_set {Q : Unit → Shared → Prop} {vx : V} {ux : Value} (hu : A.in1.units + 8 < cLine) (hu1 : A.units + 1 < cLine) (I : Inv X pins σ H s) (le : Same F H) (D : DctV X.kw F H a kvs) (hk : IsO X.kw F H y k) (ry : RelV y uy) (ix : Is X.kw F vx d) (rx : RelV vx ux) (ka : KeyAt kvs k n)
    (hz : kvs.length < sizeLine) (h : ∀ o s', DObj X.kw F a (putT kvs k n d) o → Inv X pins σ (upd H a o) s' → Q () s') : wpAny (model X.prog X.w) A (setItem (.ref a) uy ux) Q E s := by
  obtain ⟨e, ⟨p, pk⟩ | ⟨t, tk, z⟩⟩ := ka
  · obtain ⟨key, rfl, rfl, rfl⟩ := key_plain hk p e
    obtain ⟨ks, eh, zs, nd, ik⟩ := D.plain pk
    have lt : ks.length < sizeLine := by rw [isKv_length ik]; exact hz
    refine d_setItem hu1 I (DPut.k eh lt) ry rx fun s' I' => h _ s' (.inl ⟨_, rfl, ?_, putK_keys nd, isKv_put key ix ik⟩) I'
    have := length_putK ks key vx
    omega
  · obtain ⟨b, cs, rfl, rfl, rfl, ib, kn⟩ := key_nest I le hk ry t e z
    have mu := mut_dct I D
    obtain ⟨hd, xs, us, zs, nd, ik, r, dd⟩ := D.nest I le tk
    have zu : us.length ≤ sizeLine := by rw [ent_length r]; exact zs
    have hl : xs.length < sizeLine := by
      have := isKt_length ik
      omega
    refine wpAny_setItem_heap (hsz := zu) hu kn dd fun h' dd' hs => ?_
    have ob := td_back (H := upd H a (TD X.w a (putX xs n b vx))) hd (ent_put (n := n) (b := b) rx r) dd'
    have he : ∃ q, h'.get? a = some q := let ⟨q, _, _, hq, _⟩ := dd'; ⟨q, hq⟩
    refine h _ _ (.inr ⟨_, rfl, ?_, putX_ne _ _ _ _, putX_keys nd, isKt_put e z ib ix ik⟩) (d_write I mu hs he ob)
    have := putX_length xs n b vx
    omega
end
end DL
set_option Elab.async false
set_option linter.all false
set_option maxRecDepth 100000
set_option maxHeartbeats 4000000
/-! DR, records (1): fields read, stored, their lists and dicts changed in place -/
namespace DL
open PySem PySem.Spec PyProof.Rows L2
/-- the j-th field; .. is another one -/
def fld : Flds → Nat → Option (Str × Fld)
  | [], _ => none
  | p :: _, 0 => some p
  | _ :: r, j + 1 => fld r j
def setF : Flds → Nat → Fld → Flds
  | [], _, _ => []
  | p :: r, 0, f => (p.1, f) :: r
  | p :: r, j + 1, f => p :: setF r j f
theorem fld_get : ∀ (fs : Flds) (j : Nat), fld fs j = fs[j]?
  | [], j => by simp [fld]
  | p :: r, 0 => by simp [fld]
  | p :: r, j + 1 => by simp [fld, fld_get r j]
theorem fld_mem : ∀ {fs : Flds} {j : Nat} {p : Str × Fld}, fld fs j = some p → p ∈ fs := fun {fs j p} h => List.mem_of_getElem? (by rw [← fld_get]; exact h)
theorem setF_names : ∀ (fs : Flds) (j : Nat) (f : Fld), (setF fs j f).map (·.1) = fs.map (·.1)
  | [], _, _ => rfl
  | p :: r, 0, f => rfl
  | p :: r, j + 1, f => by simp [setF, setF_names r j f]
theorem setF_get : ∀ {fs : Flds} {j l : Nat} {f : Fld} {n : Str} {g : Fld}, fld fs j = some (n, g) → (setF fs j f)[l]? = if l = j then some (n, f) else fs[l]?
  | [], _, _, _, _, _, h => by cases h
  | p :: r, 0, 0, f, n, g, h => by cases h; simp [setF]
  | p :: r, 0, l + 1, f, n, g, h => by simp [setF]
  | p :: r, j + 1, 0, f, n, g, h => by simp [setF]
  | p :: r, j + 1, l + 1, f, n, g, h => by
    simp only [setF, List.getElem?_cons_succ]
    rw [setF_get (fs := r) (j := j) (l := l) h]
    by_cases e : l = j
    · rw [if_pos e, if_pos (by omega)]
    · rw [if_neg e, if_neg (by omega)]
theorem setF_vals : ∀ {fs : Flds} {j : Nat} {f : Fld} {n : Str} {g : Fld}, fld fs j = some (n, g) → f.val = g.val → (setF fs j f).map (fun p => (p.1, p.2.val)) = fs.map fun p => (p.1, p.2.val)
  | [], _, _, _, _, h, _ => by cases h
  | p :: r, 0, f, n, g, h, e => by cases h; simp [setF, e]
  | p :: r, j + 1, f, n, g, h, e => by simp only [setF, List.map_cons]; rw [setF_vals (fs := r) (j := j) h e]
theorem setF_addrs : ∀ {fs : Flds} {j : Nat} {f : Fld} {n : Str} {g : Fld}, fld fs j = some (n, g) → f.addr = g.addr → fldAddrs (setF fs j f) = fldAddrs fs
  | [], _, _, _, _, h, _ => by cases h
  | p :: r, 0, f, n, g, h, e => by cases h; simp [setF, fldAddrs, e]
  | p :: r, j + 1, f, n, g, h, e => by
    obtain ⟨q1, q2⟩ := p
    simp only [setF, fldAddrs]; rw [setF_addrs (fs := r) (j := j) h e]
theorem setF_other : ∀ {fs : Flds} {j : Nat} {f : Fld} {n : Str} {g : Fld} {a : Addr} {p : Str × Fld}, (fldAddrs fs).Nodup → fld fs j = some (n, g) → a ∈ g.addr → p ∈ setF fs j f → p = (n, f) ∨ (p ∈ fs ∧ a ∉ p.2.addr)
  | [], _, _, _, _, _, _, _, h, _, _ => by cases h
  | q :: r, 0, f, n, g, a, p, nd, h, ha, hp => by
    cases h
    rcases List.mem_cons.mp hp with e | e
    · exact .inl e
    · refine .inr ⟨List.mem_cons_of_mem _ e, fun z => ?_⟩
      rw [fldAddrs, List.nodup_append] at nd
      exact nd.2.2 a ha a (fld_addr e z) rfl
  | q :: r, j + 1, f, n, g, a, p, nd, h, ha, hp => by
    obtain ⟨q1, q2⟩ := q
    rw [fldAddrs, List.nodup_append] at nd
    rcases List.mem_cons.mp hp with e | e
    · subst e
      exact .inr ⟨List.mem_cons_self, fun z => nd.2.2 a z a (fld_addr (fld_mem (fs := r) (j := j) h) ha) rfl⟩
    · rcases setF_other (fs := r) (j := j) nd.2.1 h ha e with w | ⟨w1, w2⟩
      · exact .inl w
      · exact .inr ⟨List.mem_cons_of_mem _ w1, w2⟩
/-- the addresses behind: the new field's, and elder ones -/
theorem setF_sub : ∀ {fs : Flds} {j : Nat} {f : Fld} {a : Addr}, a ∈ fldAddrs (setF fs j f) → a ∈ f.addr ∨ a ∈ fldAddrs fs
  | [], _, _, _, h => by cases h
  | p :: r, 0, f, a, h => by
    rcases List.mem_append.mp (show a ∈ f.addr ++ fldAddrs r from h) with e | e
    · exact .inl e
    · exact .inr (List.mem_append_right _ e)
  | p :: r, j + 1, f, a, h => by
    obtain ⟨q1, q2⟩ := p
    rcases List.mem_append.mp (show a ∈ q2.addr ++ fldAddrs (setF r j f) from h) with e | e
    · exact .inr (List.mem_append_left _ e)
    · exact (setF_sub e).imp id fun w => List.mem_append_right _ w
theorem setF_nodup : ∀ {fs : Flds} {j : Nat} {f : Fld}, (fldAddrs fs).Nodup → f.addr.Nodup → (∀ a ∈ f.addr, a ∉ fldAddrs fs) → (fldAddrs (setF fs j f)).Nodup
  | [], _, _, _, _, _ => List.nodup_nil
  | p :: r, 0, f, nd, nf, h => by
    obtain ⟨q1, q2⟩ := p
    rw [fldAddrs, List.nodup_append] at nd
    show (f.addr ++ fldAddrs r).Nodup
    rw [List.nodup_append]
    exact ⟨nf, nd.2.1, fun a ha b hb e => h a ha (List.mem_append_right _ (e ▸ hb))⟩
  | p :: r, j + 1, f, nd, nf, h => by
    obtain ⟨q1, q2⟩ := p
    rw [fldAddrs, List.nodup_append] at nd
    show (q2.addr ++ fldAddrs (setF r j f)).Nodup
    rw [List.nodup_append]
    refine ⟨nd.1, setF_nodup nd.2.1 nf fun a ha z => h a ha (List.mem_append_right _ z), fun a ha b hb e => ?_⟩
    subst e
    rcases setF_sub hb with w | w
    · exact h a w (List.mem_append_left _ ha)
    · exact nd.2.2 a ha a w rfl
/-- a record's class, told by its name -/
abbrev KName := Option Str
section
variable {K : KW} {C : Ctx} {F F' H H' : Hp} {σ : L2.St} {ρ : DEnv} {i j : Nat} {n : Str} {r : Addr} {k : Option (Str × Addr)} {fs : Flds} {f g : Fld}
theorem Sd.rcOk (S : Sd K C F H σ ρ) (e : look ρ i = .rcd r k fs) : val σ i = some (.ref r) ∧ RecOk K F H r k fs := by
  have q := S.ok i
  rw [e] at q
  exact q
theorem rec_ne {a : Addr} (nd : (recAddrs r k fs).Nodup) (ha : a ∈ fldAddrs fs) : a ≠ r ∧ ∀ cn dx, k = some (cn, dx) → a ≠ dx := by
  unfold recAddrs at nd
  rw [List.nodup_cons] at nd
  refine ⟨fun e => nd.1 (List.mem_append_right _ (e ▸ ha)), fun cn dx ek e => ?_⟩
  subst ek
  rw [List.nodup_append] at nd
  exact nd.2.2.2 dx (by simp) a ha e.symm
theorem rec_nodup (nd : (recAddrs r k fs).Nodup) : (fldAddrs fs).Nodup := by
  unfold recAddrs at nd
  rw [List.nodup_cons, List.nodup_append] at nd
  exact nd.2.2.1
/-- a field's list, dict is changed in place -/
theorem Sd.mutFld {a : Addr} {o : HO} (S : Sd K C F H σ ρ) (hm : C.mu = true) (e : look ρ i = .rcd r k fs) (hj : fld fs j = some (n, g)) (ha : g.addr = [a]) (ha' : f.addr = [a]) (hv : f.val = g.val) (hf : FldOk K F (upd H a o) f) :
    Sd K C F (upd H a o) σ (put ρ i (.rcd r k (setF fs j f))) := by
  obtain ⟨hr, nd, hobj, hfs⟩ := S.rcOk e
  have hin : a ∈ fldAddrs fs := fld_addr (fld_mem hj) (by rw [ha]; simp)
  have hown : Owns (val σ i) (look ρ i) a := by rw [e]; exact .r (by unfold recAddrs; simp [hin])
  obtain ⟨f1, f2, f3⟩ := S.own i a hown
  have eq : recAddrs r k (setF fs j f) = recAddrs r k fs := by unfold recAddrs; rw [setF_addrs hj (by rw [ha, ha'])]
  obtain ⟨n1, n2⟩ := rec_ne nd hin
  refine S.mutA hm (val_lt hr) (Same.refl _) (fun b u q => ?_) (fun b u q z => ?_) (fun b h => upd_alive h) (fun b h _ _ => h) (fun b q _ _ => (S.own i b q).1) ⟨hr, by rw [eq]; exact nd, ?_, fun p hp => ?_⟩ fun b q => ?_
  · rw [upd_ne (fun h => by subst h; rw [f1] at q; cases q)]; exact S.le _ _ q
  · rw [upd_ne (fun h => by subst h; exact z hown)]; exact q
  · cases k with
    | none =>
      obtain ⟨ks, h1, h2, h3⟩ := hobj
      exact ⟨ks, by rw [upd_ne (Ne.symm n1)]; exact h1, by rw [setF_vals hj hv]; exact h2, h3⟩
    | some p =>
      obtain ⟨cn, dx⟩ := p
      obtain ⟨h0, C', vs, hc, h1, h2⟩ := hobj
      have nx := n2 cn dx rfl
      refine ⟨upd_alive h0, C', vs, hc, ?_, fun l m q v hl hq => ?_⟩
      · rcases h1 with ⟨x1, x2⟩ | ⟨x1, x2⟩
        · exact .inl ⟨by rw [upd_ne (Ne.symm n1)]; exact x1, x2⟩
        · exact .inr ⟨by rw [upd_ne (Ne.symm n1)]; exact x1, by rw [upd_ne (Ne.symm nx)]; exact x2⟩
      · rw [setF_get hj] at hl
        by_cases el : l = j
        · rw [if_pos el] at hl; cases hl
          subst el
          exact h2 l n g v (by rw [← fld_get]; exact hj) (by rw [← hv]; exact hq)
        · rw [if_neg el] at hl; exact h2 l m q v hl hq
  · rcases setF_other (a := a) (rec_nodup nd) hj (by rw [ha]; simp) hp with w | ⟨w1, w2⟩
    · rw [w]; exact hf
    · exact (hfs p w1).next (Same.refl _) fun b hb u q => by rw [upd_ne (fun h => by subst h; exact w2 hb)]; exact q
  · have q := q.rD
    rw [eq] at q
    have ow : Owns (val σ i) (look ρ i) b := by rw [e]; exact .r q
    exact ⟨(S.own i b ow).1, .inr (.inl ow)⟩
/-- a field is stored: the record's own object is another one -/
theorem Sd.setFld {H2 : Hp} (S : Sd K C F H σ ρ) (hm : C.mu = true) (e : look ρ i = .rcd r k fs) (hj : fld fs j = some (n, g)) (hobj : RecObj K H2 r k (setF fs j f)) (hH : ∀ b, b ≠ r → (∀ cn dx, k = some (cn, dx) → b ≠ dx) → H2 b = H b) (hal : ∀ b, H b ≠ none → H2 b ≠ none)
    (hap : ∀ b ∈ f.addr, Apart C F H σ ρ b) (hnd : f.addr.Nodup) (hf : FldOk K F H f) : Sd K C F H2 σ (put ρ i (.rcd r k (setF fs j f))) := by
  obtain ⟨hr, nd, hobj0, hfs⟩ := S.rcOk e
  have own : ∀ b, b ∈ recAddrs r k fs → Owns (val σ i) (look ρ i) b := fun b hb => by rw [e]; exact .r hb
  have rin : r ∈ recAddrs r k fs := by simp [recAddrs]
  have din : ∀ cn dx, k = some (cn, dx) → dx ∈ recAddrs r k fs := fun cn dx q => by subst q; simp [recAddrs]
  have away : ∀ b, b ∉ recAddrs r k fs → H2 b = H b := fun b hb => hH b (fun z => hb (z ▸ rin)) fun cn dx q z => hb (z ▸ din cn dx q)
  have fieldH : ∀ b, b ∈ fldAddrs fs → H2 b = H b := fun b hb => by
    obtain ⟨n1, n2⟩ := rec_ne nd hb
    exact hH b n1 n2
  have newH : ∀ b ∈ f.addr, H2 b = H b := fun b hb => away b fun z => (hap b hb).no i (own b z)
  have nd' : (recAddrs r k (setF fs j f)).Nodup := by
    unfold recAddrs at nd ⊢
    rw [List.nodup_cons, List.nodup_append] at nd ⊢
    have nin : ∀ a ∈ f.addr, a ∉ recAddrs r k fs := fun a ha z => (hap a ha).no i (own a z)
    refine ⟨fun z => ?_, nd.2.1, setF_nodup nd.2.2.1 hnd fun a ha z => nin a ha (by unfold recAddrs; simp [z]), fun a ha b hb q => ?_⟩
    · rcases List.mem_append.mp z with w | w
      · exact nd.1 (List.mem_append_left _ w)
      · rcases setF_sub w with w | w
        · exact nin r w rin
        · exact nd.1 (List.mem_append_right _ w)
    · subst q
      rcases setF_sub hb with w | w
      · exact nin a w (by unfold recAddrs; exact List.mem_cons_of_mem _ (List.mem_append_left _ ha))
      · exact nd.2.2.2 a ha a w rfl
  have fldok : ∀ q : Fld, FldOk K F H q → (∀ b ∈ q.addr, H2 b = H b) → FldOk K F H2 q := fun q hq h => hq.next (Same.refl _) fun b hb u w => by rw [h b hb]; exact w
  have lost : ∀ p ∈ setF fs j f, p = (n, f) ∨ p ∈ fs := fun p hp => by
    obtain ⟨l, hl⟩ := List.mem_iff_getElem?.mp hp
    rw [setF_get hj] at hl
    by_cases el : l = j
    · rw [if_pos el] at hl; cases hl; exact .inl rfl
    · rw [if_neg el] at hl; exact .inr (List.mem_of_getElem? hl)
  refine S.mutA hm (val_lt hr) (Same.refl _) (fun b u q => ?_) (fun b u q z => ?_) hal (fun b h _ _ => h) (fun b q _ _ => (S.own i b q).1) ⟨hr, nd', hobj, fun p hp => ?_⟩ fun b q => ?_
  · rw [away b (fun z => by rw [(S.own i b (own b z)).1] at q; cases q)]; exact S.le _ _ q
  · rw [away b (fun w => z (own b w))]; exact q
  · rcases lost p hp with w | w
    · rw [w]; exact fldok f hf newH
    · exact fldok p.2 (hfs p w) fun b hb => fieldH b (fld_addr w hb)
  · have q := q.rD
    unfold recAddrs at q
    have old : b ∈ recAddrs r k fs → F b = none ∧ (H b = none ∨ Owns (val σ i) (look ρ i) b ∨ Apart C F H σ ρ b) := fun w => ⟨(S.own i b (own b w)).1, .inr (.inl (own b w))⟩
    rcases List.mem_cons.mp q with w | w
    · subst w; exact old rin
    · rcases List.mem_append.mp w with w | w
      · exact old (by unfold recAddrs; exact List.mem_cons_of_mem _ (List.mem_append_left _ w))
      · rcases setF_sub w with w | w
        · exact ⟨(hap b w).f, .inr (.inr (hap b w))⟩
        · exact old (by unfold recAddrs; exact List.mem_cons_of_mem _ (List.mem_append_right _ w))
end
end DL
set_option Elab.async false
set_option linter.all false
set_option maxRecDepth 100000
set_option maxHeartbeats 4000000
/-! DR, records (2): the rules of fields -/
namespace DL
open PySem PySem.Spec PyProof.Rows L2
theorem atI_key {ks : List (Str × V)} {fs : Flds} {j : Nat} {n : Str} {f : Fld} {v : V} (h : ks.map (fun p => (p.1, some p.2)) = fs.map (fun p => (p.1, p.2.val))) (hj : fld fs j = some (n, f)) (hv : f.val = some v) : ks[j]? = some (n, v) := by
  have e := congrArg (fun l : List (Str × Option V) => l[j]?) h
  simp only [List.getElem?_map] at e
  rw [← fld_get, hj] at e
  cases q : ks[j]? with
  | none => rw [q] at e; simp at e
  | some p =>
    rw [q] at e
    obtain ⟨p1, p2⟩ := p
    simp only [Option.map_some, Option.some.injEq, Prod.mk.injEq] at e
    obtain ⟨e1, e2⟩ := e
    rw [hv] at e2
    cases e2
    rw [e1]
theorem valV_at {ks : List (Str × V)} {j : Nat} {n : Str} {v : V} (nd : (ks.map (·.1)).Nodup) (h : ks[j]? = some (n, v)) : valV (ks.map fun p => ((Sum.inr p.1 : Key), p.2)) (.inr n) = some v := by
  induction ks generalizing j with
  | nil => simp at h
  | cons p r ih =>
    obtain ⟨p1, p2⟩ := p
    rw [List.map_cons, List.nodup_cons] at nd
    cases j with
    | zero =>
      simp only [List.getElem?_cons_zero, Option.some.injEq, Prod.mk.injEq] at h
      obtain ⟨rfl, rfl⟩ := h
      exact valV_pos (p := ((Sum.inr p1 : Key), p2)) rfl
    | succ j =>
      simp only [List.getElem?_cons_succ] at h
      have ne : p1 ≠ n := fun e => nd.1 (e ▸ List.mem_map.mpr ⟨_, List.mem_of_getElem? h, rfl⟩)
      rw [List.map_cons, valV_neg (p := ((Sum.inr p1 : Key), p2)) (fun e => ne (by simpa using e))]
      exact ih nd.2 h
theorem putK_at {ks : List (Str × V)} {j : Nat} {n : Str} {v w : V} (nd : (ks.map (·.1)).Nodup) (h : ks[j]? = some (n, v)) : putK (ks.map fun p => ((Sum.inr p.1 : Key), p.2)) (.inr n) w = (ks.set j (n, w)).map fun p => ((Sum.inr p.1 : Key), p.2) := by
  unfold putK
  rw [valV_any, valV_at nd h]
  simp only [Option.isSome_some, if_true, List.map_map]
  induction ks generalizing j with
  | nil => simp at h
  | cons p r ih =>
    obtain ⟨p1, p2⟩ := p
    rw [List.map_cons, List.nodup_cons] at nd
    cases j with
    | zero =>
      simp only [List.getElem?_cons_zero, Option.some.injEq, Prod.mk.injEq] at h
      obtain ⟨rfl, rfl⟩ := h
      simp only [List.map_cons, List.set_cons_zero, Function.comp, if_true, List.cons.injEq, true_and]
      refine List.map_congr_left fun q hq => ?_
      have ne : q.1 ≠ p1 := fun e => nd.1 (e ▸ List.mem_map.mpr ⟨_, hq, rfl⟩)
      simp [ne]
    | succ j =>
      simp only [List.getElem?_cons_succ] at h
      have ne : p1 ≠ n := fun e => nd.1 (e ▸ List.mem_map.mpr ⟨_, List.mem_of_getElem? h, rfl⟩)
      have := ih nd.2 h
      simp only [List.map_cons, List.set_cons_succ, Function.comp, List.cons.injEq]
      refine ⟨by simp [ne], this⟩
/-- the value in a record's field -/
def tFA (K : KW) (kk : KName) (i j : Nat) (n : Str) : TE := fun σ H Q => ∃ C F ρ r k fs f v, Sd K C F H σ ρ ∧ look ρ i = .rcd r k fs ∧ k.map (·.1) = kk ∧ fld fs j = some (n, f) ∧ f.val = some v ∧ Q v H
section
variable {X : Cx} {W : WX} {pos : Pos} {o e ix : Expr} {i j : Nat} {n : Str} {kk : KName}
theorem fa_key' {x : Expr} {p2 : Pos} {jj : Nat} (hu : X.A.units + 1 < cLine) (hx : PE X x (tVar i)) : PE X (.Subscript x (.Constant (.str n) jj p2) pos) (tFA X.kw none i j n) :=
  PE.weak (pe_dget hu hx pe_str (fun _ _ => rfl)) fun σ H Q ⟨C, F, ρ, r, k, fs, f, v, S, e, hk, hj, hv, q⟩ => by
    obtain ⟨hr, hok⟩ := S.rcOk e
    cases k with
    | some p => cases hk
    | none =>
      obtain ⟨_, ⟨ks, h1, h2, h3, _⟩, _⟩ := hok
      have h4 := atI_key h2 hj hv
      have := valV_at h3 h4
      exact ⟨_, val_some hr, r, v, rfl, this ▸ DGet.k (k := .inr n) h1, q⟩
theorem fa_key (i j : Nat) {x n : Str} {p1 p2 : Pos} {jj : Nat} (hu : X.A.units + 1 < cLine) (hN : X.N[i]? = some x := by rfl) (hv : Vis X.env.scope x := by first | exact Or.inl rfl | exact Or.inr (Or.inl rfl) | exact Or.inr (Or.inr rfl)) (hd : (x == ("__debug__" : Str)) = false := by decide)
    (hcd : (x == ("__classdict__" : Str)) = false := by decide) : PE X (.Subscript (.Name x p1) (.Constant (.str n) jj p2) pos) (tFA X.kw none i j n) := fa_key' hu (pe_var hN hv hd hcd)
theorem fa_att' {x : Expr} {cn : Str} {C p : Addr} (hc : PySem.W.nsIn X.K mainGlobals cn = some (some (.ref C))) (c : SlX.SCls X.K C) (t : SlX.Slot1 X.K C n p j) (hx : PE X x (tVar i)) (hb : attributeBase x n X.env (eval x X.env) = eval x X.env := by rfl) : PE X (.Attribute x n pos) (tFA X.kw (some cn) i j n) :=
  PE.weak (SlX.pe_sl hx hb) fun σ H Q ⟨C0, F, ρ, r, k, fs, f, v, S, e, hk, hj, hv, q⟩ => by
    obtain ⟨hr, hok⟩ := S.rcOk e
    cases k with
    | none => cases hk
    | some kp =>
      obtain ⟨cn', dx⟩ := kp
      have hk : cn' = cn := by simpa using hk
      subst hk
      obtain ⟨_, ⟨_, C', vs, h1, h2, h3⟩, _⟩ := hok
      have h1 : PySem.W.nsIn X.K mainGlobals cn' = some (some (.ref C')) := h1
      rw [hc] at h1
      cases h1
      exact ⟨_, val_some hr, r, C, dx, p, vs, j, v, rfl, h2, c, t, h3 j n f v (by rw [← fld_get]; exact hj) hv, q⟩
theorem fa_att (i j : Nat) {x n cn : Str} {C p : Addr} {p1 : Pos} (hc : PySem.W.nsIn X.K mainGlobals cn = some (some (.ref C))) (c : SlX.SCls X.K C) (t : SlX.Slot1 X.K C n p j) (hN : X.N[i]? = some x := by rfl) (hv : Vis X.env.scope x := by first | exact Or.inl rfl | exact Or.inr (Or.inl rfl) | exact Or.inr (Or.inr rfl)) (hd : (x == ("__debug__" : Str)) = false := by decide)
    (hcd : (x == ("__classdict__" : Str)) = false := by decide) (hb : attributeBase (.Name x p1) n X.env (eval (.Name x p1) X.env) = eval (.Name x p1) X.env := by rfl) : PE X (.Attribute (.Name x p1) n pos) (tFA X.kw (some cn) i j n) := fa_att' hc c t (pe_var hN hv hd hcd) hb
/-- the j-th field, n by name, of the record in slot i: found so -/
def atF (kk : KName) (i j : Nat) (n : Str) (ρ : DEnv) (Q : Addr → Option (Str × Addr) → Flds → Fld → Prop) : Prop := match look ρ i with
  | .rcd r k fs => k.map (·.1) = kk ∧ (match fld fs j with | some (n', f) => n' = n ∧ Q r k fs f | none => False)
  | _ => False
theorem atF_out {ρ : DEnv} {Q : Addr → Option (Str × Addr) → Flds → Fld → Prop} (h : atF kk i j n ρ Q) : ∃ r k fs f, look ρ i = .rcd r k fs ∧ k.map (·.1) = kk ∧ fld fs j = some (n, f) ∧ Q r k fs f := by
  unfold atF at h
  split at h
  · rename_i r k fs e
    obtain ⟨hk, h⟩ := h
    split at h
    · rename_i n' f e2
      obtain ⟨rfl, h⟩ := h
      exact ⟨r, k, fs, f, e, hk, e2, h⟩
    · exact h.elim
  · exact h.elim
/-- a field, read -/
def dFld (kk : KName) (i j : Nat) (n : Str) : DE := fun ρ Q _ => atF kk i j n ρ fun _ _ _ f => match f with | .dat _ d => Q d | .lst _ ds => Q (.list ds) | .dic _ kvs => Q (.dict kvs) | .non => False
theorem fld_peek {K : KW} {C : Ctx} {F H : Hp} {σ : L2.St} {ρ : DEnv} {r : Addr} {k : Option (Str × Addr)} {fs : Flds} {f : Fld} {v : V} {d : PyData} (S : Sd K C F H σ ρ) (e : look ρ i = .rcd r k fs) (hj : fld fs j = some (n, f)) (hv : f.val = some v)
    (hd : (∃ v, f = .dat v d) ∨ (∃ a ds, f = .lst a ds ∧ d = .list ds) ∨ ∃ a kvs, f = .dic a kvs ∧ d = .dict kvs) : IsO K F H v d := by
  have q := (S.rcOk e).2.2.2 _ (fld_mem hj)
  rcases hd with ⟨w, rfl⟩ | ⟨a, ds, rfl, rfl⟩ | ⟨a, kvs, rfl, rfl⟩
  · cases hv; exact Is.o q
  · cases hv; obtain ⟨xs, h1, h2, h3⟩ := q; exact .inr (.inl ⟨a, xs, ds, rfl, rfl, h1, h2, h3⟩)
  · cases hv; obtain ⟨o, h1, h2⟩ := q; exact .inr (.inr ⟨a, o, kvs, rfl, rfl, h1, h2⟩)
theorem po_fld (ho : PE X o (tFA X.kw kk i j n)) : PE X o (tO X.kw W (dFld kk i j n)) := PE.weak ho fun σ H Q ⟨C, F, ρ, Qd, Ed, S, h, k, _⟩ => by
  obtain ⟨r, kd, fs, f, e, hk, hj, h⟩ := atF_out h
  cases f with
  | non => exact h.elim
  | dat v d => exact ⟨C, F, ρ, r, kd, fs, _, v, S, e, hk, hj, rfl, k F H v d S (Same.refl _) (fun F2 H2 S2 _ => fld_peek S2 e hj rfl (.inl ⟨v, rfl⟩)) h⟩
  | lst a ds => exact ⟨C, F, ρ, r, kd, fs, _, .ref a, S, e, hk, hj, rfl, k F H _ _ S (Same.refl _) (fun F2 H2 S2 _ => fld_peek S2 e hj rfl (.inr (.inl ⟨a, ds, rfl, rfl⟩))) h⟩
  | dic a kvs => exact ⟨C, F, ρ, r, kd, fs, _, .ref a, S, e, hk, hj, rfl, k F H _ _ S (Same.refl _) (fun F2 H2 S2 _ => fld_peek S2 e hj rfl (.inr (.inr ⟨a, kvs, rfl, rfl⟩))) h⟩
/-- .. still data -/
def dFldD (kk : KName) (i j : Nat) (n : Str) : DE := fun ρ Q _ => atF kk i j n ρ fun _ _ _ f => match f with | .dat _ d => Q d | _ => False
theorem pd_fld (ho : PE X o (tFA X.kw kk i j n)) : PE X o (tD X.kw W (dFldD kk i j n)) := PE.weak ho fun σ H Q ⟨C, F, ρ, Qd, Ed, S, h, k, _⟩ => by
  obtain ⟨r, kd, fs, f, e, hk, hj, h⟩ := atF_out h
  cases f with
  | dat v d => exact ⟨C, F, ρ, r, kd, fs, _, v, S, e, hk, hj, rfl, k F H v d S (Same.refl _) ((S.rcOk e).2.2.2 _ (fld_mem hj)) h⟩
  | _ => exact h.elim
/-! ### changed in place -/
/-- x.n[fi] = .., the field a list -/
def gIxF (kk : KName) (i j : Nat) (n : Str) (fi : DE) : DG := fun d ρ Q => atF kk i j n ρ fun r k fs f => match f with
  | .lst a ds => fi ρ (fun y => ∃ (z : Int) (l : Nat), y = .int z ∧ ixN ds.length z = some l ∧ Q (put ρ i (.rcd r k (setF fs j (.lst a (ds.set l d)))))) fun _ => False
  | _ => False
theorem pg_ixF {fi : DE} {tpos : Pos} (ho : PE X o (tFA X.kw kk i j n)) (hi : PE X ix (tD X.kw W0 fi)) (ha : ∀ v, assign (.Subscript o ix tpos) X.env v = (do
      let ov ← holding [v] (eval o X.env)
      let iv ← holding [v, ov] (eval ix X.env)
      standAt tpos
      holding [v, ov, iv] (setItem ov iv v)
      release [v, ov, iv] []) := by intro _; rfl) : PG X (.Subscript o ix tpos) (tGE X.kw (gIxF kk i j n fi)) :=
  PG.weak (pg_sub ho hi set_list ha) fun v σ H Q ⟨C, F, ρ, d, Qd, m, S, h, q, k⟩ => by
    obtain ⟨r, kd, fs, f, e, hk, hj, q⟩ := atF_out q
    split at q
    · rename_i a ds
      refine ⟨C, F, ρ, r, kd, fs, _, .ref a, S, e, hk, hj, rfl, C, F, ρ, _, _, S, q, fun F2 H2 w z S2 s2 i2 q2 => ?_, exits0⟩
      obtain ⟨zz, l, rfl, hl, q2⟩ := q2
      cases i2
      obtain ⟨xs, g1, g2, g3⟩ := (S2.rcOk e).2.2.2 _ (fld_mem hj)
      exact ⟨a, xs, zz, l, rfl, rfl, g1, by rw [g3.length]; exact hl, k F2 _ σ _ (S2.mutFld (f := .lst a (ds.set l d)) m e hj rfl rfl rfl ⟨xs.set l v, upd_same, by rw [List.length_set]; exact g2, g3.set l (h.up s2)⟩) s2 q2⟩
    · exact q.elim
/-- x.n.append(e) -/
def dAppF (kk : KName) (i j : Nat) (n : Str) (f : DE) : DS := fun D ρ => atF kk i j n ρ fun r k fs g => match g with
  | .lst a ds => f ρ (fun d => ds.length < sizeLine ∧ D.nx (put ρ i (.rcd r k (setF fs j (.lst a (ds ++ [d])))))) D.ex
  | _ => False
theorem dappF {f : DE} {apos cpos : Pos} (ho : PE X o (tFA X.kw kk i j n)) (he : PE X e (tD X.kw W f)) (hst : starEach (e :: []) X.env = (false, eval e X.env) :: starEach [] X.env := by rfl)
    (hbase : attributeBase o "append" X.env (eval o X.env) = eval o X.env := by rfl)
    (hfew : ((backTo cpos (starEach (e :: []) X.env)).all (fun x => !x.1) && (backToKw cpos (keywordEach [] X.env)).all (fun x => x.1.isSome)
      && decide ((e :: []).length + ([] : List Keyword).length + (if ([] : List Keyword).isEmpty then 0 else 1) < 30)) = true := by rfl)
    (hline : (apos.endLine == cpos.line) = true := by rfl) (hplain : (backTo cpos (starEach [] X.env)).any (·.1) = false := by rfl)
    (hs : swapsWith (.Call (.Attribute o "append" apos) [e] [] cpos) none pos.line X.env = pure false := by rfl) :
    PS X (.Expr (.Call (.Attribute o "append" apos) [e] [] cpos) pos) (tDS X.kw W (dAppF kk i j n f)) :=
  PS.weak (ps_expr (pe_bm PySem.F.plainAttrs_list PySem.F.slot_list_append PySem.F.type_list_append mt_append ho (pa_cons he pa_nil hst) hbase hfew hline hst hplain) hs) fun D σ H ⟨C, F, ρ, Dd, m, S, h, E⟩ => by
    obtain ⟨r, kd, fs, g, e, hk, hj, h⟩ := atF_out h
    split at h
    · rename_i a ds
      obtain ⟨xs0, g0, _⟩ := (S.rcOk e).2.2.2 _ (fld_mem hj)
      refine ⟨C, F, ρ, r, kd, fs, _, .ref a, S, e, hk, hj, rfl, .inl ⟨rfl, _, .of g0⟩, C, F, ρ, _, Dd.ex, S, h, fun F2 H2 v d S2 s2 i2 q2 => ?_, E.exits⟩
      obtain ⟨xs, g1, g2, g3⟩ := (S2.rcOk e).2.2.2 _ (fld_mem hj)
      have lt : xs.length < sizeLine := by rw [g3.length]; exact q2.1
      exact ⟨a, xs, v, rfl, rfl, g1, lt, E.nx F2 _ σ _ (S2.mutFld (f := .lst a (ds ++ [d])) m e hj rfl rfl rfl ⟨xs ++ [v], upd_same, by rw [List.length_append]; exact lt, g3.append (.cons i2 .nil)⟩) q2.2⟩
    · exact h.elim
/-- a dict whose keys are ints, texts -/
theorem dobj_plain {K : KW} {F : Hp} {a : Addr} {kvs : List (PyData × PyData)} {o : HO} (h : DObj K F a kvs o) (p : PlainK kvs) : ∃ ks, o = .dK ks ∧ ks.length ≤ sizeLine ∧ (ks.map (·.1)).Nodup ∧ IsKv K F ks kvs := by
  rcases h with h | ⟨xs, _, _, ne, _, t⟩
  · exact h
  · exact absurd (isKt_plain t p) ne
theorem set_dK (hu : X.A.units + 1 < cLine) : PSet X (fun o i v H Q => ∃ a kvs k, o = .ref a ∧ i = kV k ∧ H a = some (.dK kvs) ∧ kvs.length < sizeLine ∧ Q (upd H a (.dK (putK kvs k v)))) := by
  intro pins s σ H o i v ov iv u Q I ro ri rv ⟨a, kvs, k, eo, ei, h1, h2, q⟩
  subst eo ei
  cases (show ov = Value.ref a from ro)
  exact d_setItem hu I (DPut.k h1 h2) ri rv fun s' I' => ⟨_, I', q⟩
/-- x.n[fi] = .., the field a dict, the key an int or a text -/
def gKeyF (kk : KName) (i j : Nat) (n : Str) (fi : DE) : DG := fun d ρ Q => atF kk i j n ρ fun r k fs f => match f with
  | .dic a kvs => PlainK kvs ∧ kvs.length < sizeLine ∧ fi ρ (fun y => ∃ m, plainK y = true ∧ nkey y = some m ∧ Q (put ρ i (.rcd r k (setF fs j (.dic a (putT kvs y m d)))))) fun _ => False
  | _ => False
theorem pg_keyF {fi : DE} {tpos : Pos} (hu : X.A.units + 1 < cLine) (ho : PE X o (tFA X.kw kk i j n)) (hi : PE X ix (tD X.kw W0 fi)) (ha : ∀ v, assign (.Subscript o ix tpos) X.env v = (do
      let ov ← holding [v] (eval o X.env)
      let iv ← holding [v, ov] (eval ix X.env)
      standAt tpos
      holding [v, ov, iv] (setItem ov iv v)
      release [v, ov, iv] []) := by intro _; rfl) : PG X (.Subscript o ix tpos) (tGE X.kw (gKeyF kk i j n fi)) :=
  PG.weak (pg_sub ho hi (set_dK hu) ha) fun v σ H Q ⟨C, F, ρ, d, Qd, m, S, h, q, k⟩ => by
    obtain ⟨r, kd, fs, f, e, hk, hj, q⟩ := atF_out q
    split at q
    · rename_i a kvs
      obtain ⟨pk, lt, q⟩ := q
      refine ⟨C, F, ρ, r, kd, fs, _, .ref a, S, e, hk, hj, rfl, C, F, ρ, _, _, S, q, fun F2 H2 w z S2 s2 i2 q2 => ?_, exits0⟩
      obtain ⟨mm, py, hm, q2⟩ := q2
      obtain ⟨key, rfl, rfl, rfl⟩ := key_plain (Is.o (H := H2) i2) py hm
      obtain ⟨o, g1, g2⟩ := (S2.rcOk e).2.2.2 _ (fld_mem hj)
      obtain ⟨ks, rfl, z1, z2, z3⟩ := dobj_plain g2 pk
      have hl : ks.length < sizeLine := by rw [isKv_length z3]; exact lt
      refine ⟨a, ks, key, rfl, rfl, g1, hl, k F2 _ σ _ (S2.mutFld (f := .dic a (putT kvs (keyD key) (keyN key) d)) m e hj rfl rfl rfl ⟨_, upd_same, .inl ⟨_, rfl, ?_, putK_keys z2, isKv_put key (h.up s2) z3⟩⟩) s2 q2⟩
      have := length_putK ks key v
      omega
    · exact q.elim
/-- the dict without the key n -/
def dropT (kvs : List (PyData × PyData)) (n : NestedKey) : List (PyData × PyData) := kvs.filter fun p => !decide (nkey p.1 = some n)
theorem isKv_drop {K : KW} {F : Hp} (key : Key) : ∀ {ks : List (Key × V)} {kvs : List (PyData × PyData)}, IsKv K F ks kvs → IsKv K F (dropK ks key) (dropT kvs (keyN key))
  | _, _, .nil => .nil
  | _, _, .cons (k := k) a t => by
    have ih := isKv_drop key t
    unfold dropK dropT at ih ⊢
    rw [List.filter_cons, List.filter_cons]
    by_cases e : k = key
    · rw [if_neg (by simp [e]), if_neg (by simp [nkey_keyD, e])]
      exact ih
    · rw [if_pos (by simp [e]), if_pos (by simp [nkey_keyD]; exact fun z => e (keyN_inj z))]
      exact .cons a ih
theorem dropK_keys {ks : List (Key × V)} {key : Key} (nd : (ks.map (·.1)).Nodup) : ((dropK ks key).map (·.1)).Nodup := List.Nodup.sublist (List.Sublist.map _ List.filter_sublist) nd
/-- del x.n[e]; x.n.pop(e), for its own sake: the key is there -/
def dDelF (kk : KName) (i j : Nat) (n : Str) (fi : DE) : DS := fun D ρ => atF kk i j n ρ fun r k fs f => match f with
  | .dic a kvs => PlainK kvs ∧ fi ρ (fun y => ∃ m, plainK y = true ∧ nkey y = some m ∧ (lookT kvs m).isSome = true ∧ D.nx (put ρ i (.rcd r k (setF fs j (.dic a (dropT kvs m)))))) D.ex
  | _ => False
theorem ddelF {fi : DE} {tpos : Pos} (ho : PE X o (tFA X.kw kk i j n)) (hi : PE X ix (tD X.kw W fi)) : PS X (.Delete [.Subscript o ix tpos] pos) (tDS X.kw W (dDelF kk i j n fi)) :=
  PS.weak (ps_ddel ho hi) fun D σ H ⟨C, F, ρ, Dd, m, S, h, E⟩ => by
    obtain ⟨r, kd, fs, g, e, hk, hj, h⟩ := atF_out h
    split at h
    · rename_i a kvs
      obtain ⟨pk, h⟩ := h
      refine ⟨C, F, ρ, r, kd, fs, _, .ref a, S, e, hk, hj, rfl, C, F, ρ, _, Dd.ex, S, h, fun F2 H2 v d S2 s2 i2 q2 => ?_, E.exits⟩
      obtain ⟨mm, py, hm, hl, q2⟩ := q2
      obtain ⟨key, rfl, rfl, rfl⟩ := key_plain (Is.o (H := H2) i2) py hm
      obtain ⟨o, g1, g2⟩ := (S2.rcOk e).2.2.2 _ (fld_mem hj)
      obtain ⟨ks, rfl, z1, z2, z3⟩ := dobj_plain g2 pk
      refine ⟨a, ks, key, rfl, g1, rfl, ?_, E.nx F2 _ σ _ (S2.mutFld (f := .dic a (dropT kvs (keyN key))) m e hj rfl rfl rfl ⟨_, upd_same, .inl ⟨_, rfl, Nat.le_trans (dropK_le ks key) z1, dropK_keys z2, isKv_drop key z3⟩⟩) q2⟩
      rcases kv_look key z3 with ⟨w, _⟩ | ⟨d', v', _, w, _⟩
      · rw [w] at hl; cases hl
      · rw [w]; rfl
    · exact h.elim
theorem dpopF {fi : DE} {apos cpos : Pos} (ho : PE X o (tFA X.kw kk i j n)) (hi : PE X ix (tD X.kw W fi)) (m1 : M1 X o "pop" apos ix cpos := by exact ⟨rfl, rfl, rfl, rfl⟩) (hs : swapsWith (.Call (.Attribute o "pop" apos) [ix] [] cpos) none pos.line X.env = pure false := by rfl) :
    PS X (.Expr (.Call (.Attribute o "pop" apos) [ix] [] cpos) pos) (tDS X.kw W (dDelF kk i j n fi)) :=
  PS.weak (ps_expr (pe_dpop1 ho hi m1) hs) fun D σ H ⟨C, F, ρ, Dd, m, S, h, E⟩ => by
    obtain ⟨r, kd, fs, g, e, hk, hj, h⟩ := atF_out h
    split at h
    · rename_i a kvs
      obtain ⟨pk, h⟩ := h
      obtain ⟨o0, y1, y2⟩ := (S.rcOk e).2.2.2 _ (fld_mem hj)
      obtain ⟨ks0, rfl, _⟩ := dobj_plain y2 pk
      refine ⟨C, F, ρ, r, kd, fs, _, .ref a, S, e, hk, hj, rfl, a, rfl, .inl ⟨ks0, .inl y1⟩, C, F, ρ, _, Dd.ex, S, h, fun F2 H2 v d S2 s2 i2 q2 => ?_, E.exits⟩
      obtain ⟨mm, py, hm, hl, q2⟩ := q2
      obtain ⟨key, rfl, rfl, rfl⟩ := key_plain (Is.o (H := H2) i2) py hm
      obtain ⟨o, g1, g2⟩ := (S2.rcOk e).2.2.2 _ (fld_mem hj)
      obtain ⟨ks, rfl, z1, z2, z3⟩ := dobj_plain g2 pk
      rcases kv_look key z3 with ⟨w, _⟩ | ⟨d', v', _, w, _⟩
      · rw [w] at hl; cases hl
      · exact ⟨ks, key, v', g1, rfl, w, E.nx F2 _ σ _ (S2.mutFld (f := .dic a (dropT kvs (keyN key))) m e hj rfl rfl rfl ⟨_, upd_same, .inl ⟨_, rfl, Nat.le_trans (dropK_le ks key) z1, dropK_keys z2, isKv_drop key z3⟩⟩) q2⟩
    · exact h.elim
/-! ### a field is stored -/
/-- x.n = .., still data -/
def gFld (kk : KName) (i j : Nat) (n : Str) : DG := fun d ρ Q => atF kk i j n ρ fun r k fs _ => ∀ v, Q (put ρ i (.rcd r k (setF fs j (.dat v d))))
/-- the record's object behind a store -/
theorem recObj_key {K : KW} {H : Hp} {r : Addr} {fs : Flds} {f g : Fld} {v w : V} (h : RecObj K H r none fs) (hj : fld fs j = some (n, g)) (hg : g.val = some w) (hf : f.val = some v) :
    ∃ ks : List (Str × V), H r = some (.dK (ks.map fun p => ((Sum.inr p.1 : Key), p.2))) ∧ ks.length ≤ 100 ∧ RecObj K (upd H r (.dK (putK (ks.map fun p => ((Sum.inr p.1 : Key), p.2)) (.inr n) v))) r none (setF fs j f) := by
  obtain ⟨ks, h1, h2, h3, h4⟩ := h
  have hk := atI_key h2 hj hg
  refine ⟨ks, h1, h4, ks.set j (n, v), by rw [upd_same, putK_at h3 hk], ?_, ?_, by rw [List.length_set]; exact h4⟩
  · apply List.ext_getElem?
    intro l
    rw [List.getElem?_map, List.getElem?_map, setF_get hj, List.getElem?_set]
    have lt : j < ks.length := (List.getElem?_eq_some_iff.mp hk).1
    by_cases e : j = l
    · subst e
      rw [if_pos rfl, if_pos lt, if_pos rfl]
      simp [hf]
    · rw [if_neg e, if_neg (Ne.symm e)]
      have := congrArg (fun l' : List (Str × Option V) => l'[l]?) h2
      simpa only [List.getElem?_map] using this
  · have e : (ks.set j (n, v)).map (·.1) = ks.map (·.1) := by
      rw [List.map_set]
      apply List.ext_getElem?
      intro l
      rw [List.getElem?_set]
      by_cases e : j = l
      · subst e
        rw [if_pos rfl, List.getElem?_map, hk]
        have lt : j < ks.length := (List.getElem?_eq_some_iff.mp hk).1
        rw [if_pos (by simpa using lt)]; rfl
      · rw [if_neg e]
    rw [e]; exact h3
theorem pg_fldK {x : Expr} {p2 tpos : Pos} {jj : Nat} (hu : X.A.units + 1 < cLine) (hx : PE X x (tVar i)) (ha : ∀ v, assign (.Subscript x (.Constant (.str n) jj p2) tpos) X.env v = (do
      let ov ← holding [v] (eval x X.env)
      let iv ← holding [v, ov] (eval (.Constant (.str n) jj p2) X.env)
      standAt tpos
      holding [v, ov, iv] (setItem ov iv v)
      release [v, ov, iv] []) := by intro _; rfl) : PG X (.Subscript x (.Constant (.str n) jj p2) tpos) (tGE X.kw (gFld none i j n)) :=
  PG.weak (pg_sub hx pe_str (set_dK hu) ha) fun v σ H Q ⟨C, F, ρ, d, Qd, m, S, h, q, k⟩ => by
    obtain ⟨r, kd, fs, g, e, hk, hj, q⟩ := atF_out q
    cases kd with
    | some p => cases hk
    | none =>
      obtain ⟨hr, hok⟩ := S.rcOk e
      have hg : ∃ w, g.val = some w := by
        obtain ⟨_, ⟨ks, h1, h2, _⟩, _⟩ := hok
        have := congrArg (fun l' : List (Str × Option V) => l'[j]?) h2
        simp only [List.getElem?_map] at this
        rw [← fld_get fs, hj] at this
        cases q0 : ks[j]? with
        | none => rw [q0] at this; simp at this
        | some p => rw [q0] at this; simp at this; exact ⟨p.2, this.2.symm⟩
      obtain ⟨w, hg⟩ := hg
      obtain ⟨ks, h1, h2, h3⟩ := recObj_key (f := .dat v d) hok.2.1 hj hg rfl
      refine ⟨_, val_some hr, r, _, .inr n, rfl, rfl, h1, by rw [List.length_map]; exact Nat.lt_of_le_of_lt h2 (by decide), ?_⟩
      refine k F _ σ _ (S.setFld (f := .dat v d) m e hj h3 (fun b h1 _ => upd_ne h1) (fun b hb => upd_alive hb) (fun b hb => by cases hb) List.nodup_nil h) (Same.refl _) (q v)
/-- a target that is an attribute of an instance with slots -/
def gSatt (K : PySem.W.Frag) (to : TE) (n : Str) : TG := fun v σ H Q => to σ H fun x H2 => ∃ a C dx p vs i, x = .ref a ∧ SlX.Slt H2 a C dx vs ∧ SlX.SCls K C ∧ SlX.Slot1 K C n p i ∧ Q σ (SlX.slH H2 a C dx (SlX.putS i v vs))
theorem pg_satt {to : TE} {tpos : Pos} (ho : PE X o to) (ha : ∀ v, assign (.Attribute o n tpos) X.env v = (do
      let ov ← holding [v] (eval o X.env)
      standAt tpos.atName
      holding [v, ov] (setAttr ov n v)
      release [v, ov] []) := by intro _; rfl) : PG X (.Attribute o n tpos) (gSatt X.K to n) := by
  refine ⟨fun pins s σ H v u Q I r h => ?_⟩
  rw [ha]
  refine wpAny_bind (wpAny_holding (thn (ho.run pins s σ H _ I h) fun ov s1 ⟨x, H1, I1, r1, a, C, dx, p, vs, i, ex, hsl, c, t, q1⟩ => ?_))
  subst ex
  obtain rfl : ov = Value.ref a := r1
  refine wpAny_bind (wpAny_standAt (wpAny_bind (wpAny_holding (SlX.setslot_ok I1 hsl c t r fun s3 I3 => ?_))))
  exact wpAny_release ⟨σ, _, I3, q1⟩
/-- .. the object of an instance behind a store -/
theorem recObj_att {K : KW} {H : Hp} {r dx : Addr} {cn : Str} {fs : Flds} {f g : Fld} {v : V} {C : Addr} {vs : List (Option V)} (h : RecObj K H r (some (cn, dx)) fs) (hj : fld fs j = some (n, g)) (hf : f.val = some v) (hne : dx ≠ r)
    (hc : PySem.W.nsIn K.K mainGlobals cn = some (some (.ref C))) (hs : SlX.Slt H r C dx vs) (hv : ∀ (l : Nat) (m : Str) (q : Fld) (w : V), fs[l]? = some (m, q) → q.val = some w → vs[l]? = some (some w)) : RecObj K (SlX.slH H r C dx (SlX.putS j v vs)) r (some (cn, dx)) (setF fs j f) := by
  refine ⟨?_, C, SlX.putS j v vs, hc, SlX.slH_slt hne, fun l m q w hl hq => ?_⟩
  · unfold SlX.slH
    rw [upd_ne hne, upd_same]; nofun
  · rw [setF_get hj] at hl
    by_cases e : l = j
    · rw [if_pos e] at hl; cases hl
      subst e
      rw [hf] at hq; cases hq
      exact SlX.putS_get l v vs
    · rw [if_neg e] at hl
      exact (SlX.putS_ne e).mpr (hv l m q w hl hq)
theorem sd_satt {K : KW} {C : Ctx} {F H : Hp} {σ : L2.St} {ρ : DEnv} {r : Addr} {kd : Option (Str × Addr)} {fs : Flds} {f g : Fld} {v : V} {cn : Str} {C0 : Addr} (S : Sd K C F H σ ρ) (m : C.mu = true) (e : look ρ i = .rcd r kd fs) (hk : kd.map (·.1) = some cn) (hj : fld fs j = some (n, g))
    (hc : PySem.W.nsIn K.K mainGlobals cn = some (some (.ref C0))) (hf : f.val = some v) (hap : ∀ b ∈ f.addr, Apart C F H σ ρ b) (hnd : f.addr.Nodup) (hfo : FldOk K F H f) :
    ∃ dx vs, SlX.Slt H r C0 dx vs ∧ Sd K C F (SlX.slH H r C0 dx (SlX.putS j v vs)) σ (put ρ i (.rcd r kd (setF fs j f))) := by
  obtain ⟨hr, nd, hobj, hfs⟩ := S.rcOk e
  cases kd with
  | none => cases hk
  | some kp =>
    obtain ⟨cn', dx⟩ := kp
    have hk : cn' = cn := by simpa using hk
    subst hk
    have hobj0 := hobj
    obtain ⟨h0, C', vs, h1, h2, h3⟩ := hobj
    rw [hc] at h1
    cases h1
    have hne : dx ≠ r := fun z => by
      subst z
      unfold recAddrs at nd
      simp at nd
    refine ⟨dx, vs, h2, S.setFld (f := f) m e hj (recObj_att hobj0 hj hf hne hc h2 h3) (fun b n1 n2 => SlX.slH_ne n1 (n2 cn' dx rfl)) (fun b hb => ?_) hap hnd hfo⟩
    unfold SlX.slH
    exact upd_alive (upd_alive hb)
theorem pg_fldS {x : Expr} {cn : Str} {C0 p : Addr} {tpos : Pos} (hc : PySem.W.nsIn X.K mainGlobals cn = some (some (.ref C0))) (c : SlX.SCls X.K C0) (t : SlX.Slot1 X.K C0 n p j) (hx : PE X x (tVar i)) (ha : ∀ v, assign (.Attribute x n tpos) X.env v = (do
      let ov ← holding [v] (eval x X.env)
      standAt tpos.atName
      holding [v, ov] (setAttr ov n v)
      release [v, ov] []) := by intro _; rfl) : PG X (.Attribute x n tpos) (tGE X.kw (gFld (some cn) i j n)) :=
  PG.weak (pg_satt hx ha) fun v σ H Q ⟨C, F, ρ, d, Qd, m, S, h, q, k⟩ => by
    obtain ⟨r, kd, fs, g, e, hk, hj, q⟩ := atF_out q
    obtain ⟨dx, vs, h2, S2⟩ := sd_satt (f := .dat v d) S m e hk hj hc rfl (fun b hb => by cases hb) List.nodup_nil h
    exact ⟨_, val_some (S.rcOk e).1, r, C0, dx, p, vs, j, rfl, h2, c, t, k F _ σ _ S2 (Same.refl _) (q v)⟩
/-- self.n = a new dict -/
def dSetFG (kk : KName) (i j : Nat) (n : Str) (f : DK) : DS := fun D ρ => f ρ (fun kvs => atF kk i j n ρ fun r k fs _ => ∀ a, D.nx (put ρ i (.rcd r k (setF fs j (.dic a kvs))))) D.ex
theorem dsetFG {x : Expr} {cn : Str} {C0 p : Addr} {f : DK} {tpos : Pos} (hc : PySem.W.nsIn X.K mainGlobals cn = some (some (.ref C0))) (c : SlX.SCls X.K C0) (t : SlX.Slot1 X.K C0 n p j) (hx : PE X x (tVar i)) (he : PE X e (tG X.kw W f)) (hs : swapsWith e (some (.Attribute x n tpos)) pos.line X.env = pure false := by rfl) :
    PS X (.Assign [.Attribute x n tpos] e pos) (tDS X.kw W (dSetFG (some cn) i j n f)) :=
  PS.weak (SlX.ps_sl hx he hs) fun D σ H ⟨C, F, ρ, Dd, m, S, h, E⟩ => ⟨C, F, ρ, _, Dd.ex, S, h, fun F' H' a o kvs S' s' ap ea io q => by
    obtain ⟨r, kd, fs, g, e, hk, hj, q⟩ := atF_out q
    obtain ⟨dx, vs, h2, S2⟩ := sd_satt (f := .dic a kvs) S' m e hk hj hc rfl (fun b hb => by simp [Fld.addr] at hb; subst hb; exact ap) (by simp [Fld.addr]) ⟨o, ea, io⟩
    exact ⟨_, val_some (S'.rcOk e).1, r, C0, dx, p, vs, j, rfl, h2, c, t, E.nx F' _ σ _ S2 (q a)⟩, E.exits⟩
/-- what a field alone holds becomes still -/
def dFzF (i j : Nat) (g : DS) : DS := fun D ρ => match look ρ i with
  | .rcd r k fs => (match fld fs j with
    | some (_, .lst a ds) => g D (put ρ i (.rcd r k (setF fs j (.dat (.ref a) (.list ds)))))
    | _ => g D ρ)
  | _ => g D ρ
end
end DL
set_option Elab.async false
set_option linter.all false
set_option maxRecDepth 100000
set_option maxHeartbeats 4000000
/-! DR, records (3): defs and methods to which a record is lent -/
namespace DL
open PySem PySem.Spec PyProof.Rows L2
/-- the worth of a def that a record is lent to: arguments, value and the record's fields behind, exception -/
abbrev MFn := List DSlot → (PyData → Flds → Prop) → (ExcD → Prop) → Prop
def ArgOkR (K : KW) (F : Hp) (bg : Option Bag) (v : V) : DSlot → Prop
  | .data d => Is K F v d
  | .bag => ∃ p, bg = some p ∧ v = .ref p.1
  | .rcd r _ _ => v = .ref r
  | _ => False
def isRcd : DSlot → Bool
  | .rcd _ _ _ => true
  | _ => false
/-- the j-th argument is a record, no other one is -/
def recAt : List DSlot → Nat → Bool
  | [], _ => false
  | s :: r, 0 => isRcd s && r.all fun t => !isRcd t
  | s :: r, j + 1 => !isRcd s && recAt r j
theorem recAt_only : ∀ {ss : List DSlot} {j i : Nat} {r : Addr} {k : Option (Str × Addr)} {fs : Flds}, recAt ss j = true → ss[i]? = some (.rcd r k fs) → i = j
  | [], _, _, _, _, _, h, _ => by cases h
  | s :: t, 0, 0, _, _, _, _, _ => rfl
  | s :: t, 0, i + 1, r, k, fs, h, e => by
    unfold recAt at h
    rw [Bool.and_eq_true] at h
    simp only [List.getElem?_cons_succ] at e
    have := List.all_eq_true.mp h.2 _ (List.mem_of_getElem? e)
    cases this
  | s :: t, j + 1, 0, r, k, fs, h, e => by
    unfold recAt at h
    rw [Bool.and_eq_true] at h
    simp only [List.getElem?_cons_zero, Option.some.injEq] at e
    subst e
    cases h.1
  | s :: t, j + 1, i + 1, r, k, fs, h, e => by
    unfold recAt at h
    rw [Bool.and_eq_true] at h
    rw [recAt_only (ss := t) (j := j) (i := i) h.2 (by simpa using e)]
/-- the promise of a def to which a record is lent, as its argument j -/
def spM (K : KW) (j : Nat) (fn : MFn) : Sp := fun vs H Q E => ∃ F bg ss r k fs Qd Ed, Same F H ∧ (∀ p, bg = some p → BagOk K F H p) ∧ Paired (ArgOkR K F bg) vs ss ∧ ss[j]? = some (.rcd r k fs) ∧ recAt ss j = true ∧ RecOk K F H r k fs ∧
  (∀ a ∈ recAddrs r k fs, F a = none ∧ ∀ p, bg = some p → a ≠ p.1 ∧ a ≠ p.2) ∧ fn ss Qd Ed ∧
  (∀ F' H' v d fs', Post F F' H H' bg (recAddrs r k fs) → (∀ p, bg = some p → BagOk K F' H' p) → RecOk K F' H' r k fs' → (∀ a ∈ recAddrs r k fs', F' a = none ∧ (H a = none ∨ a ∈ recAddrs r k fs)) → Is K F' v d → Qd d fs' → Q v H') ∧
  (∀ F' H' c dd x, Post F F' H H' bg (recAddrs r k fs) → (∀ p, bg = some p → BagOk K F' H' p) → ExcIs K F' H' c dd x → Ed x → E c dd H')
section
variable {K : KW} {C : Ctx} {F F' H H' : Hp} {σ : L2.St} {ρ : DEnv} {i : Nat} {r : Addr} {k : Option (Str × Addr)} {fs fs' : Flds}
/-- behind a call that had slot i's record -/
theorem Sd.postL (S : Sd K C F H σ ρ) (hm : C.mu = true) (e : look ρ i = .rcd r k fs) (P : Post F F' H H' C.bg (recAddrs r k fs)) (hb : ∀ p, C.bg = some p → BagOk K F' H' p) {t : DSlot} (ht : SlotOk K F' H' C.bg (val σ i) t)
    (hto : ∀ a, Owns (val σ i) t a → F' a = none ∧ (H a = none ∨ a ∈ recAddrs r k fs)) (hfz : ∀ a ∈ recAddrs r k fs, C.H0 a = none ∨ a ∈ C.lent) : Sd K C F' H' σ (put ρ i t) := by
  obtain ⟨hr, hok⟩ := S.rcOk e
  have own : ∀ a, Owns (val σ i) (look ρ i) a ↔ a ∈ recAddrs r k fs := fun a => ⟨fun q => by rw [e] at q; exact q.rD, fun q => by rw [e]; exact .r q⟩
  have nbg : ∀ p, C.bg = some p → p.1 ∉ recAddrs r k fs ∧ p.2 ∉ recAddrs r k fs := fun p hp => ⟨fun z => ((S.own i _ ((own _).mpr z)).2.2 p hp).1 rfl, fun z => ((S.own i _ ((own _).mpr z)).2.2 p hp).2 rfl⟩
  have hl : i < ρ.length := by rw [S.len]; exact val_lt hr
  have oth : ∀ l a, i ≠ l → Owns (val σ l) (look ρ l) a → a ∉ recAddrs r k fs := fun l a h q z => h (S.dj i l a ((own a).mpr z) q)
  have new : ∀ a, Owns (val σ i) t a → (C.H0 a = none ∨ a ∈ C.lent) ∧ (∀ p, C.bg = some p → a ≠ p.1 ∧ a ≠ p.2) ∧ ∀ l, i ≠ l → ¬ Owns (val σ l) (look ρ l) a := fun a z => by
    rcases (hto a z).2 with w | w
    · obtain ⟨g1, _, g3, g4⟩ := S.off w
      exact ⟨.inl g1, g3, fun l _ => g4 l⟩
    · obtain ⟨g1, g2, g3⟩ := S.own i a ((own a).mpr w)
      exact ⟨g2 hm, g3, fun l hj q => oth l a hj q w⟩
  refine ⟨S.le0.trans P.f, P.le, fun a o q hb hnl => ?_, fun a h => P.alive a (S.alive a h), fun a h1 h2 hnl => ?_, hb, by rw [put_length]; exact S.len, fun l => ?_, fun l a q => ?_, fun l m a q1 q2 => ?_⟩
  · refine P.keep a o (S.frame a o q hb hnl) hb fun z => ?_
    rcases hfz a z with w | w
    · rw [w] at q; cases q
    · exact hnl w
  · refine P.still a (S.alive a h1) (S.still a h1 h2 hnl) fun z => ?_
    rcases hfz a z with w | w
    · exact h1 w
    · exact hnl w
  · rw [look_put]
    by_cases h : i = l
    · subst h; rw [if_pos ⟨rfl, hl⟩]; exact ht
    · rw [if_neg (fun z => h z.1)]
      exact (S.ok l).next P.f fun a ha o q => P.keep a o q (S.own l a ha).2.2 (oth l a h ha)
  · rw [look_put] at q
    by_cases h : i = l
    · subst h; rw [if_pos ⟨rfl, hl⟩] at q
      obtain ⟨g1, g2, _⟩ := new a q
      exact ⟨(hto a q).1, fun _ => g1, g2⟩
    · rw [if_neg (fun z => h z.1)] at q
      obtain ⟨g1, g2, g3⟩ := S.own l a q
      exact ⟨P.still a ((S.ok l).there q) g1 (oth l a h q), g2, g3⟩
  · rw [look_put] at q1 q2
    by_cases h : i = l
    · by_cases h' : i = m
      · rw [← h, ← h']
      · subst h
        rw [if_pos ⟨rfl, hl⟩] at q1
        rw [if_neg (fun z => h' z.1)] at q2
        exact absurd q2 ((new a q1).2.2 m h')
    · rw [if_neg (fun z => h z.1)] at q1
      by_cases h' : i = m
      · subst h'
        rw [if_pos ⟨rfl, hl⟩] at q2
        exact absurd q1 ((new a q2).2.2 l h)
      · rw [if_neg (fun z => h' z.1)] at q2; exact S.dj l m a q1 q2
theorem Sd.lentOk (S : Sd K C F H σ ρ) (hm : C.mu = true) (e : look ρ i = .rcd r k fs) : ∀ a ∈ recAddrs r k fs, C.H0 a = none ∨ a ∈ C.lent := fun a ha => (S.own i a (by rw [e]; exact .r ha)).2.1 hm
theorem Sd.backR (S : Sd K C F H σ ρ) (hm : C.mu = true) (e : look ρ i = .rcd r k fs) (P : Post F F' H H' C.bg (recAddrs r k fs)) (hb : ∀ p, C.bg = some p → BagOk K F' H' p) (R : RecOk K F' H' r k fs') (hn : ∀ a ∈ recAddrs r k fs', F' a = none ∧ (H a = none ∨ a ∈ recAddrs r k fs)) : Sd K C F' H' σ (put ρ i (.rcd r k fs')) :=
  S.postL hm e P hb ⟨(S.rcOk e).1, R⟩ (fun a q => hn a q.rD) (S.lentOk hm e)
theorem Sd.backU (S : Sd K C F H σ ρ) (hm : C.mu = true) (e : look ρ i = .rcd r k fs) (P : Post F F' H H' C.bg (recAddrs r k fs)) (hb : ∀ p, C.bg = some p → BagOk K F' H' p) : Sd K C F' H' σ (put ρ i .undef) :=
  S.postL hm e P hb trivial (fun a q => (q.not rfl).elim) (S.lentOk hm e)
end
/-! ### a def by its body's reading -/
def endsM (r : Addr) (k : Option (Str × Addr)) (j : Nat) (Q : PyData → Flds → Prop) (E : ExcD → Prop) : DEnds :=
  { nx := fun ρ => match look ρ j with | .rcd r' k' fs => r' = r ∧ k' = k ∧ Q .none fs | _ => False, rt := fun d ρ => match look ρ j with | .rcd r' k' fs => r' = r ∧ k' = k ∧ Q d fs | _ => False, ex := E }
theorem sd_startM {K : KW} {F H : Hp} {bg : Option Bag} {vs : List V} {ss : List DSlot} {N : List Str} {r : Addr} {k : Option (Str × Addr)} {fs : Flds} {j : Nat} (le : Same F H) (hb : ∀ p, bg = some p → BagOk K F H p) (ha : Paired (ArgOkR K F bg) vs ss) (hj : ss[j]? = some (.rcd r k fs)) (h1 : recAt ss j = true) (R : RecOk K F H r k fs)
    (hl : ∀ a ∈ recAddrs r k fs, F a = none ∧ ∀ p, bg = some p → a ≠ p.1 ∧ a ≠ p.2) (hn : vs.length ≤ N.length) : Sd K ⟨H, F, bg, true, recAddrs r k fs⟩ F H (start N vs) (startD N.length ss) := by
  have el : vs.length = ss.length := Paired.length ha
  have get : ∀ {us : List V} {ts : List DSlot}, Paired (ArgOkR K F bg) us ts → ∀ (i : Nat), (us[i]? = none ∧ ts[i]? = none) ∨ ∃ v s, us[i]? = some v ∧ ts[i]? = some s ∧ ArgOkR K F bg v s := by
    intro us ts h
    induction h with
    | nil => intro i; simp
    | cons r t ih =>
      intro i
      cases i with
      | zero => exact .inr ⟨_, _, by simp, by simp, r⟩
      | succ i => simpa using ih i
  have vl : ∀ (i : Nat), val (start N vs) i = vs[i]? := by
    intro i
    unfold val L2.start
    by_cases h : i < vs.length
    · rw [List.getElem?_append_left (by simpa using h), List.getElem?_map, List.getElem?_eq_getElem h]; rfl
    · rw [List.getElem?_append_right (by simpa using h), List.getElem?_eq_none (show vs.length ≤ i by omega), List.getElem?_replicate]
      split <;> rfl
  have only : ∀ (i : Nat) (a : Addr), Owns (val (start N vs) i) (look (startD N.length ss) i) a → i = j ∧ a ∈ recAddrs r k fs := by
    intro i a h
    rw [vl, look_start] at h
    rcases get ha i with ⟨e1, e2⟩ | ⟨v, s, e1, e2, q⟩
    · rw [e2] at h; exact (h.not rfl).elim
    · rw [e2] at h
      cases s with
      | undef => exact (h.not rfl).elim
      | data d => exact (h.not rfl).elim
      | bag => exact h.bag.elim
      | ownL _ => exact (show False from q).elim
      | ownD _ => exact (show False from q).elim
      | rcd r' k' fs' =>
        have ej := recAt_only h1 e2
        subst ej
        rw [hj] at e2; cases e2
        exact ⟨rfl, h.rD⟩
  refine ⟨Same.refl _, le, fun _ _ e _ _ => e, fun _ h => h, fun _ _ h _ => h, hb, ?_, fun i => ?_, fun i a q => ?_, fun i l a q1 q2 => (only i a q1).1.trans (only l a q2).1.symm⟩
  · unfold startD L2.start
    rw [List.length_append, List.length_append, List.length_replicate, List.length_replicate, List.length_map, el]
  · rw [vl, look_start]
    rcases get ha i with ⟨e1, e2⟩ | ⟨v, s, e1, e2, q⟩
    · rw [e2]; trivial
    · rw [e1, e2]
      show SlotOk K F H bg (some v) s
      cases s with
      | undef => trivial
      | data d => exact ⟨v, rfl, q⟩
      | bag => obtain ⟨p, h1, h2⟩ := q; exact ⟨p, h1, by rw [h2]⟩
      | ownL _ => exact (show False from q).elim
      | ownD _ => exact (show False from q).elim
      | rcd r' k' fs' =>
        have ej := recAt_only h1 e2
        subst ej
        rw [hj] at e2; cases e2
        exact ⟨by rw [show v = V.ref r from q], R⟩
  · obtain ⟨_, w⟩ := only i a q
    exact ⟨(hl a w).1, fun _ => .inr w, (hl a w).2⟩
section
variable {P : Program} {w : World} {K : PySem.W.Frag} {mg : Str → Option Value} {base : Heap} {k : Nat} {fa' : Addr} {fd : FuncData} {ps : List Str} {fn : MFn} {j : Nat}
theorem endsM_of {K : KW} {H F : Hp} {bg : Option Bag} {r : Addr} {kd : Option (Str × Addr)} {fs : Flds} {Q : VK} {E : XK} {Qd : PyData → Flds → Prop} {Ed : ExcD → Prop}
    (k1 : ∀ F' H' v d fs', Post F F' H H' bg (recAddrs r kd fs) → (∀ p, bg = some p → BagOk K F' H' p) → RecOk K F' H' r kd fs' → (∀ a ∈ recAddrs r kd fs', F' a = none ∧ (H a = none ∨ a ∈ recAddrs r kd fs)) → Is K F' v d → Qd d fs' → Q v H')
    (k2 : ∀ F' H' c dd x, Post F F' H H' bg (recAddrs r kd fs) → (∀ p, bg = some p → BagOk K F' H' p) → ExcIs K F' H' c dd x → Ed x → E c dd H') :
    SEnds K (fun c dd _ H' => E c dd H') ⟨H, F, bg, true, recAddrs r kd fs⟩ { nx := fun _ H' => Q .non H', rt := Q } (endsM r kd j Qd Ed) := by
  have post : ∀ {F2 H2 : Hp} {σ : L2.St} {ρ : DEnv}, Sd K ⟨H, F, bg, true, recAddrs r kd fs⟩ F2 H2 σ ρ → Post F F2 H H2 bg (recAddrs r kd fs) := fun S => ⟨S.le0, S.le, S.frame, S.alive, S.still⟩
  have out : ∀ {F2 H2 : Hp} {σ : L2.St} {ρ : DEnv} {v : V} {d : PyData}, Sd K ⟨H, F, bg, true, recAddrs r kd fs⟩ F2 H2 σ ρ → Is K F2 v d → (match look ρ j with | .rcd r' k' fs => r' = r ∧ k' = kd ∧ Qd d fs | _ => False) → Q v H2 := by
    intro F2 H2 σ ρ v d S i q
    split at q
    · rename_i r' k' fs' e
      obtain ⟨rfl, rfl, q⟩ := q
      refine k1 F2 H2 v d fs' (post S) S.bag (S.rcOk e).2 (fun a ha => ?_) i q
      obtain ⟨g1, g2, _⟩ := S.own j a (by rw [e]; exact .r ha)
      exact ⟨g1, g2 rfl⟩
    · exact q.elim
  exact ⟨fun F2 H2 σ ρ S q => out S .non q, fun _ _ _ _ _ z => (show False from z).elim, fun _ _ _ _ _ z => (show False from z).elim, fun F2 H2 σ ρ v d S i q => out S i q, fun F2 H2 σ ρ c dd x S x1 q => k2 F2 H2 c dd x (post S) S.bag x1 q⟩
/-- .. that lets no exception out -/
theorem def_gM {x qual : Str} {st : Stmt} {N : List Str} (F : Fun K x qual st fa' fd) (S : FnScope N ps (defScope st)) (hlen : ∀ ss Q E, fn ss Q E → ss.length = ps.length)
    (hbody : ∀ (cdv : Value) (A : Around) (outer : List PySem.Env) (s : Shared) (H : Hp) (E : XK), RoomG k (A.deeper (envOfC qual (defScope st) s.heap.objs.size fa' cdv)) →
      ∃ g, PSs (cxOf CX0 P w K mg base N qual (defScope st) fa' cdv A outer s H E).nox (defBody st) (tDS ⟨K, w⟩ W0 g) ∧ ∀ ss r kd fs Q, ss[j]? = some (.rcd r kd fs) → fn ss Q (fun _ => False) → g (endsM r kd j Q fun _ => False) (startD N.length ss)) :
    FnG P w K mg base CX0 (k + 1) fa' fd ps (spM ⟨K, w⟩ j fun ss Q _ => fn ss Q fun _ => False) := by
  refine fun_g F S (fun vs H Q E ⟨F, bg, ss, r, kd, fs, Qd, Ed, _, _, ha, _, _, _, _, h, _⟩ => (Paired.length ha).trans (hlen ss _ _ h)) fun cdv A outer s H vs Q E hr ⟨F', bg, ss, r, kd, fs, Qd, Ed, le, hb, ha, hj, h1, R, hl, h, k1, k2⟩ => ?_
  obtain ⟨g, hg, q⟩ := hbody cdv A outer s H E hr
  have hlen' : ss.length = ps.length := hlen ss _ _ h
  have hN : vs.length ≤ N.length := by
    have e := congrArg List.length S.pre
    rw [List.length_take] at e
    have := Paired.length ha
    omega
  have ends := endsM_of (j := j) (Ed := fun _ => False) (E := fun _ _ _ => False) k1 fun _ _ _ _ _ _ _ _ z => z.elim
  exact ⟨_, hg, ⟨H, F', bg, true, recAddrs r kd fs⟩, F', startD N.length ss, _, rfl, sd_startM le hb ha hj h1 R hl hN, q ss r kd fs Qd hj h, ⟨ends.nx, ends.bk, ends.ct, ends.rt, fun _ _ _ _ _ _ _ _ _ z => (show False from z).elim⟩⟩
/-- .. that may raise (a method) -/
theorem def_okM {x qual : Str} {st : Stmt} {N : List Str} (F : Fun K x qual st fa' fd) (S : FnScope N ps (defScope st)) (hlen : ∀ ss Q E, fn ss Q E → ss.length = ps.length)
    (hbody : ∀ (cdv : Value) (A : Around) (outer : List PySem.Env) (s : Shared) (H : Hp) (E : XK), Room k (A.deeper (envOfC qual (defScope st) s.heap.objs.size fa' cdv)) →
      ∃ g, PSs (cxOf (L2.CX P w) P w K mg base N qual (defScope st) fa' cdv A outer s H E) (defBody st) (tDS ⟨K, w⟩ (fun c dd _ H' => E c dd H') g) ∧ ∀ ss r kd fs Q Ed, ss[j]? = some (.rcd r kd fs) → fn ss Q Ed → g (endsM r kd j Q Ed) (startD N.length ss)) :
    FnOk P w K mg base (L2.CX P w) (k + 1) fa' fd ps (spM ⟨K, w⟩ j fn) := by
  refine F.okX S (fun vs H Q E ⟨F, bg, ss, r, kd, fs, Qd, Ed, _, _, ha, _, _, _, _, h, _⟩ => (Paired.length ha).trans (hlen ss _ _ h)) fun cdv A outer s H vs Q E hr ⟨F', bg, ss, r, kd, fs, Qd, Ed, le, hb, ha, hj, h1, R, hl, h, k1, k2⟩ => ?_
  obtain ⟨g, hg, q⟩ := hbody cdv A outer s H E hr
  have hlen' : ss.length = ps.length := hlen ss _ _ h
  have hN : vs.length ≤ N.length := by
    have e := congrArg List.length S.pre
    rw [List.length_take] at e
    have := Paired.length ha
    omega
  exact ⟨_, hg, ⟨H, F', bg, true, recAddrs r kd fs⟩, F', startD N.length ss, _, rfl, sd_startM le hb ha hj h1 R hl hN, q ss r kd fs Qd Ed hj h, endsM_of k1 k2⟩
end
/-! ### expressions that may change a record -/
abbrev DEM := DEnv → (PyData → DEnv → Prop) → (ExcD → DEnv → Prop) → Prop
def ExitsM (K : KW) (W : WX) (C : Ctx) (σ : L2.St) (Ed : ExcD → DEnv → Prop) : Prop := ∀ F' H' c dd x ρ', Sd K C F' H' σ ρ' → ExcIs K F' H' c dd x → Ed x ρ' → W c dd σ H'
def tDM (K : KW) (W : WX) (f : DEM) : TE := fun σ H Q => ∃ C F ρ Qd Ed, C.mu = true ∧ Sd K C F H σ ρ ∧ f ρ Qd Ed ∧ (∀ F' H' v d ρ', Sd K C F' H' σ ρ' → Same F F' → Is K F' v d → Qd d ρ' → Q v H') ∧ ExitsM K W C σ Ed
/-- arguments, a record among them -/
def tAR (K : KW) (W : WX) (f : DA) : TA := fun σ H Q => ∃ C F ρ Qd Ed, Sd K C F H σ ρ ∧ f ρ Qd Ed ∧ (∀ F' H' vs ss, Sd K C F' H' σ ρ → Same F F' → Paired (ArgOkR K F' C.bg) vs ss → Qd ss → Q vs H') ∧ Exits K W C σ ρ Ed
/-- the record of slot i -/
def aRec (i : Nat) (fs : DA) : DA := fun ρ Q E => match look ρ i with | .rcd r k fl => fs ρ (fun ss => Q (.rcd r k fl :: ss)) E | _ => False
section
variable {X : Cx} {W : WX} {pos : Pos} {e o a b c : Expr} {es : List Expr} {f : DE} {fas : DA} {fm gm : DEM} {i j : Nat} {fn : MFn}
theorem argR_up {K : KW} {F F' : Hp} {bg : Option Bag} (s : Same F F') {vs : List V} {ss : List DSlot} (h : Paired (ArgOkR K F bg) vs ss) : Paired (ArgOkR K F' bg) vs ss := by
  refine Paired.mapP h fun v t q => ?_
  cases t with
  | data d => exact Is.up (show Is K F v d from q) s
  | bag => exact q
  | undef => exact q
  | ownL _ => exact q
  | ownD _ => exact q
  | rcd _ _ _ => exact q
theorem qr_nil : PA X [] (tAR X.kw W aNil) := PA.weak pa_nil fun σ H Q ⟨C, F, ρ, Qd, Ed, S, h, k, _⟩ => k F H _ _ S (Same.refl _) .nil h
theorem qr_cons (ha : PE X e (tD X.kw W f)) (hr : PA X es (tAR X.kw W fas)) (hs : starEach (e :: es) X.env = (false, eval e X.env) :: starEach es X.env := by rfl) : PA X (e :: es) (tAR X.kw W (aCons f fas)) :=
  PA.weak (pa_cons ha hr hs) fun σ H Q ⟨C, F, ρ, Qd, Ed, S, h, k, x⟩ => ⟨C, F, ρ, _, Ed, S, h, fun F1 H1 v d S1 s1 i1 q1 => ⟨C, F1, ρ, _, Ed, S1, q1, fun F2 H2 vs ss S2 s2 i2 q2 =>
    k F2 H2 (v :: vs) (.data d :: ss) S2 (s1.trans s2) (.cons (show ArgOkR X.kw F2 C.bg v (.data d) from i1.up s2) i2) q2, x⟩, x⟩
theorem qr_rec' (ha : PE X e (tVar i)) (hr : PA X es (tAR X.kw W fas)) (hs : starEach (e :: es) X.env = (false, eval e X.env) :: starEach es X.env := by rfl) : PA X (e :: es) (tAR X.kw W (aRec i fas)) :=
  PA.weak (pa_cons ha hr hs) fun σ H Q ⟨C, F, ρ, Qd, Ed, S, h, k, x⟩ => by
    unfold aRec at h
    split at h
    · rename_i r kd fl e
      exact ⟨_, val_some (S.rcOk e).1, C, F, ρ, _, Ed, S, h, fun F2 H2 vs ss S2 s2 i2 q2 => k F2 H2 (.ref r :: vs) (.rcd r kd fl :: ss) S2 s2 (.cons (show ArgOkR X.kw F2 C.bg (.ref r) (.rcd r kd fl) from rfl) i2) q2, x⟩
    · exact h.elim
theorem qr_rec (i : Nat) {x : Str} {pos : Pos} (hr : PA X es (tAR X.kw W fas)) (hN : X.N[i]? = some x := by rfl) (hv : Vis X.env.scope x := by first | exact Or.inl rfl | exact Or.inr (Or.inl rfl) | exact Or.inr (Or.inr rfl)) (hd : (x == ("__debug__" : Str)) = false := by decide)
    (hcd : (x == ("__classdict__" : Str)) = false := by decide) (hs : starEach (.Name x pos :: es) X.env = (false, eval (.Name x pos) X.env) :: starEach es X.env := by rfl) : PA X (.Name x pos :: es) (tAR X.kw W (aRec i fas)) := qr_rec' (pe_var hN hv hd hcd) hr hs
/-- a call with slot i's record: what it gives, the record behind -/
def dFnM (i j : Nat) (fn : MFn) (fas : DA) : DEM := fun ρ Q E => fas ρ (fun ss => match look ρ i with
  | .rcd r k fs => ss[j]? = some (.rcd r k fs) ∧ recAt ss j = true ∧ fn ss (fun d fs' => Q d (put ρ i (.rcd r k fs'))) fun x => E x (put ρ i .undef)
  | _ => False) fun x => E x ρ
/-- .. that leaves the record as it was, lets no exception out -/
def dFnR (i j : Nat) (fn : MFn) (fas : DA) : DE := fun ρ Q E => fas ρ (fun ss => match look ρ i with
  | .rcd r k fs => ss[j]? = some (.rcd r k fs) ∧ recAt ss j = true ∧ fn ss (fun d fs' => fs' = fs ∧ Q d) fun _ => False
  | _ => False) E
theorem put_same {ρ : DEnv} {i : Nat} {t : DSlot} (h : look ρ i = t) : put ρ i t = ρ := by
  refine look_ext (by rw [put_length]) fun l => ?_
  rw [look_put]
  split
  · rename_i q; rw [← q.1]; exact h.symm
  · rfl
/-- what is called is worth fn; the call, by values -/
theorem spM_call {C : Ctx} {F H : Hp} {σ : L2.St} {ρ : DEnv} {vs : List V} {ss : List DSlot} {r : Addr} {kd : Option (Str × Addr)} {fs : Flds} {Q : VK} {E : XK} {K : KW} {Qd : PyData → Flds → Prop} {Ed : ExcD → Prop} (S : Sd K C F H σ ρ) (hm : C.mu = true) (e : look ρ i = .rcd r kd fs) (ha : Paired (ArgOkR K F C.bg) vs ss) (hj : ss[j]? = some (.rcd r kd fs)) (h1 : recAt ss j = true) (h : fn ss Qd Ed)
    (k1 : ∀ F' H' v d fs', Sd K C F' H' σ (put ρ i (.rcd r kd fs')) → Same F F' → Is K F' v d → Qd d fs' → Q v H') (k2 : ∀ F' H' c dd x, Sd K C F' H' σ (put ρ i .undef) → ExcIs K F' H' c dd x → Ed x → E c dd H') : spM K j fn vs H Q E :=
  ⟨F, C.bg, ss, r, kd, fs, Qd, Ed, S.le, S.bag, ha, hj, h1, (S.rcOk e).2, fun a ha => let q := S.own i a (by rw [e]; exact .r ha); ⟨q.1, q.2.2⟩, h,
    fun F' H' v d fs' P hb R hn i' q => k1 F' H' v d fs' (S.backR hm e P hb R hn) P.f i' q, fun F' H' c dd x P hb x' q => k2 F' H' c dd x (S.backU hm e P hb) x' q⟩
/-- .. within a comprehension, too: nothing is changed there -/
theorem spM_read {C : Ctx} {F H : Hp} {σ : L2.St} {ρ : DEnv} {vs : List V} {ss : List DSlot} {r : Addr} {kd : Option (Str × Addr)} {fs : Flds} {Q : VK} {E : XK} {K : KW} {Qd : PyData → Prop} (S : Sd K C F H σ ρ) (hm : C.mu = true) (e : look ρ i = .rcd r kd fs) (ha : Paired (ArgOkR K F C.bg) vs ss) (hj : ss[j]? = some (.rcd r kd fs)) (h1 : recAt ss j = true) (h : fn ss (fun d fs' => fs' = fs ∧ Qd d) fun _ => False)
    (k1 : ∀ F' H' v d, Sd K C F' H' σ ρ → Same F F' → Is K F' v d → Qd d → Q v H') : spM K j fn vs H Q E :=
  spM_call S hm e ha hj h1 h (fun F' H' v d fs' S' s' i' ⟨q1, q2⟩ => by subst q1; rw [put_same e] at S'; exact k1 F' H' v d S' s' i' q2) fun _ _ _ _ _ _ _ z => z.elim
variable {x : Str} {p : Pos} {k : Nat} {fa' : Addr} {fd : FuncData} {ps : List Str}
theorem pdm_fn (F : FnG X.prog X.w X.K X.mg X.base CX0 k fa' fd ps (spM X.kw j fn)) (hr : RoomG k X.A) (hm : X.mg x = some (.ref fa')) (hk : PySem.W.keepIn X.K (.ref fa') = true) (hb : Binds X.K fd ps [])
    (ha : PA X (e :: es) (tAR X.kw W fas)) (hg : Gl X x := by rfl) (hdb : (x == ("__debug__" : Str)) = false := by decide) (he : starEach (e :: es) X.env = (false, eval e X.env) :: starEach es X.env := by rfl) (hpl : (backTo pos (starEach es X.env)).any (·.1) = false := by rfl) :
    PE X (.Call (.Name x p) (e :: es) [] pos) (tDM X.kw W (dFnM i j (fun ss Q _ => fn ss Q fun _ => False) fas)) :=
  PE.weak (pe_callG F hr hg hm hk hb ha hdb he hpl) fun σ H Q ⟨C, F, ρ, Qd, Ed, m, S, h, k, x⟩ => ⟨C, F, ρ, _, _, S, h, fun F1 H1 vs ss S1 s1 i1 q1 => by
    show spM X.kw j fn (vs ++ []) H1 Q E0
    rw [List.append_nil]
    split at q1
    · rename_i r kd fs e
      exact spM_call S1 m e i1 q1.1 q1.2.1 q1.2.2 (fun F2 H2 v d fs' S2 s2 i2 q2 => k F2 H2 v d _ S2 (s1.trans s2) i2 q2) fun _ _ _ _ _ _ _ z => z.elim
    · exact q1.elim, fun F' H' c dd y S' e' q' => x F' H' c dd y ρ S' e' q'⟩
end
end DL
set_option Elab.async false
set_option linter.all false
set_option maxRecDepth 100000
set_option maxHeartbeats 4000000
/-! DR, records (4): defs that read a record; methods; statements whose expression changes a record; while -/
namespace DL
open PySem PySem.Spec PyProof.Rows L2
/-! ### statements that change nothing that stands -/
def tDN (K : KW) (W : WX) (g : DS) : TS := fun D σ H => ∃ C F ρ Dd, Sd K C F H σ ρ ∧ g Dd ρ ∧ SEnds K W C D Dd
section
variable {X : Cx} {W : WX} {pos : Pos} {e a b c : Expr} {es : List Expr} {st : Stmt} {sts : List Stmt} {gs hs' : DS} {f : DE} {t : DT} {fi : DL'} {g : DG} {fe : DE}
theorem dn_cons (h1 : PS X st (tDN X.kw W gs)) (h2 : PSs X sts (tDN X.kw W hs')) : PSs X (st :: sts) (tDN X.kw W (dSeq gs hs')) :=
  PSs.weak (pss_cons h1 h2) fun D σ H ⟨C, F, ρ, Dd, S, h, E⟩ => ⟨C, F, ρ, _, S, h, ⟨fun F' H' σ' ρ' S' q => ⟨C, F', ρ', Dd, S', q, E⟩, E.bk, E.ct, E.rt, E.ex⟩⟩
theorem dn_one (h1 : PS X st (tDN X.kw W gs)) : PSs X [st] (tDN X.kw W gs) := pss_one h1
theorem dn_ret (h : PE X e (tD X.kw W f)) : PS X (.Return (some e) pos) (tDN X.kw W (dRet f)) := PS.weak (ps_ret h) fun D σ H ⟨C, F, ρ, Dd, S, h, E⟩ =>
  ⟨C, F, ρ, _, Dd.ex, S, h, fun F' H' v d S' s' i q => E.rt F' H' σ ρ v d S' i q, E.exits⟩
theorem dn_set (i : Nat) {x : Str} {pos' : Pos} (hN : X.N.Nodup) (he : PE X e (tD X.kw W f)) (hi : X.N[i]? = some x := by rfl) (hx : Loc X.env.scope x := by first | exact Or.inl rfl | exact Or.inr rfl) (hs : swapsWith e (some (.Name x pos')) pos.line X.env = pure false := by rfl)
    (hf : X.fn x = true ∨ X.env.scope.names.lookup x = some .local := by first | exact .inl rfl | exact .inr rfl) : PS X (.Assign [.Name x pos'] e pos) (tDN X.kw W (dSet i f)) :=
  PS.weak (ps_set hN hi hx he hs hf) fun D σ H ⟨C, F, ρ, Dd, S, h, E⟩ => ⟨C, F, ρ, _, Dd.ex, S, h.2, fun F' H' v d S' s' i' q => E.nx F' H' _ _ (S'.storeD (by rw [← S.len]; exact h.1) i') q, E.exits⟩
/-- name = [..] on one line -/
theorem dn_setLc {iter elt tg : Expr} {ifs : List Expr} {scope : Scope} {own : List (Str × Nat)} {w : Bool} (i : Nat) {y : Str} {py spos : Pos} (hc : X.calm = true) (hN : X.N.Nodup) (ok : BlkOk X.N X.env.scope scope own) (hi : PI X tg iter (tI X.kw w W fi))
    (hg : ∀ (s : Shared) (H : Hp) (C : Addr) (cl : List (Str × Addr)) (fp : List Addr), PG (X.blk s H scope (compEnvC scope cl C X.env) fp) tg (tGD X.kw w (own.map (·.2)) g)) (ht : ∀ (s : Shared) (H : Hp) (C : Addr) (cl : List (Str × Addr)) (fp : List Addr), PTs (X.blk s H scope (compEnvC scope cl C X.env) fp) ifs (tT X.kw W0 t))
    (he : ∀ (s : Shared) (H : Hp) (C : Addr) (cl : List (Str × Addr)) (fp : List Addr), PE (X.blk s H scope (compEnvC scope cl C X.env) fp) elt (tD X.kw W0 fe)) (hs : ∀ x, foldedSetIterable iter X.env x = pure x := by intro _; rfl)
    (hy : X.N[i]? = some y := by rfl) (hyl : X.env.scope.names.lookup y = some .local := by rfl) (hsw : swapsWith (.ListComp elt [⟨tg, iter, ifs, 0⟩] scope pos) (some (.Name y py)) spos.line X.env = pure true := by exact sw_true rfl rfl rfl (by decide +kernel)) :
    PS X (.Assign [.Name y py] (.ListComp elt [⟨tg, iter, ifs, 0⟩] scope pos) spos) (tDN X.kw W (dSet i (dFrz (dLc fi g t fe (own.map (·.2)))))) :=
  PS.weak (ps_setLc hc hN hy hyl hsw hi ok hg ht he hs) fun D σ H ⟨C, F, ρ, Dd, S, h, E⟩ =>
      lc_read σ H _ ⟨C, F, ρ, _, Dd.ex, S, h.2, fun F' H' a xs ds S' s' ap e z i' q => E.nx (upd F' a (.lst xs)) H' _ _ ((S'.freeze ap e).storeD (by rw [← S.len]; exact h.1) (.lst upd_same z (i'.up fun b u q => by rw [upd_ne (ne_of_none q ap.f)]; exact q))) q, E.exits⟩
end
/-! ### a def that reads a record -/
def spR (K : KW) (j : Nat) (fn : DFn) : Sp := fun vs H Q _ => ∃ F bg ss r k fs Qd, Same F H ∧ (∀ p, bg = some p → BagOk K F H p) ∧ Paired (ArgOkR K F bg) vs ss ∧ ss[j]? = some (.rcd r k fs) ∧ recAt ss j = true ∧ RecOk K F H r k fs ∧
  (∀ a ∈ recAddrs r k fs, F a = none ∧ ∀ p, bg = some p → a ≠ p.1 ∧ a ≠ p.2) ∧ fn ss Qd (fun _ => False) ∧
  (∀ F' H' v d, Post F F' H H' bg [] → (∀ p, bg = some p → BagOk K F' H' p) → Is K F' v d → Qd d → Q v H')
def endsR (Q : PyData → Prop) : DEnds := { nx := fun _ => False, rt := fun d _ => Q d }
section
variable {P : Program} {w : World} {K : PySem.W.Frag} {mg : Str → Option Value} {base : Heap} {k : Nat} {fa' : Addr} {fd : FuncData} {ps : List Str} {fn : DFn} {j : Nat}
theorem endsR_of {K : KW} {W : WX} {H F : Hp} {bg : Option Bag} {Q : VK} {Qd : PyData → Prop}
    (k1 : ∀ F' H' v d, Post F F' H H' bg [] → (∀ p, bg = some p → BagOk K F' H' p) → Is K F' v d → Qd d → Q v H') :
    SEnds K W ⟨H, F, bg, false, []⟩ { nx := fun _ H' => Q .non H', rt := Q } (endsR Qd) :=
  ⟨fun _ _ _ _ _ q => (show False from q).elim, fun _ _ _ _ _ z => (show False from z).elim, fun _ _ _ _ _ z => (show False from z).elim, fun F2 H2 σ ρ v d S i q => k1 F2 H2 v d ⟨S.le0, S.le, S.frame, S.alive, S.still⟩ S.bag i q, fun _ _ _ _ _ _ _ _ _ z => (show False from z).elim⟩
theorem def_gR {x qual : Str} {st : Stmt} {N : List Str} (F : Fun K x qual st fa' fd) (S : FnScope N ps (defScope st)) (hlen : ∀ ss Q E, fn ss Q E → ss.length = ps.length)
    (hbody : ∀ (cdv : Value) (A : Around) (outer : List PySem.Env) (s : Shared) (H : Hp) (E : XK), RoomG k (A.deeper (envOfC qual (defScope st) s.heap.objs.size fa' cdv)) →
      ∃ g, PSs (cxOf CX0 P w K mg base N qual (defScope st) fa' cdv A outer s H E).nox (defBody st) (tDN ⟨K, w⟩ W0 g) ∧ ∀ ss Q, fn ss Q (fun _ => False) → g (endsR Q) (startD N.length ss)) :
    FnG P w K mg base CX0 (k + 1) fa' fd ps (spR ⟨K, w⟩ j fn) := by
  refine fun_g F S (fun vs H Q E ⟨F, bg, ss, r, kd, fs, Qd, _, _, ha, _, _, _, _, h, _⟩ => (Paired.length ha).trans (hlen ss _ _ h)) fun cdv A outer s H vs Q E hr ⟨F', bg, ss, r, kd, fs, Qd, le, hb, ha, hj, h1, R, hl, h, k1⟩ => ?_
  obtain ⟨g, hg, q⟩ := hbody cdv A outer s H E hr
  have hlen' : ss.length = ps.length := hlen ss _ _ h
  have hN : vs.length ≤ N.length := by
    have e := congrArg List.length S.pre
    rw [List.length_take] at e
    have := Paired.length ha
    omega
  exact ⟨_, hg, ⟨H, F', bg, false, []⟩, F', startD N.length ss, _, (sd_startM le hb ha hj h1 R hl hN).nest, q ss Qd h, endsR_of k1⟩
/-- .. a method -/
theorem def_okR {x qual : Str} {st : Stmt} {N : List Str} (F : Fun K x qual st fa' fd) (S : FnScope N ps (defScope st)) (hlen : ∀ ss Q E, fn ss Q E → ss.length = ps.length)
    (hbody : ∀ (cdv : Value) (A : Around) (outer : List PySem.Env) (s : Shared) (H : Hp) (E : XK), Room k (A.deeper (envOfC qual (defScope st) s.heap.objs.size fa' cdv)) →
      ∃ g, PSs (cxOf (L2.CX P w) P w K mg base N qual (defScope st) fa' cdv A outer s H E) (defBody st) (tDN ⟨K, w⟩ (fun c dd _ H' => E c dd H') g) ∧ ∀ ss Q, fn ss Q (fun _ => False) → g (endsR Q) (startD N.length ss)) :
    FnOk P w K mg base (L2.CX P w) (k + 1) fa' fd ps (spR ⟨K, w⟩ j fn) := by
  refine F.okX S (fun vs H Q E ⟨F, bg, ss, r, kd, fs, Qd, _, _, ha, _, _, _, _, h, _⟩ => (Paired.length ha).trans (hlen ss _ _ h)) fun cdv A outer s H vs Q E hr ⟨F', bg, ss, r, kd, fs, Qd, le, hb, ha, hj, h1, R, hl, h, k1⟩ => ?_
  obtain ⟨g, hg, q⟩ := hbody cdv A outer s H E hr
  have hlen' : ss.length = ps.length := hlen ss _ _ h
  have hN : vs.length ≤ N.length := by
    have e := congrArg List.length S.pre
    rw [List.length_take] at e
    have := Paired.length ha
    omega
  exact ⟨_, hg, ⟨H, F', bg, false, []⟩, F', startD N.length ss, _, (sd_startM le hb ha hj h1 R hl hN).nest, q ss Qd h, endsR_of k1⟩
end
/-- .. called with slot i's record -/
def dFnR' (i j : Nat) (fn : DFn) (fas : DA) : DE := fun ρ Q E => fas ρ (fun ss => match look ρ i with
  | .rcd r k fs => ss[j]? = some (.rcd r k fs) ∧ recAt ss j = true ∧ fn ss Q fun _ => False
  | _ => False) E
section
variable {X : Cx} {W : WX} {pos apos : Pos} {e o a b c : Expr} {es : List Expr} {f : DE} {fas : DA} {fm gm : DEM} {i j : Nat} {fn : DFn} {fM : MFn} {x m : Str} {p : Pos} {k : Nat} {fa' : Addr} {fd : FuncData} {ps : List Str} {t : DT}
theorem spR_call {K : KW} {C : Ctx} {F H : Hp} {σ : L2.St} {ρ : DEnv} {vs : List V} {ss : List DSlot} {r : Addr} {kd : Option (Str × Addr)} {fs : Flds} {Q : VK} {E : XK} {Qd : PyData → Prop} (S : Sd K C F H σ ρ) (e : look ρ i = .rcd r kd fs) (ha : Paired (ArgOkR K F C.bg) vs ss) (hj : ss[j]? = some (.rcd r kd fs)) (h1 : recAt ss j = true) (h : fn ss Qd fun _ => False)
    (k1 : ∀ F' H' v d, Sd K C F' H' σ ρ → Same F F' → Is K F' v d → Qd d → Q v H') : spR K j fn vs H Q E :=
  ⟨F, C.bg, ss, r, kd, fs, Qd, S.le, S.bag, ha, hj, h1, (S.rcOk e).2, fun a ha => let q := S.own i a (by rw [e]; exact .r ha); ⟨q.1, q.2.2⟩, h, fun F' H' v d P hb i' q => k1 F' H' v d (S.post P hb) P.f i' q⟩
theorem pd_fnR (F : FnG X.prog X.w X.K X.mg X.base CX0 k fa' fd ps (spR X.kw j fn)) (hr : RoomG k X.A) (hm : X.mg x = some (.ref fa')) (hk : PySem.W.keepIn X.K (.ref fa') = true) (hb : Binds X.K fd ps [])
    (ha : PA X (e :: es) (tAR X.kw W fas)) (hg : Gl X x := by rfl) (hdb : (x == ("__debug__" : Str)) = false := by decide) (he : starEach (e :: es) X.env = (false, eval e X.env) :: starEach es X.env := by rfl) (hpl : (backTo pos (starEach es X.env)).any (·.1) = false := by rfl) :
    PE X (.Call (.Name x p) (e :: es) [] pos) (tD X.kw W (dFnR' i j fn fas)) :=
  PE.weak (pe_callG F hr hg hm hk hb ha hdb he hpl) fun σ H Q ⟨C, F, ρ, Qd, Ed, S, h, k, x⟩ => ⟨C, F, ρ, _, _, S, h, fun F1 H1 vs ss S1 s1 i1 q1 => by
    show spR X.kw j fn (vs ++ []) H1 Q E0
    rw [List.append_nil]
    split at q1
    · rename_i r kd fs e
      exact spR_call S1 e i1 q1.1 q1.2.1 q1.2.2 fun F2 H2 v d S2 s2 i2 q2 => k F2 H2 v d S2 (s1.trans s2) i2 q2
    · exact q1.elim, x⟩
/-! ### methods of an instance with slots -/
/-- o.m(e, ..), what is raised wished for at the caller's slots -/
def tMethS (C : Addr) (sp : Sp) (E : L2.St → XK) (ta : TE) (t : TA) : TE := fun σ H Q => ta σ H fun x H1 => ∃ a dx vs, x = .ref a ∧ SlX.Slt H1 a C dx vs ∧ t σ H1 fun ws H2 => sp (x :: ws) H2 Q (E σ)
theorem run_fnRS {CX : CXT} {pins : List (Addr × Obj)} {σ : L2.St} {H : Hp} {s : Shared} {f : Addr} {sp : Sp} {E : XK} {Q : VK} {us : List Value} {vs : List V} (F : FnR X.prog X.w X.K X.mg X.base CX k f sp) (hr : Room k X.A) (hx : PassesAt CX X σ E) (I : Inv X pins σ H s) (r : Vals vs us) (h : sp vs H Q E) :
    codeAny (model X.prog X.w) X.A (.call (.ref f) ⟨us, []⟩) (fun r s' => match r with | .ok (.ret v) => EP X pins σ Q v s' | .ok _ => False | .error e => X.xe e s') s := by
  refine codeAny_mono (F X.A X.stack s H us vs Q E hr I.env0 r h) fun r s' hq => ?_
  cases r with
  | error e => exact hx pins H s e s' I hq
  | ok fl =>
    cases fl with
    | ret u => exact I.after hq
    | next => exact False.elim hq
    | brk => exact False.elim hq
    | cont => exact False.elim hq
theorem pe_methS {CX : CXT} {C g : Addr} {sp : Sp} {E : L2.St → XK} {pl : Sem Bool} {ta : TE} {t : TA} (he : PE X o ta) (c : SlX.SCls X.K C) (hm : Meth X.K C m g) (F : FnR X.prog X.w X.K X.mg X.base CX k g sp) (hr : Room k X.A) (hx : ∀ σ, PassesAt CX X σ (E σ)) (ha : PA X (e :: es) t)
    (hst : starEach (e :: es) X.env = (false, eval e X.env) :: starEach es X.env := by rfl) (hpl : (backTo pos (starEach es X.env)).any (·.1) = false := by rfl)
    (ht : eval (.Call (.Attribute o m apos) (e :: es) [] pos) X.env = (do
      let ov ← eval o X.env
      standAt apos.atName
      let (f, first) ← holding [ov] (getMethod ov m pl)
      callWith pos f first (backTo pos (starEach (e :: es) X.env)) (backToKw pos (keywordEach [] X.env))) := by rfl) :
    PE X (.Call (.Attribute o m apos) (e :: es) [] pos) (tMethS C sp E ta t) := by
  refine ⟨fun pins s σ H Q I h => ?_⟩
  refine PySem.W.methodCall_KW (pl := pl) (thn (he.run pins s σ H _ I h) fun u s1 ⟨x, H1, I1, rx, a, dx, vs, ex, hsl, q⟩ => ?_) ht
  subst ex
  obtain rfl : u = Value.ref a := rx
  refine SlX.getmethsl_ok I1 hsl c hm ?_
  refine PySem.W.callWith_K (first := [.ref a]) (h₀ := X.base) I.ok.mod.kin hm.kp (thn (ha.run pos pins s1 σ H1 _ I1 q) fun us s2 ⟨ws, H2, I2, r, q2⟩ => ⟨I2.kIn, ?_⟩) hst hpl
  exact wpAny_call (run_fnRS (us := .ref a :: us) (vs := .ref a :: ws) F hr (hx σ) I2 (.cons rfl r) q2)
theorem pe_methS0 {CX : CXT} {C g : Addr} {sp : Sp} {E : L2.St → XK} {pl : Sem Bool} {ta : TE} (he : PE X o ta) (c : SlX.SCls X.K C) (hm : Meth X.K C m g) (F : FnR X.prog X.w X.K X.mg X.base CX k g sp) (hr : Room k X.A) (hx : ∀ σ, PassesAt CX X σ (E σ))
    (ht : eval (.Call (.Attribute o m apos) [] [] pos) X.env = (do
      let ov ← eval o X.env
      standAt apos.atName
      let (f, first) ← holding [ov] (getMethod ov m pl)
      callWith pos f first (backTo pos (starEach [] X.env)) (backToKw pos (keywordEach [] X.env))) := by rfl) :
    PE X (.Call (.Attribute o m apos) [] [] pos) (tMethS C sp E ta tNil) := by
  refine ⟨fun pins s σ H Q I h => ?_⟩
  refine PySem.W.methodCall_KW (pl := pl) (thn (he.run pins s σ H _ I h) fun u s1 ⟨x, H1, I1, rx, a, dx, vs, ex, hsl, q⟩ => ?_) ht
  subst ex
  obtain rfl : u = Value.ref a := rx
  refine SlX.getmethsl_ok I1 hsl c hm ?_
  exact PySem.W.callWith_K0 (first := [.ref a]) I1.kIn hm.kp (wpAny_call (run_fnRS (us := [.ref a]) (vs := [.ref a]) F hr (hx σ) I1 (.cons rfl .nil) q))
/-- the record of slot i is an instance of the class that is called so -/
def dMeM (cn : Str) (i : Nat) (fn : MFn) (fas : DA) : DEM := fun ρ Q E => match look ρ i with
  | .rcd r k fs => k.map (·.1) = some cn ∧ fas ρ (fun ss => (ss.all fun t => !isRcd t) = true ∧ fn (.rcd r k fs :: ss) (fun d fs' => Q d (put ρ i (.rcd r k fs'))) fun x => E x (put ρ i .undef)) fun x => E x ρ
  | _ => False
def dMeR (cn : Str) (i : Nat) (fn : DFn) (fas : DA) : DE := fun ρ Q E => match look ρ i with
  | .rcd r k fs => k.map (·.1) = some cn ∧ fas ρ (fun ss => (ss.all fun t => !isRcd t) = true ∧ fn (.rcd r k fs :: ss) Q fun _ => False) E
  | _ => False
theorem rec_slt {K : KW} {C : Ctx} {F H : Hp} {σ : L2.St} {ρ : DEnv} {r C0 : Addr} {kd : Option (Str × Addr)} {fs : Flds} {cn : Str} (S : Sd K C F H σ ρ) (e : look ρ i = .rcd r kd fs) (hk : kd.map (·.1) = some cn) (hc : PySem.W.nsIn K.K mainGlobals cn = some (some (.ref C0))) : ∃ dx vs, SlX.Slt H r C0 dx vs := by
  obtain ⟨hr, hok⟩ := S.rcOk e
  cases kd with
  | none => cases hk
  | some kp =>
    obtain ⟨cn', dx⟩ := kp
    have hk : cn' = cn := by simpa using hk
    subst hk
    obtain ⟨_, ⟨_, C', vs, h1, h2, _⟩, _⟩ := hok
    rw [hc] at h1
    cases h1
    exact ⟨dx, vs, h2⟩
variable {cn : Str} {C0 g0 : Addr} {pl : Sem Bool}
theorem pdm_meth (hc : PySem.W.nsIn X.K mainGlobals cn = some (some (.ref C0))) (c : SlX.SCls X.K C0) (hm : Meth X.K C0 m g0) (F : FnOk X.prog X.w X.K X.mg X.base (L2.CX X.prog X.w) k g0 fd ps (spM X.kw 0 fM)) (hb : Binds X.K fd ps []) (hr : Room k X.A) (tk : Takes X W) (hx : PE X o (tVar i)) (ha : PA X (e :: es) (tAR X.kw W fas))
    (hst : starEach (e :: es) X.env = (false, eval e X.env) :: starEach es X.env := by rfl) (hpl : (backTo pos (starEach es X.env)).any (·.1) = false := by rfl)
    (ht : eval (.Call (.Attribute o m apos) (e :: es) [] pos) X.env = (do
      let ov ← eval o X.env
      standAt apos.atName
      let (f, first) ← holding [ov] (getMethod ov m pl)
      callWith pos f first (backTo pos (starEach (e :: es) X.env)) (backToKw pos (keywordEach [] X.env))) := by rfl) :
    PE X (.Call (.Attribute o m apos) (e :: es) [] pos) (tDM X.kw W (dMeM cn i fM fas)) :=
  PE.weak (pe_methS hx c hm (F.raw hb .nil) hr (fun σ => L2.passAt tk σ) ha hst hpl ht) fun σ H Q ⟨C, F, ρ, Qd, Ed, mu, S, h, k, x⟩ => by
    unfold dMeM at h
    split at h
    · rename_i r kd fs e
      obtain ⟨hk, h⟩ := h
      obtain ⟨dx, vs0, hsl⟩ := rec_slt S e hk hc
      refine ⟨_, val_some (S.rcOk e).1, r, dx, vs0, rfl, hsl, C, F, ρ, _, _, S, h, fun F1 H1 vs ss S1 s1 i1 q1 => ?_, fun F' H' cc dd y S' e' q' => x F' H' cc dd y ρ S' e' q'⟩
      show spM X.kw 0 fM ((V.ref r :: vs) ++ []) H1 Q _
      rw [List.append_nil]
      exact spM_call (ss := .rcd r kd fs :: ss) S1 mu e (.cons (show ArgOkR X.kw F1 C.bg (.ref r) (.rcd r kd fs) from rfl) i1) rfl (by show (true && _) = true; rw [q1.1]; rfl) q1.2 (fun F2 H2 v d fs' S2 s2 i2 q2 => k F2 H2 v d _ S2 (s1.trans s2) i2 q2) fun F2 H2 cc dd y S2 x2 q2 => x F2 H2 cc dd y _ S2 x2 q2
    · exact h.elim
theorem pdm_meth0 (hc : PySem.W.nsIn X.K mainGlobals cn = some (some (.ref C0))) (c : SlX.SCls X.K C0) (hm : Meth X.K C0 m g0) (F : FnOk X.prog X.w X.K X.mg X.base (L2.CX X.prog X.w) k g0 fd ps (spM X.kw 0 fM)) (hb : Binds X.K fd ps []) (hr : Room k X.A) (tk : Takes X W) (hx : PE X o (tVar i))
    (ht : eval (.Call (.Attribute o m apos) [] [] pos) X.env = (do
      let ov ← eval o X.env
      standAt apos.atName
      let (f, first) ← holding [ov] (getMethod ov m pl)
      callWith pos f first (backTo pos (starEach [] X.env)) (backToKw pos (keywordEach [] X.env))) := by rfl) :
    PE X (.Call (.Attribute o m apos) [] [] pos) (tDM X.kw W (dMeM cn i fM aNil)) :=
  PE.weak (pe_methS0 hx c hm (F.raw hb .nil) hr (fun σ => L2.passAt tk σ) ht) fun σ H Q ⟨C, F, ρ, Qd, Ed, mu, S, h, k, x⟩ => by
    unfold dMeM at h
    split at h
    · rename_i r kd fs e
      obtain ⟨hk, h⟩ := h
      obtain ⟨dx, vs0, hsl⟩ := rec_slt S e hk hc
      refine ⟨_, val_some (S.rcOk e).1, r, dx, vs0, rfl, hsl, ?_⟩
      show spM X.kw 0 fM ([V.ref r] ++ []) H Q _
      rw [List.append_nil]
      exact spM_call (ss := [.rcd r kd fs]) S mu e (.cons (show ArgOkR X.kw F C.bg (.ref r) (.rcd r kd fs) from rfl) .nil) rfl rfl h.2 (fun F2 H2 v d fs' S2 s2 i2 q2 => k F2 H2 v d _ S2 s2 i2 q2) fun F2 H2 cc dd y S2 x2 q2 => x F2 H2 cc dd y _ S2 x2 q2
    · exact h.elim
theorem pd_methR (hc : PySem.W.nsIn X.K mainGlobals cn = some (some (.ref C0))) (c : SlX.SCls X.K C0) (hm : Meth X.K C0 m g0) (F : FnOk X.prog X.w X.K X.mg X.base (L2.CX X.prog X.w) k g0 fd ps (spR X.kw 0 fn)) (hb : Binds X.K fd ps []) (hr : Room k X.A) (tk : Takes X W) (hx : PE X o (tVar i)) (ha : PA X (e :: es) (tAR X.kw W fas))
    (hst : starEach (e :: es) X.env = (false, eval e X.env) :: starEach es X.env := by rfl) (hpl : (backTo pos (starEach es X.env)).any (·.1) = false := by rfl)
    (ht : eval (.Call (.Attribute o m apos) (e :: es) [] pos) X.env = (do
      let ov ← eval o X.env
      standAt apos.atName
      let (f, first) ← holding [ov] (getMethod ov m pl)
      callWith pos f first (backTo pos (starEach (e :: es) X.env)) (backToKw pos (keywordEach [] X.env))) := by rfl) :
    PE X (.Call (.Attribute o m apos) (e :: es) [] pos) (tD X.kw W (dMeR cn i fn fas)) :=
  PE.weak (pe_methS hx c hm (F.raw hb .nil) hr (fun σ => L2.passAt tk σ) ha hst hpl ht) fun σ H Q ⟨C, F, ρ, Qd, Ed, S, h, k, x⟩ => by
    unfold dMeR at h
    split at h
    · rename_i r kd fs e
      obtain ⟨hk, h⟩ := h
      obtain ⟨dx, vs0, hsl⟩ := rec_slt S e hk hc
      refine ⟨_, val_some (S.rcOk e).1, r, dx, vs0, rfl, hsl, C, F, ρ, _, _, S, h, fun F1 H1 vs ss S1 s1 i1 q1 => ?_, x⟩
      show spR X.kw 0 fn ((V.ref r :: vs) ++ []) H1 Q _
      rw [List.append_nil]
      exact spR_call (ss := .rcd r kd fs :: ss) S1 e (.cons (show ArgOkR X.kw F1 C.bg (.ref r) (.rcd r kd fs) from rfl) i1) rfl (by show (true && _) = true; rw [q1.1]; rfl) q1.2 fun F2 H2 v d S2 s2 i2 q2 => k F2 H2 v d S2 (s1.trans s2) i2 q2
    · exact h.elim
theorem pd_methR0 (hc : PySem.W.nsIn X.K mainGlobals cn = some (some (.ref C0))) (c : SlX.SCls X.K C0) (hm : Meth X.K C0 m g0) (F : FnOk X.prog X.w X.K X.mg X.base (L2.CX X.prog X.w) k g0 fd ps (spR X.kw 0 fn)) (hb : Binds X.K fd ps []) (hr : Room k X.A) (tk : Takes X W) (hx : PE X o (tVar i))
    (ht : eval (.Call (.Attribute o m apos) [] [] pos) X.env = (do
      let ov ← eval o X.env
      standAt apos.atName
      let (f, first) ← holding [ov] (getMethod ov m pl)
      callWith pos f first (backTo pos (starEach [] X.env)) (backToKw pos (keywordEach [] X.env))) := by rfl) :
    PE X (.Call (.Attribute o m apos) [] [] pos) (tD X.kw W (dMeR cn i fn aNil)) :=
  PE.weak (pe_methS0 hx c hm (F.raw hb .nil) hr (fun σ => L2.passAt tk σ) ht) fun σ H Q ⟨C, F, ρ, Qd, Ed, S, h, k, x⟩ => by
    unfold dMeR at h
    split at h
    · rename_i r kd fs e
      obtain ⟨hk, h⟩ := h
      obtain ⟨dx, vs0, hsl⟩ := rec_slt S e hk hc
      refine ⟨_, val_some (S.rcOk e).1, r, dx, vs0, rfl, hsl, ?_⟩
      show spR X.kw 0 fn ([V.ref r] ++ []) H Q (WE W σ)
      rw [List.append_nil]
      exact spR_call (ss := [.rcd r kd fs]) S e (.cons (show ArgOkR X.kw F C.bg (.ref r) (.rcd r kd fs) from rfl) .nil) rfl rfl h.2 fun F2 H2 v d S2 s2 i2 q2 => k F2 H2 v d S2 s2 i2 q2
    · exact h.elim
/-! ### expressions around such a call, statements -/
def mLift (f : DE) : DEM := fun ρ Q E => f ρ (fun d => Q d ρ) fun x => E x ρ
theorem pdm_of (h : PE X e (tD X.kw W f)) : PE X e (tDM X.kw W (mLift f)) := PE.weak h fun σ H Q ⟨C, F, ρ, Qd, Ed, m, S, h, k, x⟩ =>
  ⟨C, F, ρ, _, _, S, h, fun F' H' v d S' s' i' q => k F' H' v d ρ S' s' i' q, fun F' H' c dd y S' e' q => x F' H' c dd y ρ S' e' q⟩
def mIf (t : DT) (fa fb : DEM) : DEM := fun ρ Q E => t ρ (fun c => if c = true then fa ρ Q E else fb ρ Q E) fun x => E x ρ
theorem pdm_if (hc : PT X c (tT X.kw W t)) (ha : PE X a (tDM X.kw W fm)) (hb : PE X b (tDM X.kw W gm)) : PE X (.IfExp c a b pos) (tDM X.kw W (mIf t fm gm)) :=
  PE.weak (pe_ifExp hc ha hb) fun σ H Q ⟨C, F, ρ, Qd, Ed, m, S, h, k, x⟩ => ⟨C, F, ρ, _, _, S, h, fun F1 H1 c S1 s1 q1 => by
    cases c with
    | true => exact iteT ⟨C, F1, ρ, _, _, m, S1, (by simpa using q1), fun F2 H2 v d ρ' S2 s2 i2 q2 => k F2 H2 v d ρ' S2 (s1.trans s2) i2 q2, x⟩
    | false => exact iteF ⟨C, F1, ρ, _, _, m, S1, (by simpa using q1), fun F2 H2 v d ρ' S2 s2 i2 q2 => k F2 H2 v d ρ' S2 (s1.trans s2) i2 q2, x⟩, fun F' H' c dd y S' e' q => x F' H' c dd y ρ S' e' q⟩
/-- (a, b), a changing -/
def mTup2 (fa : DEM) (fb : DE) : DEM := fun ρ Q E => fa ρ (fun d ρ' => fb ρ' (fun d' => Q (.tuple [d, d']) ρ') fun x => E x ρ') E
theorem pdm_tup2 {x1} (ha : PE X a (tDM X.kw W fm)) (hb : PE X b (tD X.kw W f)) (hs : starEach [a, b] X.env = (false, eval a X.env) :: starEach [b] X.env := by rfl) (hs2 : starEach (b :: []) X.env = (false, eval b X.env) :: starEach [] X.env := by rfl) : PE X (.Tuple [a, b] x1 pos) (tDM X.kw W (mTup2 fm f)) :=
  PE.weak (pe_tupS (pa_cons ha (pa_cons hb pa_nil hs2) hs)) fun σ H Q ⟨C, F, ρ, Qd, Ed, m, S, h, k, x⟩ => ⟨C, F, ρ, _, _, m, S, h, fun F1 H1 v1 d1 ρ1 S1 s1 i1 q1 => ⟨C, F1, ρ1, _, _, S1, q1, fun F2 H2 v2 d2 S2 s2 i2 q2 => ⟨(by show 2 ≤ sizeLine; decide), fun p o hp ho => by
    have s3 : Same F2 (upd F2 p (.frz o (.tup [v1, v2]))) := fun b u q => by rw [upd_ne (ne_of_none q (S2.le.free hp))]; exact q
    exact k (upd F2 p (.frz o (.tup [v1, v2]))) _ (.ref p) (.tuple [d1, d2]) ρ1 (S2.laid hp) (s1.trans (s2.trans s3)) (.tup (.of upd_same ho) (by show 2 ≤ sizeLine; decide) (.cons (i1.up (s2.trans s3)) (.cons (i2.up s3) .nil))) q2⟩, fun F' H' c dd y S' e' q => x F' H' c dd y ρ1 S' e' q⟩, x⟩
/-- a[i], a changing -/
def mIx (fa : DEM) (fb : DE) : DEM := fun ρ Q E => fa ρ (fun d ρ' => fb ρ' (fun d' => gIx d d' fun z => Q z ρ') fun x => E x ρ') E
theorem pdm_ix (ha : PE X a (tDM X.kw W fm)) (hb : PE X b (tD X.kw W f)) (hs : PlainIx b := by exact fun _ _ => rfl) : PE X (.Subscript a b pos) (tDM X.kw W (mIx fm f)) :=
  PE.weak (pe_ix ix_seq ha hb hs) fun σ H Q ⟨C, F, ρ, Qd, Ed, m, S, h, k, x⟩ => ⟨C, F, ρ, _, _, m, S, h, fun F1 H1 v1 d1 ρ1 S1 s1 i1 q1 => ⟨C, F1, ρ1, _, _, S1, q1, fun F2 H2 v2 d2 S2 s2 i2 q2 =>
    d_ix C F2 H2 σ ρ1 v1 v2 d1 d2 _ Q S2 (i1.up s2).o i2.o q2 fun F3 H3 w z S3 s3 i3 q3 => k F3 H3 w z ρ1 S3 (s1.trans (s2.trans s3)) i3 q3, fun F' H' c dd y S' e' q => x F' H' c dd y ρ1 S' e' q⟩, x⟩
theorem SEnds.exitsM {K : KW} {C : Ctx} {D : Ends} {Dd : DEnds} {σ : L2.St} (s : SEnds K W C D Dd) : ExitsM K W C σ (fun x _ => Dd.ex x) := fun F' H' c dd x ρ' S e q => s.ex F' H' σ ρ' c dd x S e q
def dRetM (f : DEM) : DS := fun D ρ => f ρ D.rt fun x _ => D.ex x
theorem dretM (h : PE X e (tDM X.kw W fm)) : PS X (.Return (some e) pos) (tDS X.kw W (dRetM fm)) := PS.weak (ps_ret h) fun D σ H ⟨C, F, ρ, Dd, m, S, h, E⟩ =>
  ⟨C, F, ρ, _, _, m, S, h, fun F' H' v d ρ' S' s' i q => E.rt F' H' σ ρ' v d S' i q, E.exitsM⟩
def dDropM (f : DEM) : DS := fun D ρ => f ρ (fun _ ρ' => D.nx ρ') fun x _ => D.ex x
theorem dexprM (h : PE X e (tDM X.kw W fm)) (hs : swapsWith e none pos.line X.env = pure false := by rfl) : PS X (.Expr e pos) (tDS X.kw W (dDropM fm)) := PS.weak (ps_expr h hs) fun D σ H ⟨C, F, ρ, Dd, m, S, h, E⟩ =>
  ⟨C, F, ρ, _, _, m, S, h, fun F' H' v d ρ' S' s' i q => E.nx F' H' σ ρ' S' q, E.exitsM⟩
def dSetM (i : Nat) (f : DEM) : DS := fun D ρ => i < ρ.length ∧ f ρ (fun d ρ' => D.nx (put ρ' i (.data d))) fun x _ => D.ex x
theorem dsetM (i : Nat) {x : Str} {pos' : Pos} (hN : X.N.Nodup) (he : PE X e (tDM X.kw W fm)) (hi : X.N[i]? = some x := by rfl) (hx : Loc X.env.scope x := by first | exact Or.inl rfl | exact Or.inr rfl) (hs : swapsWith e (some (.Name x pos')) pos.line X.env = pure false := by rfl)
    (hf : X.fn x = true ∨ X.env.scope.names.lookup x = some .local := by first | exact .inl rfl | exact .inr rfl) : PS X (.Assign [.Name x pos'] e pos) (tDS X.kw W (dSetM i fm)) :=
  PS.weak (ps_set hN hi hx he hs hf) fun D σ H ⟨C, F, ρ, Dd, m, S, h, E⟩ => ⟨C, F, ρ, _, _, m, S, h.2, fun F' H' v d ρ' S' s' i' q => E.nx F' H' _ _ (S'.storeD (by rw [← S.len]; exact h.1) i') q, E.exitsM⟩
def dAsgM (f : DEM) (g : DG) : DS := fun D ρ => f ρ (fun d ρ' => g d ρ' D.nx) fun x _ => D.ex x
theorem dasgM {g : DG} {vs : List Nat} {tg : Expr} (he : PE X e (tDM X.kw W fm)) (hg : PG X tg (tGD X.kw false vs g)) (hs : swapsWithSole [tg] e pos.line X.env = pure false := by rfl) (hw : swappedStores [tg] e X.env = pure none := by rfl)
    (h1 : (assignEach [tg] X.env).map (·.2) = [assign tg X.env] := by rfl) : PS X (.Assign [tg] e pos) (tDS X.kw W (dAsgM fm g)) :=
  PS.weak (ps_asg he hg hs hw h1) fun D σ H ⟨C, F, ρ, Dd, m, S, h, E⟩ => ⟨C, F, ρ, _, _, m, S, h, fun F' H' v d ρ' S' s' i' q => ⟨C, F', ρ', d, _, S', .inl i', q, fun σ' ρ2 S2 _ _ q2 => E.nx F' H' σ' ρ2 S2 q2⟩, E.exitsM⟩
/-! ### while -/
def whileD (t : DT) (g : DS) (D : DEnds) : Nat → DEnv → Prop
  | 0, _ => False
  | n + 1, ρ => t ρ (fun b => if b = true then g { D with nx := whileD t g D n, ct := whileD t g D n, bk := D.nx } ρ else D.nx ρ) D.ex
def dWhile (t : DT) (g : DS) : DS := fun D ρ => ∃ n, whileD t g D n ρ
theorem dwhile {body : List Stmt} {gs : DS} (hp : PassesOwn (model X.prog X.w) X.A X.env X.xe) (hc : PT X c (tT X.kw W t)) (hb : PSs X body (tDS X.kw W gs)) : PS X (.While c body [] pos) (tDS X.kw W (dWhile t gs)) :=
  PS.weak (ps_while hp hc hb) fun D σ H ⟨C, F, ρ, Dd, m, S, ⟨n, h⟩, E⟩ => by
    refine ⟨fun n σ H => ∃ F ρ, Sd X.kw C F H σ ρ ∧ whileD t gs Dd n ρ, ⟨n, F, ρ, S, h⟩, fun n σ H ⟨F, ρ, S, h⟩ => ?_⟩
    cases n with
    | zero => exact h.elim
    | succ n =>
      refine ⟨C, F, ρ, _, Dd.ex, S, h, fun F1 H1 b S1 s1 q1 => ?_, E.exits⟩
      cases b with
      | true => exact iteT ⟨fun σ' H' => ∃ F ρ, Sd X.kw C F H' σ' ρ ∧ whileD t gs Dd n ρ, fun σ' H' w => ⟨n, Nat.lt_succ_self n, w⟩, C, F1, ρ, { Dd with nx := whileD t gs Dd n, ct := whileD t gs Dd n, bk := Dd.nx }, m, S1, (by simpa using q1), ⟨fun F2 H2 σ2 ρ2 S2 q2 => ⟨F2, ρ2, S2, q2⟩, fun F2 H2 σ2 ρ2 S2 q2 => E.nx F2 H2 σ2 ρ2 S2 q2, fun F2 H2 σ2 ρ2 S2 q2 => ⟨F2, ρ2, S2, q2⟩, E.rt, E.ex⟩⟩
      | false => exact iteF (E.nx F1 H1 σ ρ S1 (by simpa using q1))
end
end DL
set_option Elab.async false
set_option linter.all false
set_option maxRecDepth 100000
set_option maxHeartbeats 4000000
/-! DR, records (5): fields that become still; what is walked without that -/
namespace DL
open PySem PySem.Spec PyProof.Rows L2
section
variable {K : KW} {C : Ctx} {F F' H H' : Hp} {σ : L2.St} {ρ : DEnv} {i j : Nat} {n : Str} {r a : Addr} {k : Option (Str × Addr)} {fs : Flds} {f g : Fld} {ds : List PyData}
theorem Sd.fzFld (S : Sd K C F H σ ρ) (hm : C.mu = true) (e : look ρ i = .rcd r k fs) (hj : fld fs j = some (n, .lst a ds)) : ∃ F2, Sd K C F2 H σ (put ρ i (.rcd r k (setF fs j (.dat (.ref a) (.list ds))))) ∧ Same F F2 := by
  obtain ⟨hr, nd, hobj, hfs⟩ := S.rcOk e
  obtain ⟨xs, h1, h2, h3⟩ := hfs _ (fld_mem hj)
  have hin : a ∈ fldAddrs fs := fld_addr (fld_mem hj) (by simp [Fld.addr])
  have hown : Owns (val σ i) (look ρ i) a := by rw [e]; exact .r (by unfold recAddrs; simp [hin])
  obtain ⟨f1, f2, f3⟩ := S.own i a hown
  have s : Same F (upd F a (.lst xs)) := up_keep f1
  obtain ⟨n1, n2⟩ := rec_ne nd hin
  have sub : ∀ b, b ∈ recAddrs r k (setF fs j (.dat (.ref a) (.list ds))) → b ∈ recAddrs r k fs := fun b q => by
    unfold recAddrs at q ⊢
    rcases List.mem_cons.mp q with w | w
    · exact w ▸ List.mem_cons_self
    · rcases List.mem_append.mp w with w | w
      · exact List.mem_cons_of_mem _ (List.mem_append_left _ w)
      · rcases setF_sub w with w | w
        · cases w
        · exact List.mem_cons_of_mem _ (List.mem_append_right _ w)
  have nd' : (recAddrs r k (setF fs j (.dat (.ref a) (.list ds)))).Nodup := by
    unfold recAddrs at nd ⊢
    rw [List.nodup_cons, List.nodup_append] at nd ⊢
    refine ⟨fun z => ?_, nd.2.1, setF_nodup nd.2.2.1 List.nodup_nil (fun a ha => by cases ha), fun a ha b hb q => ?_⟩
    · rcases List.mem_append.mp z with w | w
      · exact nd.1 (List.mem_append_left _ w)
      · rcases setF_sub w with w | w
        · cases w
        · exact nd.1 (List.mem_append_right _ w)
    · subst q
      rcases setF_sub hb with w | w
      · cases w
      · exact nd.2.2.2 a ha a w rfl
  -- a is no more the record's
  have gone : a ∉ recAddrs r k (setF fs j (.dat (.ref a) (.list ds))) := by
    intro z
    unfold recAddrs at z
    rcases List.mem_cons.mp z with w | w
    · exact n1 w
    · rcases List.mem_append.mp w with w | w
      · cases k with
        | none => cases w
        | some p => obtain ⟨cn, dx⟩ := p; simp at w; exact n2 cn dx rfl w
      · obtain ⟨p, hp, ha⟩ := addr_fld w
        rcases setF_other (a := a) (rec_nodup nd) hj (by simp [Fld.addr]) hp with w | ⟨w1, w2⟩
        · subst w; cases ha
        · exact w2 ha
  refine ⟨upd F a (.lst xs), S.mutA hm (val_lt hr) s (fun b u q => ?_) (fun b u q _ => q) (fun b h => h) (fun b h _ z => ?_) (fun b q h0 hl => ?_) ⟨hr, nd', ?_, fun p hp => ?_⟩ fun b q => ?_, s⟩
  · by_cases h : b = a
    · subst h; rw [upd_same] at q; rw [h1]; exact q
    · rw [upd_ne h] at q; exact S.le _ _ q
  · rw [upd_ne (fun e => by subst e; exact z hown)]; exact h
  · rcases (S.own i b q).2.1 hm with w | w
    · exact absurd w h0
    · exact absurd w hl
  · cases k with
    | none => obtain ⟨ks, g1, g2, g3⟩ := hobj; exact ⟨ks, g1, by rw [setF_vals (f := .dat (.ref a) (.list ds)) hj rfl]; exact g2, g3⟩
    | some p =>
      obtain ⟨cn, dx⟩ := p
      obtain ⟨h0, C', vs, hc, g1, g2⟩ := hobj
      refine ⟨h0, C', vs, hc, g1, fun l m q v hl hq => ?_⟩
      rw [setF_get hj] at hl
      by_cases el : l = j
      · rw [if_pos el] at hl; cases hl
        subst el
        exact g2 l n (.lst a ds) v (by rw [← fld_get]; exact hj) hq
      · rw [if_neg el] at hl; exact g2 l m q v hl hq
  · obtain ⟨l, hl⟩ := List.mem_iff_getElem?.mp hp
    rw [setF_get hj] at hl
    by_cases el : l = j
    · rw [if_pos el] at hl; cases hl
      exact .lst upd_same h2 (h3.up s)
    · rw [if_neg el] at hl; exact (hfs p (List.mem_of_getElem? hl)).next s fun b _ u w => w
  · have q := q.rD
    have ow : Owns (val σ i) (look ρ i) b := by rw [e]; exact .r (sub b q)
    exact ⟨by rw [upd_ne (fun z => by subst z; exact gone q)]; exact (S.own i b ow).1, .inr (.inl ow)⟩
end
section
variable {X : Cx} {W : WX} {pos : Pos} {st : Stmt} {sts : List Stmt} {gs : DS} {i j : Nat}
theorem dfz_step {K : KW} {W : WX} {D : Ends} {σ : L2.St} {H : Hp} (h : ∃ C F ρ Dd, C.mu = true ∧ Sd K C F H σ ρ ∧ dFzF i j gs Dd ρ ∧ SEnds K W C D Dd) : tDS K W gs D σ H := by
  obtain ⟨C, F, ρ, Dd, m, S, h, E⟩ := h
  unfold dFzF at h
  split at h
  · rename_i r k fs e
    split at h
    · rename_i n a ds hj
      obtain ⟨F2, S2, s2⟩ := S.fzFld m e hj
      exact ⟨C, F2, _, Dd, m, S2, h, E⟩
    · exact ⟨C, F, ρ, Dd, m, S, h, E⟩
  · exact ⟨C, F, ρ, Dd, m, S, h, E⟩
/-- the field is still from here on -/
theorem dfzF (h : PS X st (tDS X.kw W gs)) : PS X st (tDS X.kw W (dFzF i j gs)) := PS.weak h fun _ _ _ q => dfz_step q
theorem dfzFs (h : PSs X sts (tDS X.kw W gs)) : PSs X sts (tDS X.kw W (dFzF i j gs)) := PSs.weak h fun _ _ _ q => dfz_step q
end
/-! ### walked: what a name alone holds -/
/-- as tI; what stands at the addresses of `pins` stays while it is walked -/
def tIP (K : KW) (w : Bool) (W : WX) (f : DL') : TI := fun σ H R => ∃ C F ρ Qd Ed, Sd K C F H σ ρ ∧ f ρ Qd Ed ∧
  (∀ (F' H' : Hp) (J : It) (ds : List PyData) (pins : List Addr), Sd K C F' H' σ ρ → Same F F' → ds.length ≤ sizeLine → (∀ p ∈ pins, F' p = none ∧ H' p ≠ none ∧ ∀ q, C.bg = some q → p ≠ q.1 ∧ p ≠ q.2) → Walk J ds.length (fun H => Same F' H ∧ ∀ p ∈ pins, H p = H' p) (YD K w F' ds) → Qd ds → R J H') ∧ Exits K W C σ ρ Ed
section
variable {X : Cx} {W : WX} {pos : Pos} {e elt tg iter : Expr} {ifs : List Expr} {scope : Scope} {own : List (Str × Nat)} {fi : DL'} {g : DG} {t : DT} {fe : DE}
theorem pi_P {w : Bool} (h : PI X tg iter (tI X.kw w W fi)) : PI X tg iter (tIP X.kw w W fi) := PI.weak h fun σ H R ⟨C, F, ρ, Qd, Ed, S, h, k, x⟩ =>
  ⟨C, F, ρ, Qd, Ed, S, h, fun F' H' J ds S' s' z wk q => k F' H' J ds [] S' s' z (fun p hp => by cases hp) (Walk.mono wk (fun H h => h.1) fun i H v H' hi hG y => y) q, x⟩
theorem lc_readP {w : Bool} : ∀ σ H Q, tF X.kw W (dLc fi g t fe (own.map (·.2))) σ H Q → tLc (tIP X.kw w W fi) (tGD X.kw w (own.map (·.2)) g) (tT X.kw W0 t) (tD X.kw W0 fe) (own.map (·.2)) σ H Q := by
  intro σ H Q ⟨C, F, ρ, Qd, Ed, S, ⟨pl, h⟩, k, x⟩
  generalize own.map (·.2) = vs at *
  refine ⟨C, F, ρ, _, Ed, S, h, fun F1 H1 J ds pins S1 s1 hz hp hw q => fun D hD => ?_, x⟩
  have pD : ∀ p ∈ pins, p ≠ D := fun p h e => (hp p h).2.1 (e ▸ hD)
  refine lc_it hw (fun i H => ∃ F2 acc accd, Sd X.kw C F2 H σ ρ ∧ Same F1 F2 ∧ Apart C F2 H σ ρ D ∧ H D = some (.lst acc) ∧ acc.length ≤ i ∧ IsAll X.kw F2 acc accd ∧ (∀ p ∈ pins, H p = H1 p ∧ F2 p = none) ∧ lcD g t fe (wipeD ρ vs) (ds.drop i) accd Qd) ?_ ?_ ?_ ?_
  · have ap := S1.new hD
    exact ⟨F1, [], [], S1.fresh hD, Same.refl _, ⟨ap.f, ap.h0, ap.bg, ap.no⟩, upd_same, Nat.le_refl _, .nil, fun p h => ⟨by rw [upd_ne (pD p h)], (hp p h).1⟩, q⟩
  · intro i H _ ⟨F2, acc, accd, S2, s2, _, _, _, _, pk, _⟩
    exact ⟨s2.trans S2.le, fun p h => (pk p h).1⟩
  · intro i v H H' hi ⟨F2, acc, accd, S2, s2, ap, hDa, hac, ia, pk, q⟩ ⟨d, hd, y⟩
    obtain ⟨F3, S3, s3, iv, n3, hD3, pk3⟩ : ∃ F3, Sd X.kw C F3 H' σ ρ ∧ Same F2 F3 ∧ IsT X.kw w F3 v d ∧ F3 D = none ∧ H' D = some (.lst acc) ∧ ∀ p ∈ pins, H' p = H1 p ∧ F3 p = none := by
      rcases y with ⟨rfl, iv⟩ | ⟨hw', T, a, b, da, db, rfl, hT, rfl, ia', ib', rfl⟩
      · exact ⟨F2, S2, Same.refl _, .inl (iv.up s2), ap.f, hDa, pk⟩
      · have hne : D ≠ T := ne_of_none hDa hT
        have pT : ∀ p ∈ pins, p ≠ T := fun p h e => (hp p h).2.1 (by rw [← (pk p h).1, e]; exact hT)
        have fs : Same F2 (upd F2 T (.tup [a, b])) := fun c u e => by rw [upd_ne (ne_of_none e (S2.le.free hT))]; exact e
        exact ⟨_, S2.laid hT, fs, .inr ⟨hw', T, a, b, da, db, rfl, rfl, upd_same, ia'.up (s2.trans fs), ib'.up (s2.trans fs)⟩, by rw [upd_ne hne]; exact ap.f, by rw [upd_ne hne]; exact hDa, fun p h => by rw [upd_ne (pT p h), upd_ne (pT p h)]; exact pk p h⟩
    have ap3 : Apart C F3 H' σ ρ D := ⟨n3, ap.h0, ap.bg, ap.no⟩
    have hdrop : ds.drop i = d :: ds.drop (i + 1) := by
      rw [List.drop_eq_getElem_cons hi]
      congr 1
      rw [List.getElem?_eq_getElem hi] at hd
      exact Option.some.inj hd
    rw [hdrop] at q
    have N3 := S3.nest
    have back : ∀ {F5 H5 : Hp} {σ2 : L2.St} {ρ2 : DEnv}, wipe σ2 vs = wipe (wipe σ vs) vs → wipeD ρ2 vs = wipeD (wipeD ρ vs) vs → Sd X.kw ⟨H', F3, C.bg, false, []⟩ F5 H5 σ2 ρ2 →
        Sd X.kw C F5 H5 σ ρ ∧ Same F3 F5 ∧ F5 D = none ∧ H5 D = some (.lst acc) ∧ ∀ p ∈ pins, H5 p = H1 p ∧ F5 p = none := by
      intro F5 H5 σ2 ρ2 e1 e2 S5
      have S6 : Sd X.kw ⟨H', F3, C.bg, false, []⟩ F5 H5 (wipe σ vs) (wipeD ρ vs) := by
        have := S5.wiped (vs := vs)
        rw [e1, e2, wipe_wipe, wipeD_wipeD] at this
        exact this
      have S7 := N3.unwipe pl S6.le0 S6
      refine ⟨S3.unnest S7, S7.le0, S7.still D (by show H' D ≠ none; rw [hD3]; simp) n3 (by simp), S7.frame D _ hD3 ap3.bg (by simp), fun p h => ?_⟩
      have hn : H' p ≠ none := by rw [(pk3 p h).1]; exact (hp p h).2.1
      refine ⟨?_, S7.still p hn (pk3 p h).2 (by simp)⟩
      cases eo : H' p with
      | none => exact absurd eo hn
      | some o => rw [S7.frame p o eo (hp p h).2.2 (by simp), ← eo]; exact (pk3 p h).1
    refine ⟨⟨H', F3, C.bg, false, []⟩, F3, wipeD ρ vs, d, _, N3.wiped, iv, q, fun σ2 ρ2 S4 w4 y4 q4 => ⟨w4.trans (wipe_wipe σ vs), ⟨H', F3, C.bg, false, []⟩, F3, ρ2, _, _, S4, q4, fun F5 H5 b S5 s5 q5 => ?_, exits0⟩⟩
    cases b with
    | false =>
      refine iteF ?_
      obtain ⟨S7, s7, n7, h7, p7⟩ := back w4 y4 S5
      exact ⟨F5, acc, accd, S7, s2.trans (s3.trans s7), ⟨n7, ap.h0, ap.bg, ap.no⟩, h7, by omega, ia.up (s3.trans s7), p7, by simpa using q5⟩
    | true =>
      refine iteT ⟨⟨H', F3, C.bg, false, []⟩, F5, ρ2, _, _, S5, (by simpa using q5), fun F6 H6 w z S6 s6 i6 q6 => ?_, exits0⟩
      obtain ⟨S7, s7, n7, h7, p7⟩ := back w4 y4 S6
      have ap7 : Apart C F6 H6 σ ρ D := ⟨n7, ap.h0, ap.bg, ap.no⟩
      have lt : acc.length < sizeLine := by omega
      exact ⟨acc, h7, lt, F6, acc ++ [w], accd ++ [z], S7.write ap7, s2.trans (s3.trans s7), ⟨n7, ap.h0, ap.bg, ap.no⟩, upd_same, by rw [List.length_append]; show acc.length + 1 ≤ i + 1; omega, (ia.up (s3.trans s7)).append (.cons i6 .nil), fun p h => by rw [upd_ne (pD p h)]; exact p7 p h, q6⟩
  · intro H ⟨F2, acc, accd, S2, s2, ap, hDa, hac, ia, pk, q⟩
    rw [List.drop_length] at q
    exact k F2 H D acc accd S2 (s1.trans s2) ap hDa (by omega) ia q
theorem pf_lcP {w : Bool} (hc : X.calm = true) (hN : X.N.Nodup) (ok : BlkOk X.N X.env.scope scope own) (hi : PI X tg iter (tIP X.kw w W fi))
    (hg : ∀ (s : Shared) (H : Hp) (C : Addr) (cl : List (Str × Addr)) (fp : List Addr), PG (X.blk s H scope (compEnvC scope cl C X.env) fp) tg (tGD X.kw w (own.map (·.2)) g)) (ht : ∀ (s : Shared) (H : Hp) (C : Addr) (cl : List (Str × Addr)) (fp : List Addr), PTs (X.blk s H scope (compEnvC scope cl C X.env) fp) ifs (tT X.kw W0 t))
    (he : ∀ (s : Shared) (H : Hp) (C : Addr) (cl : List (Str × Addr)) (fp : List Addr), PE (X.blk s H scope (compEnvC scope cl C X.env) fp) elt (tD X.kw W0 fe)) (hs : ∀ x, foldedSetIterable iter X.env x = pure x := by intro _; rfl) :
    PE X (.ListComp elt [⟨tg, iter, ifs, 0⟩] scope pos) (tF X.kw W (dLc fi g t fe (own.map (·.2)))) := PE.weak (pe_lc hc hN hi ok hg ht he hs) lc_readP
/-- name = [..] on one line -/
theorem dsetLcP {w : Bool} (own? : Bool) (i : Nat) {y : Str} {py spos : Pos} (hc : X.calm = true) (hN : X.N.Nodup) (ok : BlkOk X.N X.env.scope scope own) (hi : PI X tg iter (tIP X.kw w W fi))
    (hg : ∀ (s : Shared) (H : Hp) (C : Addr) (cl : List (Str × Addr)) (fp : List Addr), PG (X.blk s H scope (compEnvC scope cl C X.env) fp) tg (tGD X.kw w (own.map (·.2)) g)) (ht : ∀ (s : Shared) (H : Hp) (C : Addr) (cl : List (Str × Addr)) (fp : List Addr), PTs (X.blk s H scope (compEnvC scope cl C X.env) fp) ifs (tT X.kw W0 t))
    (he : ∀ (s : Shared) (H : Hp) (C : Addr) (cl : List (Str × Addr)) (fp : List Addr), PE (X.blk s H scope (compEnvC scope cl C X.env) fp) elt (tD X.kw W0 fe)) (hs : ∀ x, foldedSetIterable iter X.env x = pure x := by intro _; rfl)
    (hy : X.N[i]? = some y := by rfl) (hyl : X.env.scope.names.lookup y = some .local := by rfl) (hsw : swapsWith (.ListComp elt [⟨tg, iter, ifs, 0⟩] scope pos) (some (.Name y py)) spos.line X.env = pure true := by exact sw_true rfl rfl rfl (by decide +kernel)) :
    PS X (.Assign [.Name y py] (.ListComp elt [⟨tg, iter, ifs, 0⟩] scope pos) spos) (tDS X.kw W (if own? = true then dSetL i (dLc fi g t fe (own.map (·.2))) else dSet i (dFrz (dLc fi g t fe (own.map (·.2)))))) :=
  PS.weak (ps_setLc hc hN hy hyl hsw hi ok hg ht he hs) fun D σ H ⟨C, F, ρ, Dd, m, S, h, E⟩ => by
    cases own? with
    | true =>
      have h : dSetL i (dLc fi g t fe (own.map (·.2))) Dd ρ := by simpa using h
      exact lc_readP σ H _ ⟨C, F, ρ, _, Dd.ex, S, h.2, fun F' H' a xs ds S' s' ap e z i' q => E.nx F' H' _ _ (S'.storeL (by rw [← S.len]; exact h.1) ap e z i') q, E.exits⟩
    | false =>
      have h : dSet i (dFrz (dLc fi g t fe (own.map (·.2)))) Dd ρ := by simpa using h
      exact lc_readP σ H _ ⟨C, F, ρ, _, Dd.ex, S, h.2, fun F' H' a xs ds S' s' ap e z i' q => E.nx (upd F' a (.lst xs)) H' _ _ ((S'.freeze ap e).storeD (by rw [← S.len]; exact h.1) (.lst upd_same z (i'.up fun b u q => by rw [upd_ne (ne_of_none q ap.f)]; exact q))) q, E.exits⟩
theorem dn_setLcP {w : Bool} (i : Nat) {y : Str} {py spos : Pos} (hc : X.calm = true) (hN : X.N.Nodup) (ok : BlkOk X.N X.env.scope scope own) (hi : PI X tg iter (tIP X.kw w W fi))
    (hg : ∀ (s : Shared) (H : Hp) (C : Addr) (cl : List (Str × Addr)) (fp : List Addr), PG (X.blk s H scope (compEnvC scope cl C X.env) fp) tg (tGD X.kw w (own.map (·.2)) g)) (ht : ∀ (s : Shared) (H : Hp) (C : Addr) (cl : List (Str × Addr)) (fp : List Addr), PTs (X.blk s H scope (compEnvC scope cl C X.env) fp) ifs (tT X.kw W0 t))
    (he : ∀ (s : Shared) (H : Hp) (C : Addr) (cl : List (Str × Addr)) (fp : List Addr), PE (X.blk s H scope (compEnvC scope cl C X.env) fp) elt (tD X.kw W0 fe)) (hs : ∀ x, foldedSetIterable iter X.env x = pure x := by intro _; rfl)
    (hy : X.N[i]? = some y := by rfl) (hyl : X.env.scope.names.lookup y = some .local := by rfl) (hsw : swapsWith (.ListComp elt [⟨tg, iter, ifs, 0⟩] scope pos) (some (.Name y py)) spos.line X.env = pure true := by exact sw_true rfl rfl rfl (by decide +kernel)) :
    PS X (.Assign [.Name y py] (.ListComp elt [⟨tg, iter, ifs, 0⟩] scope pos) spos) (tDN X.kw W (dSet i (dFrz (dLc fi g t fe (own.map (·.2)))))) :=
  PS.weak (ps_setLc hc hN hy hyl hsw hi ok hg ht he hs) fun D σ H ⟨C, F, ρ, Dd, S, h, E⟩ =>
      lc_readP σ H _ ⟨C, F, ρ, _, Dd.ex, S, h.2, fun F' H' a xs ds S' s' ap e z i' q => E.nx (upd F' a (.lst xs)) H' _ _ ((S'.freeze ap e).storeD (by rw [← S.len]; exact h.1) (.lst upd_same z (i'.up fun b u q => by rw [upd_ne (ne_of_none q ap.f)]; exact q))) q, E.exits⟩
/-! the fields -/
variable {i j : Nat} {n : Str} {kk : KName} {o : Expr}
/-- the walk of a list that a field holds -/
def iFld (kk : KName) (i j : Nat) (n : Str) : DL' := fun ρ Q _ => atF kk i j n ρ fun _ _ _ f => match f with | .dat _ (.list ds) => Q ds | .lst _ ds => Q ds | _ => False
theorem fld_pin {K : KW} {C : Ctx} {F H : Hp} {σ : L2.St} {ρ : DEnv} {r a : Addr} {k : Option (Str × Addr)} {fs : Flds} {ds : List PyData} (S : Sd K C F H σ ρ) (e : look ρ i = .rcd r k fs) (hj : fld fs j = some (n, .lst a ds)) :
    ∃ xs, H a = some (.lst xs) ∧ xs.length ≤ sizeLine ∧ IsAll K F xs ds ∧ ∀ p ∈ [a], F p = none ∧ H p ≠ none ∧ ∀ q, C.bg = some q → p ≠ q.1 ∧ p ≠ q.2 := by
  obtain ⟨xs, h1, h2, h3⟩ := (S.rcOk e).2.2.2 _ (fld_mem hj)
  refine ⟨xs, h1, h2, h3, fun p hp => ?_⟩
  have ep : p = a := by simpa using hp
  subst ep
  have ow := S.own i p (by rw [e]; exact .r (by unfold recAddrs; exact List.mem_cons_of_mem _ (List.mem_append_right _ (fld_addr (fld_mem hj) (by simp [Fld.addr])))))
  exact ⟨ow.1, by rw [h1]; nofun, ow.2.2⟩
theorem walk_pin {K : KW} {w : Bool} {F H' : Hp} {a : Addr} {xs : List V} {ds : List PyData} (e : H' a = some (.lst xs)) (t : IsAll K F xs ds) : Walk (Itl K.K a) ds.length (fun H => Same F H ∧ ∀ p ∈ [a], H p = H' p) (YD K w F ds) := by
  rw [← t.length]
  refine Walk.mono (walk_list (K := K.K) (a := a) (xs := xs)) (fun H h => .of (by rw [h.2 a (by simp)]; exact e)) fun i H x H' hi hG y => ?_
  obtain ⟨rfl, y⟩ := y
  obtain ⟨d, h1, h2⟩ := t.get y
  exact ⟨d, h1, .inl ⟨rfl, h2⟩⟩
theorem pi_fld (ho : PE X o (tFA X.kw kk i j n)) : PI X tg o (tIP X.kw false W (iFld kk i j n)) := PI.weak (pi_list ho) fun σ H R ⟨C, F, ρ, Qd, Ed, S, h, k, x⟩ => by
  obtain ⟨r, kd, fs, f, e, hk, hj, h⟩ := atF_out h
  split at h
  · rename_i v ds
    have q := (S.rcOk e).2.2.2 _ (fld_mem hj)
    cases q with
    | lst e1 z t => exact ⟨C, F, ρ, r, kd, fs, _, _, S, e, hk, hj, rfl, _, rfl, ⟨_, .of (S.le _ _ e1)⟩, k F H _ ds [] S (Same.refl _) (by rw [← t.length]; exact z) (fun p hp => by cases hp) (Walk.mono (walk_lst e1 t) (fun H h => h.1) fun i H v H' hi hG y => y) h⟩
  · rename_i a ds
    obtain ⟨xs, h1, h2, h3, hp⟩ := fld_pin S e hj
    exact ⟨C, F, ρ, r, kd, fs, _, .ref a, S, e, hk, hj, rfl, a, rfl, ⟨xs, .of h1⟩, k F H _ ds [a] S (Same.refl _) (by rw [← h3.length]; exact h2) hp (walk_pin h1 h3) h⟩
  · exact h.elim
variable {p tpos : Pos} {elts : List Expr} {kt : Nat}
/-- enumerate of such a list -/
def iEnF (kk : KName) (i j : Nat) (n : Str) : DL' := fun ρ Q _ => atF kk i j n ρ fun _ _ _ f => match f with | .dat _ (.list ds) => Q (enumD 0 ds) | .lst _ ds => Q (enumD 0 ds) | _ => False
theorem pi_enumF (hm : X.mg "enumerate" = none) (ho : PE X e (tFA X.kw kk i j n)) (hg : Gl X "enumerate" := by rfl) (hs : starEach [e] X.env = [(false, eval e X.env)] := by rfl) :
    PI X (.Tuple elts kt tpos) (.Call (.Name "enumerate" p) [e] [] pos) (tIP X.kw true W (iEnF kk i j n)) :=
  PI.weak (pi_enum hg hm (pa_cons ho pa_nil hs) hs) fun σ H R ⟨C, F, ρ, Qd, Ed, S, h, k, x⟩ => by
    obtain ⟨r, kd, fs, f, e, hk, hj, h⟩ := atF_out h
    split at h
    · rename_i v ds
      have q := (S.rcOk e).2.2.2 _ (fld_mem hj)
      cases q with
      | lst e1 z t =>
        refine ⟨C, F, ρ, r, kd, fs, _, _, S, e, hk, hj, rfl, _, _, rfl, .of (S.le _ _ e1), k F H _ _ [] S (Same.refl _) ?_ (fun p hp => by cases hp) (Walk.mono (G := fun H => Same F H) ?_ (fun H h => h.1) fun i H v H' hi hG y => y) h⟩
        · rw [enumD_length, ← t.length]; exact z
        · rw [enumD_length, ← t.length]
          refine walk_pair walk_enum (fun H hH => .of (hH _ _ e1)) fun i u v h1 h2 => ?_
          obtain ⟨dy, g2, i2⟩ := t.get h2
          have h1 : some (V.int ((i : Nat) : Int)) = some u := h1
          cases h1
          exact ⟨.int (i : Nat), dy, .int _, i2, by rw [enumD_get g2, Nat.zero_add]⟩
    · rename_i a ds
      obtain ⟨xs, h1, h2, h3, hp⟩ := fld_pin S e hj
      refine ⟨C, F, ρ, r, kd, fs, _, .ref a, S, e, hk, hj, rfl, a, xs, rfl, .of h1, k F H _ _ [a] S (Same.refl _) ?_ hp ?_ h⟩
      · rw [enumD_length, ← h3.length]; exact h2
      · rw [enumD_length, ← h3.length]
        refine Walk.mono walk_enum (fun H h => .of (by rw [h.2 a (by simp)]; exact h1)) fun i H x H' hi hG y => ?_
        obtain ⟨T, u, v, g1, g2, g3, g4, g5⟩ := y
        obtain ⟨dy, w2, i2⟩ := h3.get g5
        have g4 : some (V.int ((i : Nat) : Int)) = some u := g4
        cases g4
        exact ⟨_, enumD_get w2, .inr ⟨rfl, T, _, v, .int ((i : Nat) : Int), dy, g1, g2, g3, .int _, i2, by rw [Nat.zero_add]⟩⟩
    · exact h.elim
end
end DL
set_option Elab.async false
set_option linter.all false
set_option maxRecDepth 100000
set_option maxHeartbeats 4000000
/-! DR, records (6): more that is read: dicts, sets, ranges -/
namespace DL
open PySem PySem.Spec PyProof.Rows L2
section
variable {X : Cx} {W : WX} {pos p : Pos} {o e a b : Expr} {f fa fb : DE}
/-! ### d[k], k in d, d.get(k): plain keys -/
def rIxK : R2 := fun x y H Q => ∃ a ks k v, x = .ref a ∧ y = kV k ∧ H a = some (.dK ks) ∧ valV ks k = some v ∧ Q v H
theorem ix_dK (hu : X.A.units + 1 < cLine) : IxR X rIxK := by
  intro value slice pins s σ H x y v u Q I rx ry ⟨a, ks, k, w, ex, ey, e, hv, q⟩ hs
  subst ex ey
  cases (show v = Value.ref a from rx)
  obtain ⟨z, hd, vs, rel, dd⟩ := dk_of I.hok e
  exact tail_any dd.typeIs slot_dict_getitem.lookup (d_getItem hu I (hv ▸ DGet.k e) ry fun w' s' I' r => ⟨w, H, I', r, q⟩) hs
/-- the key m's value -/
def gIxK : PyData → PyData → (PyData → Prop) → Prop
  | .dict kvs, k, Q => PlainK kvs ∧ plainK k = true ∧ ∃ m d, nkey k = some m ∧ lookT kvs m = some d ∧ Q d
  | _, _, _ => False
theorem d_ixK : OpD X rIxK gIxK := by
  intro C F H σ ρ v u x y Qz Q S hv hu q k
  unfold gIxK at q
  split at q
  · obtain ⟨pk, py, m, d, hm, hl, q⟩ := q
    obtain ⟨a, rfl, D⟩ := isO_dct S.le hv
    obtain ⟨ks, e, z, nd, ik⟩ := D.plain pk
    obtain ⟨key, rfl, rfl, rfl⟩ := key_plain hu py hm
    rcases kv_look key ik with ⟨w, _⟩ | ⟨d', v', w1, w2, i'⟩
    · rw [w] at hl; cases hl
    · rw [w1] at hl; cases hl
      exact ⟨a, ks, key, v', rfl, rfl, e, w2, k F H _ _ S (Same.refl _) i' q⟩
  · exact q.elim
def rInK (neg : Bool) : R2 := fun x y H Q => ∃ a ks k, x = kV k ∧ y = .ref a ∧ H a = some (.dK ks) ∧ Q (.bl (neg ^^ (valV ks k).isSome)) H
theorem op_inK (hu : X.A.units + 1 < cLine) : OpR X (compareOp .In) (rInK false) := by
  intro pins s σ H x y v u Q I rx ry ⟨a, ks, k, ex, ey, e, q⟩
  subst ex ey
  cases (show u = Value.ref a from ry)
  exact d_in hu I (DGet.k (k := k) e) rx fun s' I' => ⟨.bl _, H, I', rfl, by simpa using q⟩
theorem op_notinK (hu : X.A.units + 1 < cLine) : OpR X (compareOp .NotIn) (rInK true) := by
  intro pins s σ H x y v u Q I rx ry ⟨a, ks, k, ex, ey, e, q⟩
  subst ex ey
  cases (show u = Value.ref a from ry)
  exact d_notIn hu I (DGet.k (k := k) e) rx fun s' I' => ⟨.bl _, H, I', rfl, by simpa using q⟩
def gInK (neg : Bool) : PyData → PyData → (PyData → Prop) → Prop
  | k, .dict kvs, Q => PlainK kvs ∧ plainK k = true ∧ ∃ m, nkey k = some m ∧ Q (.bool (neg ^^ (lookT kvs m).isSome))
  | _, _, _ => False
theorem d_inK {neg : Bool} : OpD X (rInK neg) (gInK neg) := by
  intro C F H σ ρ v u x y Qz Q S hv hu q k
  unfold gInK at q
  split at q
  · obtain ⟨pk, py, m, hm, q⟩ := q
    obtain ⟨a, rfl, D⟩ := isO_dct S.le hu
    obtain ⟨ks, e, z, nd, ik⟩ := D.plain pk
    obtain ⟨key, rfl, rfl, rfl⟩ := key_plain hv py hm
    refine ⟨a, ks, key, rfl, rfl, e, k F H _ _ S (Same.refl _) (.bl _) ?_⟩
    rcases kv_look key ik with ⟨w1, w2⟩ | ⟨d', v', w1, w2, i'⟩
    · rw [w2]; rw [w1] at q; exact q
    · rw [w2]; rw [w1] at q; exact q
  · exact q.elim
def dGet1 (fo fi : DE) : DE := fun ρ Q E => fo ρ (fun x => match x with
  | .dict kvs => PlainK kvs ∧ fi ρ (fun y => plainK y = true ∧ ∃ m, nkey y = some m ∧ Q ((lookT kvs m).getD .none)) E
  | _ => False) E
theorem pd_get1 {apos cpos : Pos} (hu : X.A.units + 1 < cLine) (ho : PE X o (tO X.kw W fa)) (he : PE X e (tD X.kw W fb)) (m : M1 X o "get" apos e cpos := by exact ⟨rfl, rfl, rfl, rfl⟩) : PE X (.Call (.Attribute o "get" apos) [e] [] cpos) (tD X.kw W (dGet1 fa fb)) :=
  PE.weak (pe_dget1 hu ho he m) fun σ H Q ⟨C, F, ρ, Qd, Ed, S, h, k, x⟩ => ⟨C, F, ρ, _, Ed, S, h, fun F1 H1 v d S1 s1 i1 q1 => by
    split at q1
    · obtain ⟨pk, q1⟩ := q1
      obtain ⟨a, rfl, D⟩ := isO_dct S1.le (i1 F1 H1 S1 (Same.refl _))
      obtain ⟨ks, e, z, nd, ik⟩ := D.plain pk
      refine ⟨a, rfl, .inl ⟨ks, .inl e⟩, C, F1, ρ, _, Ed, S1, q1, fun F2 H2 u y S2 s2 i2 q2 => ?_, x⟩
      obtain ⟨py, mm, hm, q2⟩ := q2
      obtain ⟨a', e', D2⟩ := isO_dct S2.le (i1 F2 H2 S2 s2)
      cases e'
      obtain ⟨ks2, e2, z2, nd2, ik2⟩ := D2.plain pk
      obtain ⟨key, rfl, rfl, rfl⟩ := key_plain (Is.o (H := H2) i2) py hm
      rcases kv_look key ik2 with ⟨w1, w2⟩ | ⟨d', v', w1, w2, i'⟩
      · rw [w1] at q2
        exact ⟨_, DGet.k e2, by rw [w2]; exact k F2 H2 _ _ S2 (s1.trans s2) .non q2⟩
      · rw [w1] at q2
        exact ⟨_, DGet.k e2, by rw [w2]; exact k F2 H2 _ _ S2 (s1.trans s2) i' q2⟩
    · exact q1.elim, x⟩
/-! ### sorted(d), the keys ints -/
def intsD : List (PyData × PyData) → Option (List Int)
  | [] => some []
  | (.int i, _) :: r => (intsD r).map (i :: ·)
  | _ :: _ => none
theorem intsD_keys {K : KW} {F : Hp} : ∀ {ks : List (Key × V)} {kvs : List (PyData × PyData)} {ns : List Int}, IsKv K F ks kvs → intsD kvs = some ns → ks.map (·.1) = ns.map Sum.inl
  | _, _, _, .nil, h => by cases h; rfl
  | _, _, ns, .cons (k := k) a t, h => by
    cases k with
    | inr x => cases h
    | inl i =>
      simp only [keyD, intsD, Option.map_eq_some_iff] at h
      obtain ⟨r, h1, rfl⟩ := h
      rw [List.map_cons, List.map_cons, intsD_keys t h1]
theorem intsD_plain : ∀ {kvs : List (PyData × PyData)} {ns : List Int}, intsD kvs = some ns → PlainK kvs
  | [], _, _ => rfl
  | (.int i, d) :: r, _, h => by
    simp only [intsD, Option.map_eq_some_iff] at h
    obtain ⟨q, h1, _⟩ := h
    have := intsD_plain h1
    unfold PlainK at this ⊢
    rw [List.all_cons, this]; rfl
  | (.none, _) :: _, _, h => by cases h
  | (.bool _, _) :: _, _, h => by cases h
  | (.str _, _) :: _, _, h => by cases h
  | (.list _, _) :: _, _, h => by cases h
  | (.tuple _, _) :: _, _, h => by cases h
  | (.dict _, _) :: _, _, h => by cases h
def gSortK : List PyData → (List PyData → Prop) → Prop
  | [.dict kvs], Q => ∃ ns, intsD kvs = some ns ∧ ns.length < 64 ∧ ∀ ys : List Int, ys.Perm ns → ys.Pairwise (· ≤ ·) → Q (ys.map PyData.int)
  | _, _ => False
abbrev rSortDI : List V → Hp → VK → Prop := fun xs H Q => ∃ (a : Addr) (kvs : List (Key × V)) (ks : List Int), xs = [.ref a] ∧ Rd H a (.dK kvs) ∧ kvs.map (·.1) = ks.map Sum.inl ∧ ks.length < 64 ∧
    ∀ (ys : List Int) (p : Addr), ys.Perm ks → ys.Pairwise (· ≤ ·) → H p = none → Q (.ref p) (upd H p (.lst (ys.map V.int)))
theorem cr_sortK (hc : X.calm = true) : CallR X (.builtin "sorted") rSortDI := call_sortedDI hc
theorem ints_isAll {K : KW} {F : Hp} : ∀ (ns : List Int), IsAll K F (ns.map V.int) (ns.map PyData.int)
  | [] => .nil
  | n :: r => .cons (.int n) (ints_isAll r)
theorem d_sortK : CallF X rSortDI gSortK := by
  intro C F H σ ρ vs ds Qz Q S hv q k
  unfold gSortK at q
  split at q
  · obtain ⟨ns, hn, h64, q⟩ := q
    obtain ⟨v, rfl, o⟩ := allO_1 hv
    obtain ⟨a, rfl, D⟩ := isO_dct S.le o
    obtain ⟨ks, e, z, nd, ik⟩ := D.plain (intsD_plain hn)
    refine ⟨a, ks, ns, rfl, .inl e, intsD_keys ik hn, h64, fun ys p hp hs hl => ?_⟩
    have ap := S.new hl
    exact k F _ p _ _ (S.fresh hl) (Same.refl _) ⟨ap.f, ap.h0, ap.bg, ap.no⟩ upd_same (by rw [List.length_map, hp.length_eq]; exact small64 h64) (ints_isAll ys) (q ys hp hs)
  · exact q.elim
/-! ### len(set(t)), ints -/
/-- how many different ones -/
def dist : List Int → Nat
  | [] => 0
  | x :: xs => if x ∈ xs then dist xs else dist xs + 1
theorem dist_len : ∀ {ns l : List Int}, l.Nodup → (∀ k, k ∈ l ↔ k ∈ ns) → l.length = dist ns
  | [], l, _, h => by
    cases l with
    | nil => rfl
    | cons x r => have := (h x).mp (by simp); cases this
  | x :: xs, l, nd, h => by
    unfold dist
    by_cases hx : x ∈ xs
    · rw [if_pos hx]
      exact dist_len nd fun k => by rw [h k, List.mem_cons]; exact ⟨fun z => z.elim (fun e => e ▸ hx) id, .inr⟩
    · rw [if_neg hx]
      have hm : x ∈ l := (h x).mpr (by simp)
      have := dist_len (ns := xs) (l := l.erase x) (nd.erase x) fun k => by
        rw [nd.mem_erase_iff, h k, List.mem_cons]
        exact ⟨fun ⟨z, w⟩ => w.elim (fun e => absurd e z) id, fun w => ⟨fun e => hx (e ▸ w), .inr w⟩⟩
      rw [List.length_erase_of_mem hm] at this
      have hp := List.length_pos_of_mem hm
      omega
theorem dist_le : ∀ ns : List Int, dist ns ≤ ns.length
  | [] => Nat.le_refl _
  | x :: xs => by
    unfold dist
    have := dist_le xs
    split <;> simp <;> omega
def tLenSetT (K : PySem.W.Frag) (ta : TE) : TE := fun σ H Q => ta σ H fun x H1 => ∃ (l : Addr) (ns : List Int), x = .ref l ∧ SqT K H1 l (ns.map V.int) ∧ ns.length ≤ 4000 ∧ Q (.int (dist ns : Nat)) H1
theorem pe_lenSetT {ta : TE} {p2 q : Pos} (hg : Gl X "len") (hm : X.mg "len" = none) (hg2 : Gl X "set") (hm2 : X.mg "set" = none) (ha : PE X a ta) (hc : X.calm = true := by rfl)
    (na : starEach [a] X.env = (false, eval a X.env) :: starEach [] X.env := by rfl) : PE X (.Call (.Name "len" p) [.Call (.Name "set" p2) [a] [] q] [] pos) (tLenSetT X.K ta) := by
  refine ⟨fun pins s σ H Q I h => ?_⟩
  refine Call_ (ld_blt I hg hm boot_len ?_)
  refine PyProof.Rows.callWith_builtin1 (PyProof.Rows.args_cons ?_ rfl) rfl rfl
  refine Call_ (ld_blt I hg2 hm2 boot_set ?_)
  refine PyProof.Rows.callWith_type1 (PyProof.Rows.args_cons (thn (ha.run pins s σ H _ I h) fun v s1 ⟨x, H1, I1, r1, q1⟩ => PyProof.Rows.args_nil ?_) na) na rfl
  obtain ⟨l, ns, rfl, hq, hl, q1⟩ := q1
  cases r1
  obtain ⟨its, r, pl, hz⟩ := I1.tuple hq
  refine call_set_tupI ns (I1.ok.hd hc) (show s1.heap.IsTuple l its.toArray from pl) (ints_of_vals r) (by unfold scanBound; omega) fun h' tk c R1 hcn kk => ?_
  refine PyProof.Rows.args_nil ?_
  obtain ⟨o, es, ep, t, ho, hex, hd, g, nd, hm2, hb, hf, hn, _⟩ := R1
  have I2 : Inv X pins σ H1 { s1 with heap := h', toks := tk } := I1.kept fun b o e => kk b o e
  have hdist : es.size = dist ns := by
    have := dist_len (ns := ns) nd fun k => by rw [← hm2 k, decide_eq_true_eq]
    simpa using this
  have hs : ((es.size : Nat) : Int) < 2 ^ 63 := by
    have := dist_le ns
    rw [hdist]; omega
  exact call_len_set ho hex hd hf hs ⟨.int (dist ns : Nat), H1, I2.tok _, ⟨_, by rw [hdist]⟩, q1⟩
def intsOf : List PyData → Option (List Int)
  | [] => some []
  | .int i :: r => (intsOf r).map (i :: ·)
  | _ :: _ => none
theorem isAll_ints {K : KW} {F : Hp} : ∀ {vs : List V} {ds : List PyData} {ns : List Int}, IsAll K F vs ds → intsOf ds = some ns → vs = ns.map V.int
  | _, _, _, .nil, h => by cases h; rfl
  | _, _, _, .cons (d := d) a t, h => by
    cases d with
    | int i =>
      simp only [intsOf, Option.map_eq_some_iff] at h
      obtain ⟨r, h1, rfl⟩ := h
      cases a
      rw [List.map_cons, isAll_ints t h1]
    | _ => cases h
/-- len(set(t)), t a tuple of ints -/
def dLenSet (f : DE) : DE := fun ρ Q E => f ρ (fun x => ∃ ds ns, x = .tuple ds ∧ intsOf ds = some ns ∧ ns.length ≤ 4000 ∧ Q (.int (dist ns : Nat))) E
theorem pd_lenSet {p2 q : Pos} (hm : X.mg "len" = none) (hm2 : X.mg "set" = none) (ha : PE X a (tD X.kw W f)) (hg : Gl X "len" := by rfl) (hg2 : Gl X "set" := by rfl) (hc : X.calm = true := by rfl)
    (na : starEach [a] X.env = (false, eval a X.env) :: starEach [] X.env := by rfl) : PE X (.Call (.Name "len" p) [.Call (.Name "set" p2) [a] [] q] [] pos) (tD X.kw W (dLenSet f)) :=
  PE.weak (pe_lenSetT hg hm hg2 hm2 ha hc na) fun σ H Q ⟨C, F, ρ, Qd, Ed, S, h, k, x⟩ => ⟨C, F, ρ, _, Ed, S, h, fun F1 H1 v d S1 s1 i1 ⟨ds, ns, e, hn, hl, q⟩ => by
    subst e
    cases i1 with
    | tup e z t =>
      have ev := isAll_ints t hn
      subst ev
      exact ⟨_, ns, rfl, sqT_mono S1.le e.sq, hl, k F1 H1 _ _ S1 s1 (.int _) q⟩, x⟩
/-! ### list(range(a, b)) -/
def dLstRg (fa fb : DE) : DL' := fun ρ Q E => fa ρ (fun x => fb ρ (fun y => ∃ i j : Int, x = .int i ∧ y = .int j ∧ 0 ≤ i ∧ j ≤ 1000000 ∧ i ≤ 1000000 ∧ 0 ≤ j ∧ Q ((List.range (j - i).toNat).map fun l => .int (i + (l : Nat)))) E) E
theorem rg_isAll {K : KW} {F : Hp} (i : Int) (ls : List Nat) : IsAll K F (ls.map fun l => V.int (i + (l : Nat))) (ls.map fun l => PyData.int (i + (l : Nat))) := by
  induction ls with
  | nil => exact .nil
  | cons l r ih => exact .cons (.int _) ih
theorem pf_lstRg {p2 q : Pos} (hm : X.mg "list" = none) (hm2 : X.mg "range" = none) (ha : PE X a (tD X.kw W fa)) (hb : PE X b (tD X.kw W fb)) (hg : Gl X "list" := by rfl) (hg2 : Gl X "range" := by rfl) (hc : X.calm = true := by rfl)
    (na : starEach [a, b] X.env = (false, eval a X.env) :: starEach [b] X.env := by rfl) (nb : starEach [b] X.env = (false, eval b X.env) :: starEach [] X.env := by rfl) (hp : (backTo q (starEach [b] X.env)).any (·.1) = false := by rfl)
    (ne : starEach [.Call (.Name "range" p2) [a, b] [] q] X.env = (false, eval (.Call (.Name "range" p2) [a, b] [] q) X.env) :: starEach [] X.env := by rfl) :
    PE X (.Call (.Name "list" p) [.Call (.Name "range" p2) [a, b] [] q] [] pos) (tF X.kw W (dLstRg fa fb)) :=
  PE.weak (pe_listRg hc hg hm (prg_2 hg2 hm2 ha hb na nb hp) ne) fun σ H Q ⟨C, F, ρ, Qd, Ed, S, h, k, x⟩ => ⟨C, F, ρ, _, Ed, S, h, fun F1 H1 v1 d1 S1 s1 i1 q1 => ⟨C, F1, ρ, _, Ed, S1, q1, fun F2 H2 v2 d2 S2 s2 i2 ⟨i, j, e1, e2, h0, h1, h2, h3, q2⟩ => by
    subst e1 e2
    cases i1; cases i2
    refine ⟨i, j, rfl, rfl, RgOk.of_le h0 (by omega) (by omega) h3, fun p hp => ?_⟩
    have ap := S2.new hp
    exact k F2 _ p _ _ (S2.fresh hp) (s1.trans s2) ⟨ap.f, ap.h0, ap.bg, ap.no⟩ upd_same (by rw [rgV_length, sizeLine_eq]; omega) (rg_isAll i _) q2, x⟩, x⟩
end
/-! ### a def without arguments -/
section
variable {X : Cx} {W : WX} {pos p : Pos} {x : Str} {k : Nat} {fa' : Addr} {fd : FuncData} {sp : Sp} {fn : DFn}
theorem pe_callG0 (F : FnG X.prog X.w X.K X.mg X.base CX0 k fa' fd [] sp) (hr : RoomG k X.A) (hg : Gl X x) (hm : X.mg x = some (.ref fa')) (hk : PySem.W.keepIn X.K (.ref fa') = true) (hb : Binds X.K fd [] [])
    (hdb : (x == ("__debug__" : Str)) = false := by decide) : PE X (.Call (.Name x p) [] [] pos) (tCall sp [] E0 tNil) where
  run := by
    intro pins s σ H Q I h
    refine wpAny_Call_Name_kw (ld_glob I hg hm (PySem.W.callWith_K0 I.kIn hk (wpAny_call ?_)) hdb)
    have q' : sp [] H Q E0 := h
    have bt := hb s [] I.kIn rfl
    refine codeAny_mono (F.run X.A X.stack s H ⟨[], []⟩ [] [] Q E0 hr I.env0 bt .nil q') fun r s' z => ?_
    match r, z with
    | .ok (.ret _), z => exact I.after z
    | .ok .next, z => exact False.elim z
    | .ok .brk, z => exact False.elim z
    | .ok .cont, z => exact False.elim z
    | .error _, z => exact False.elim z
theorem pd_fn0 (F : FnG X.prog X.w X.K X.mg X.base CX0 k fa' fd [] (spD X.kw fn)) (hr : RoomG k X.A) (hm : X.mg x = some (.ref fa')) (hk : PySem.W.keepIn X.K (.ref fa') = true) (hb : Binds X.K fd [] [])
    (hg : Gl X x := by rfl) (hdb : (x == ("__debug__" : Str)) = false := by decide) : PE X (.Call (.Name x p) [] [] pos) (tD X.kw W (dFn0 fn aNil)) :=
  PE.weak (pe_callG0 F hr hg hm hk hb hdb) fun σ H Q q => by
    obtain ⟨C, F, ρ, Qd, Ed, S, h, k, _⟩ := fn0_read (X := X) (W := W) σ H Q q
    exact k F H _ _ S (Same.refl _) .nil h
end
end DL
set_option Elab.async false
set_option linter.all false
set_option maxRecDepth 100000
set_option maxHeartbeats 4000000
/-! DR, records (7): enumerate of a tuple; zip of a list and a tuple -/
namespace DL
open PySem PySem.Spec PyProof.Rows L2
open AutoSeq1 (wpAny_loadPart')
theorem meets_enumerate_newT (l : Addr) (items : Array Value) (n : Nat) (dct : Option Addr) (sl : Array (Option Value)) :
    Meets (Builtin.«enumerate.__new__» ⟨[.type "enumerate", .ref l], []⟩) (fun _ R s => s.heap.get? l = some { cls := .type "tuple", dict := dct, data := .seq items n, slots := sl } ∧
      R (.ok (.ret (.ref (s.heap.push { cls := .type "tuple_iterator", data := .fields #[.ref l, .int 0 0] }).objs.size)))
        { s with heap := (s.heap.push { cls := .type "tuple_iterator", data := .fields #[.ref l, .int 0 0] }).push { cls := .type "enumerate", data := .fields #[.none, .bool false, .ref s.heap.objs.size, rawInt 0, .none, .none] } }) :=
  .of_wp fun prog w A R s h => by
    obtain ⟨hp, g, d, tk, os⟩ := s; obtain ⟨hl, h⟩ := h
    have hsub := sub_enumerate
    have hL : Heap.IsTuple (Shared.heap ⟨hp, g, d, tk, os⟩) l items := ⟨_, hl, rfl, n, rfl⟩
    wp_walk using wpAny_loadPart' hl
    refine wpAny_stack_any fun st => wpAny_pure ?_
    split
    · rename_i c _ _ _ _ _
      cases (c == Value.type "enumerate")
      · wp_walk using wpAny_loadPart' hl, wpAny_pyIter_tuple hL
        exact ⟨_, rfl, h⟩
      · wp_walk using wpAny_loadPart' hl, wpAny_pyIter_tuple hL
        exact ⟨_, rfl, h⟩
    · wp_walk using wpAny_loadPart' hl, wpAny_pyIter_tuple hL
      exact ⟨_, rfl, h⟩
section
variable {prog : Program} {w : World} {A : Around} {E : Value → Shared → Prop} {s : Shared}
theorem call_enumerate_tup {l : Addr} {items : Array Value} {Q : Value → Shared → Prop} (hL : s.heap.IsTuple l items)
    (h : ∀ h', IsEnum h' (s.heap.objs.size + 1) s.heap.objs.size 0 .none → h'.IsTupleIter s.heap.objs.size l 0 → h'.objs.size = s.heap.objs.size + 2 →
      (∀ b o, s.heap.get? b = some o → h'.get? b = some o) → Q (.ref (s.heap.objs.size + 1)) { s with heap := h' }) :
    wpAny (model prog w) A (call (.type "enumerate") [.ref l]) Q E s := by
  obtain ⟨⟨c, dct, dt, sl⟩, hl, hc, n, hd⟩ := hL
  replace hc : c = .type "tuple" := hc
  replace hd : dt = .seq items n := hd
  subst hc hd
  refine callType_new F.called_enumerate (by decide) (F.typeCall_enumerate_1 _) (F.newCall_enumerate_1 _) (fun obj => F.args_object_init_2 obj _) F.entry_enumerate_new
    (meets_enumerate_newT l items n dct sl) ⟨hl, ?_⟩
  have hz : (s.heap.push { cls := .type "tuple_iterator", data := .fields #[.ref l, .int 0 0] }).objs.size = s.heap.objs.size + 1 := Heap.size_push ..
  show _ ∧ _
  rw [hz]
  have he : IsEnum ((s.heap.push { cls := .type "tuple_iterator", data := .fields #[.ref l, .int 0 0] }).push
      { cls := .type "enumerate", data := .fields #[.none, .bool false, .ref s.heap.objs.size, rawInt 0, .none, .none] }) (s.heap.objs.size + 1) s.heap.objs.size 0 .none := by
    have := Heap.get?_push_size (s.heap.push { cls := .type "tuple_iterator", data := .fields #[.ref l, .int 0 0] })
      (o := { cls := .type "enumerate", data := .fields #[.none, .bool false, .ref s.heap.objs.size, rawInt 0, .none, .none] }) rfl
    rw [hz] at this; exact this
  refine ⟨⟨_, he, rfl⟩, h _ he ⟨_, Heap.get?_push_of_some _ (Heap.get?_push_size _ rfl), rfl, rfl⟩ (by rw [Heap.size_push, hz]) fun b o x => Heap.get?_push_of_some _ (Heap.get?_push_of_some _ x)⟩
end
/-- a tuple, each item in a new pair -/
def IteT (K : PySem.W.Frag) (a : Addr) : It :=
  ⟨fun i H => ∃ (xs : List V) (x : V), SqT K H a xs ∧ xs[i]? = some x, fun i H v H' => ∃ T x, v = .ref T ∧ H T = none ∧ H' = upd H T (.tup [.int (i : Nat), x]) ∧ ∀ xs, SqT K H a xs → xs[i]? = some x, fun i H => ∃ xs : List V, SqT K H a xs ∧ xs.length ≤ i⟩
theorem turn_enumT {P : Program} {w : World} {K : PySem.W.Frag} {elts : List Expr} {kk : Nat} {tpos : Pos} (a e it : Addr) :
    Turn P w K (.Tuple elts kk tpos) (IteT K a) [e, it] e (fun i h => (∃ old, IsEnum h e it ((i : Nat) : Int) old) ∧ h.IsTupleIter it a i ∧ e ≠ it ∧ a ≠ it) where
  mem := by simp
  obj := fun i h st b hb => by
    obtain ⟨⟨old, he⟩, ⟨o, ho, hc, hd⟩, _⟩ := st
    have e' : b = e ∨ b = it := by simpa using hb
    rcases e' with z | z
    · rw [z]; exact ⟨_, he, fun v q => nomatch q⟩
    · rw [z]; exact ⟨o, ho, fun v q => by rw [hd] at q; cases q⟩
  keep := fun i h h' st k => let ⟨⟨old, he⟩, ⟨o, ho, r⟩, hne⟩ := st; ⟨⟨old, k e (by simp) _ he⟩, ⟨o, k it (by simp) o ho, r⟩, hne⟩
  item := by
    intro X hP hw hK hc i pins s σ H E I hf st hg
    subst hP hw hK
    obtain ⟨⟨old, he⟩, hit, hne, hai⟩ := st
    obtain ⟨xs, x, hq, hx⟩ := hg
    obtain ⟨its, rv, p, hz⟩ := I.tuple hq
    obtain ⟨u, hu, ru⟩ := rv.get hx
    have hel : e < s.heap.objs.size := Heap.lt_size he
    have hil : it < s.heap.objs.size := by obtain ⟨_, q, _⟩ := hit; exact Heap.lt_size q
    have p : s.heap.IsTuple a its.toArray := p
    have hea : e ≠ a := fun z => by
      subst z
      obtain ⟨o, ho, hc', _⟩ := p
      have he : s.heap.get? e = some _ := he
      rw [he] at ho
      cases ho
      injection hc' with z
      exact absurd z (by decide)
    have hlt : i < its.toArray.size := by
      have := (List.getElem?_eq_some_iff.mp hu).1
      simpa using this
    refine wpAny_pyNext_enum_itemD (Draws.tuple (by simpa using I.ok.hd hc) it a hai its.toArray) he ⟨hit, p⟩ hlt hne (by simp [hne, hea]) fun y h' tk hy ho hs' hT hsz hk => ?_
    have ey : y = u := by
      have : its.toArray[i]? = some u := by simpa using hu
      have hy : its.toArray[i]? = some y := hy
      rw [this] at hy; exact (Option.some.inj hy).symm
    subst ey
    refine ⟨_, rfl, wpAny_letOwnedTupleGo_enum (s := { s with heap := h', toks := tk + 1 }) ho fun h'' he' sb => ?_⟩
    have hT2 : h''.get? s.heap.objs.size = some { cls := .type "tuple", data := .seq #[.int i tk, y] } := (sb.2 _ (Nat.ne_of_gt hel)).trans hT
    have new : ObjOk X.prog X.w (upd H s.heap.objs.size (.tup [.int (i : Nat), x])) h'' s.heap.objs.size (.tup [.int (i : Nat), x]) :=
      ⟨by show 2 ≤ sizeLine; decide, [.int i tk, y], .cons ⟨_, rfl⟩ (.cons ru .nil), ⟨_, hT2, rfl, _, rfl⟩⟩
    have I1 : Inv X pins σ (upd H s.heap.objs.size (.tup [.int (i : Nat), x])) { s with heap := h'', toks := tk + 1 } :=
      I.turnedNew (ch := [e, it]) (fun b ob hb q => (sb.2 b (fun z => hb (by simp [z]))).trans (hk b ob (fun z => hb (by simp [z])) (fun z => hb (by simp [z])) q)) hf (Nat.le_refl _) new
    refine ⟨.ref s.heap.objs.size, _, I1, rfl, ⟨_, x, rfl, I.hok.fresh (Nat.le_refl _), rfl, fun ys hy => by rw [I.tuple_inj hy hq]; exact hx⟩, ⟨⟨y, ?_⟩, ?_, hne, hai⟩, fun b hb => ?_⟩
    · have e1 : ((i + 1 : Nat) : Int) = (i : Int) + 1 := by omega
      rw [e1]; exact he'
    · obtain ⟨o, ho2, r⟩ := hs'.1
      exact ⟨o, (sb.2 it (Ne.symm hne)).trans ho2, r⟩
    · have hb' : b < s.heap.objs.size := by
        have e' : b = e ∨ b = it := by simpa using hb
        rcases e' with z | z
        · rw [z]; exact hel
        · rw [z]; exact hil
      rw [upd_ne (Nat.ne_of_lt hb')]
      exact (hf b hb).1
  done := by
    intro X hP hw hK hc i pins s σ H E I hf st hg
    subst hP hw hK
    obtain ⟨⟨old, he⟩, hit, hne, hai⟩ := st
    obtain ⟨xs, hq, hx⟩ := hg
    obtain ⟨its, rv, p, hz⟩ := I.tuple hq
    obtain ⟨f0, f1, f2, f3, f4, f5⟩ := hf it (by simp)
    have hl := rv.length
    have p : s.heap.IsTuple a its.toArray := p
    have hT : s.TypeIs (.ref e) "enumerate" := ⟨_, he, rfl⟩
    unfold pyNext
    refine wpAny_bind (wpAny_attempt (wpAny_callSpecial?_slot (name := Str.ofString "__next__") hT F.slot_enumerate_next
      (wpAny_call_entry F.slot_enumerate_next hT F.entry_enumerate_next ?_ (F.args_enumerate_next_1 _))))
    show wpAny _ _ (field (.ref e) 2 >>= _) _ _ _
    refine wpAny_bind (wpAny_field he rfl (x := .ref it) rfl ?_)
    refine wpAny_bind (RZ.nextOf_tuple_end (by simpa using I.ok.hd hc) hit p (by simp; omega) fun h' x he' hx' => ?_)
    obtain ⟨o, ho, hc2⟩ := hx'
    refine wpAny_bind (wpAny_isInstance (T := "StopIteration") (b := true) ⟨o, ho, hc2⟩ isSubtype_stop ?_)
    exact wpAny_pure ⟨rfl, I.turned (t' := s.toks) (fun b o hb q => he' b o hb q) f0 f1 f3 f4 f5⟩
  self := fun A i s Q E st h => let ⟨⟨_, he⟩, _⟩ := st; wpAny_pyIter_enum he h
def iEnumT (K : PySem.W.Frag) (ta : TA) : TI := fun σ H R => ta σ H fun vs H1 => ∃ a xs, vs = [.ref a] ∧ ((SqT K H1 a xs ∧ R (IteT K a) H1) ∨ (SqL K H1 a xs ∧ R (Ite K a) H1))
section
variable {X : Cx} {W : WX} {e e2 : Expr} {p pos tpos : Pos} {elts : List Expr} {kk : Nat} {fs : DL'}
theorem pi_enumT {ta : TA} (hg : Gl X "enumerate") (hm : X.mg "enumerate" = none) (ha : PA X [e] ta) (hs : starEach [e] X.env = [(false, eval e X.env)] := by rfl) :
    PI X (.Tuple elts kk tpos) (.Call (.Name "enumerate" p) [e] [] pos) (iEnumT X.K ta) := by
  refine ⟨fun pins s σ H R I h => ?_⟩
  refine Call_ (ld_blt I hg hm boot_enumerate (PyProof.Rows.callWith_type1 (thn (ha.run pos pins s σ H _ I h) fun us s1 ⟨vs, H1, I1, r1, q1⟩ => ?_) hs rfl))
  obtain ⟨a, xs, ex, q⟩ := q1
  subst ex
  cases r1 with
  | cons r rr =>
    cases rr
    cases r
    have fp : ∀ b ∈ [s1.heap.objs.size + 1, s1.heap.objs.size], FpOk X pins H1 b := fun b hb => by
      have e' : b = s1.heap.objs.size + 1 ∨ b = s1.heap.objs.size := by simpa using hb
      have hle : s1.heap.objs.size ≤ b := by
        rcases e' with z | z
        · rw [z]; exact Nat.le_add_right _ _
        · rw [z]; exact Nat.le_refl _
      exact I1.fpOk hle (I1.hok.fresh hle)
    rcases q with ⟨hq, q⟩ | ⟨hq, q⟩
    · obtain ⟨its, rv, p', hz⟩ := I1.tuple hq
      have p' : s1.heap.IsTuple a its.toArray := p'
      have la : a < s1.heap.objs.size := let ⟨_, ho, _⟩ := p'; Heap.lt_size ho
      refine call_enumerate_tup p' fun h' he hit hsz hk => wpAny_pyIter_enum he ?_
      have I2 : Inv X pins σ H1 { s1 with heap := h' } := I1.kept (t' := s1.toks) hk
      exact ⟨s1.heap.objs.size + 1, [s1.heap.objs.size + 1, s1.heap.objs.size], _, _, H1, rfl, I2, turn_enumT a (s1.heap.objs.size + 1) s1.heap.objs.size, ⟨⟨.none, he⟩, hit, Nat.succ_ne_self _, Nat.ne_of_lt la⟩, fp, q⟩
    · obtain ⟨its, rv, p', hz⟩ := I1.list hq
      refine call_enumerate_list p'.isList fun h' he hit hsz hk => wpAny_pyIter_enum he ?_
      have I2 : Inv X pins σ H1 { s1 with heap := h' } := I1.kept (t' := s1.toks) hk
      exact ⟨s1.heap.objs.size + 1, [s1.heap.objs.size + 1, s1.heap.objs.size], _, _, H1, rfl, I2, turn_enum a (s1.heap.objs.size + 1) s1.heap.objs.size, ⟨⟨.none, he⟩, hit, Nat.succ_ne_self _⟩, fp, q⟩
theorem walk_enumT {K : PySem.W.Frag} {a : Addr} {xs : List V} : Walk (IteT K a) xs.length (fun H => SqT K H a xs) (YPair (fun i => some (.int (i : Nat))) (fun i => xs[i]?)) := by
  refine ⟨fun i _ hi q => ⟨xs, xs[i], q, by simp [hi]⟩, fun _ q => ⟨xs, q, Nat.le_refl _⟩, fun i H v H' _ q y => ?_⟩
  obtain ⟨T, x, h1, h2, h3, h4⟩ := y
  exact ⟨T, .int (i : Nat), x, h1, h2, h3, rfl, h4 xs q⟩
/-- enumerate of a list or a tuple -/
def iEnA (fs : DL') : DL' := fun ρ Q E => fs ρ (fun ds => match ds with | [.list xs] => Q (enumD 0 xs) | [.tuple xs] => Q (enumD 0 xs) | _ => False) E
theorem pi_enumA (hm : X.mg "enumerate" = none) (ha : PA X [e] (tS X.kw W fs)) (hg : Gl X "enumerate" := by rfl) (hs : starEach [e] X.env = [(false, eval e X.env)] := by rfl) :
    PI X (.Tuple elts kk tpos) (.Call (.Name "enumerate" p) [e] [] pos) (tI X.kw true W (iEnA fs)) :=
  PI.weak (pi_enumT hg hm ha hs) fun σ H R ⟨C, F, ρ, Qd, Ed, S, h, k, x⟩ => ⟨C, F, ρ, _, Ed, S, h, fun F1 H1 vs ds S1 s1 i1 q => by
    split at q
    · rename_i xs
      cases i1 with | cons a t => cases t; cases a with | lst e1 z1 t1 =>
        refine ⟨_, _, rfl, .inr ⟨.of (S1.le _ _ e1), k F1 H1 _ _ S1 s1 ?_ ?_ q⟩⟩
        · rw [enumD_length, ← t1.length]; exact z1
        · rw [enumD_length, ← t1.length]
          refine walk_pair walk_enum (fun H hH => .of (hH _ _ e1)) fun i u v h1 h2 => ?_
          obtain ⟨dy, g2, i2⟩ := t1.get h2
          cases h1
          exact ⟨_, dy, .int _, i2, by rw [enumD_get g2]; simp⟩
    · rename_i xs
      cases i1 with | cons a t => cases t; cases a with | tup e1 z1 t1 =>
        refine ⟨_, _, rfl, .inl ⟨sqT_mono S1.le e1.sq, k F1 H1 _ _ S1 s1 ?_ ?_ q⟩⟩
        · rw [enumD_length, ← t1.length]; exact z1
        · rw [enumD_length, ← t1.length]
          refine walk_pair walk_enumT (fun H hH => sqT_mono hH e1.sq) fun i u v h1 h2 => ?_
          obtain ⟨dy, g2, i2⟩ := t1.get h2
          cases h1
          exact ⟨_, dy, .int _, i2, by rw [enumD_get g2]; simp⟩
    · exact q.elim, x⟩
end
end DL
set_option Elab.async false
set_option linter.all false
set_option maxRecDepth 100000
set_option maxHeartbeats 4000000
/-! DR, records (8): zip of a list and a tuple (DLZ's text, turned) -/
namespace DL
open PySem PySem.Spec PyProof.Rows L2
/-- a list and a tuple -/
abbrev ItLT (K : PySem.W.Frag) (a b : Addr) : It := ItR (fun H xs => SqL K H a xs) fun H ys => SqT K H b ys
theorem turn_LT {P : Program} {w : World} {K : PySem.W.Frag} {elts : List Expr} {kk : Nat} {tpos : Pos} {a b z TI TO i1 i2 : Addr} (D : ZipApart z TI TO i1 i2 a b) :
    Turn P w K (.Tuple elts kk tpos) (ItLT K a b) [z, TI, TO, i1, i2] z (fun i h => IsZip h z TI TO .none ∧ IsPair h TI (.ref i1) (.ref i2) ∧ (∃ x y, IsPair h TO x y) ∧ h.IsListIter i1 a i ∧ h.IsTupleIter i2 b i) where
  mem := List.mem_cons_self
  self := fun A i s Q E st h => wpAny_pyIter_zip st.1 h
  keep := fun i h h' ⟨g1, g2, ⟨x, y, g3⟩, g4, g5⟩ k =>
    ⟨k z (by simp) _ g1, k TI (by simp) _ g2, ⟨x, y, k TO (by simp) _ g3⟩, g4.at fun o q => k i1 (by simp) o q, g5.at fun o q => k i2 (by simp) o q⟩
  obj := by
    rintro i h ⟨g1, g2, ⟨x, y, g3⟩, ⟨o1, e1, _, d1⟩, ⟨o2, e2, _, d2⟩⟩ c hc
    simp only [List.mem_cons, List.not_mem_nil, or_false] at hc
    rcases hc with rfl | rfl | rfl | rfl | rfl
    · exact ⟨_, g1, nofun⟩
    · exact ⟨_, g2, nofun⟩
    · exact ⟨_, g3, nofun⟩
    · exact ⟨o1, e1, fun v q => by rw [d1] at q; cases q⟩
    · exact ⟨o2, e2, fun v q => by rw [d2] at q; cases q⟩
  item := by
    rintro X rfl rfl rfl hc i pins s σ H E I hf ⟨g1, g2, ⟨x0, y0, g3⟩, g4, g5⟩ ⟨xs, ys, x, y, hqx, hqy, hx, hy⟩
    obtain ⟨us, rv, p, _⟩ := I.list hqx
    obtain ⟨ws, rv2, p2, _⟩ := I.tuple hqy
    obtain ⟨u, hu, ru⟩ := rv.get hx
    obtain ⟨u2, hu2, ru2⟩ := rv2.get hy
    have zl : z < s.heap.objs.size := Heap.lt_size g1
    refine nextZ_item (runs_lst (i := i1) (l := a) (xs := us.toArray) (Ne.symm D.l1i1)) (runs_tup (i := i2) (l := b) (xs := ws.toArray) (Ne.symm D.l2i2)) D g1 g2 g3 ⟨g4, p.isList⟩ ⟨g5, p2⟩ (x := u) (y := u2) (by simpa using hu) (by simpa using hu2) fun h' q1 q2 q3 q4 q5 q6 => ?_
    refine ⟨_, rfl, wpAny_letOwnedTupleGo_zip (s := { s with heap := h' }) q1 fun h2 z2 sb => ?_⟩
    have pair : h2.get? s.heap.objs.size = some { cls := .type "tuple", data := .seq #[u, u2] } := (sb.2 _ (Nat.ne_of_gt zl)).trans q5
    have ok2 : ObjOk X.prog X.w (upd H s.heap.objs.size (.tup [x, y])) h2 s.heap.objs.size (.tup [x, y]) := ⟨by show 2 ≤ sizeLine; decide, [u, u2], .cons ru (.cons ru2 .nil), ⟨_, pair, rfl, _, rfl⟩⟩
    have out : ∀ c, c ∉ [z, TI, TO, i1, i2] → c ≠ z ∧ c ≠ TO ∧ c ≠ i1 ∧ c ≠ i2 := fun c hn => by
      simp only [List.mem_cons, List.not_mem_nil, or_false, not_or] at hn
      exact ⟨hn.1, hn.2.2.1, hn.2.2.2.1, hn.2.2.2.2⟩
    have J : Inv X pins σ (upd H s.heap.objs.size (.tup [x, y])) { s with heap := h2 } :=
      I.turnedNew (t' := s.toks) (ch := [z, TI, TO, i1, i2]) (fun c o hb q => let ⟨n1, n2, n3, n4⟩ := out c hb; (sb.2 c n1).trans (q6 c o n1 n2 n3 n4 q)) hf (Nat.le_refl _) ok2
    refine ⟨.ref s.heap.objs.size, _, J, rfl, ⟨_, x, y, rfl, I.hok.fresh (Nat.le_refl _), rfl, fun l hl => by rw [I.list_inj hl hqx]; exact hx, fun l hl => by rw [I.tuple_inj hl hqy]; exact hy⟩, ⟨z2, ?_, ⟨u, u2, ?_⟩, ?_, ?_⟩, fun c hcm => ?_⟩
    · exact (sb.2 _ D.TIz).trans (q6 _ _ D.TIz D.TITO D.TIi1 D.TIi2 g2)
    · exact (sb.2 _ D.TOz).trans q2
    · exact q3.1.at fun o q => (sb.2 _ D.i1z).trans q
    · exact q4.1.at fun o q => (sb.2 _ D.i2z).trans q
    · have lt : c < s.heap.objs.size := by
        simp only [List.mem_cons, List.not_mem_nil, or_false] at hcm
        obtain ⟨o1, e1, _⟩ := g4
        obtain ⟨o2, e2, _⟩ := g5
        rcases hcm with rfl | rfl | rfl | rfl | rfl
        · exact zl
        · exact Heap.lt_size g2
        · exact Heap.lt_size g3
        · exact Heap.lt_size e1
        · exact Heap.lt_size e2
      rw [upd_ne (Nat.ne_of_lt lt)]
      exact (hf c hcm).1
  done := by
    rintro X rfl rfl rfl hc i pins s σ H E I hf ⟨g1, g2, ⟨x0, y0, g3⟩, g4, g5⟩ ⟨xs, ys, hqx, hqy, hend⟩
    obtain ⟨us, rv, p, _⟩ := I.list hqx
    obtain ⟨ws, rv2, p2, _⟩ := I.tuple hqy
    have n1 := rv.length
    have n2 := rv2.length
    refine nextZ_end (runs_lst (i := i1) (l := a) (xs := us.toArray) (Ne.symm D.l1i1)) (runs_tup (i := i2) (l := b) (xs := ws.toArray) (Ne.symm D.l2i2)) (I.ok.hd hc) D g1 g2 g3 ⟨g4, p.isList⟩ ⟨g5, p2⟩ ?_ fun h' q6 => ⟨rfl, ?_⟩
    · rcases hend with q | q
      · exact .inl (by simp; omega)
      · exact .inr (by simp; omega)
    · refine I.turnedL (t' := s.toks) (ch := [z, TI, TO, i1, i2]) (fun c o hn q => ?_) hf
      simp only [List.mem_cons, List.not_mem_nil, or_false, not_or] at hn
      exact q6 c o hn.1 hn.2.2.1 hn.2.2.2.1 hn.2.2.2.2 q
section
variable {prog : Program} {w : World} {A : Around} {E : Value → Shared → Prop} {s : Shared}
abbrev hpLT1 (h : Heap) (l1 : Addr) : Heap := h.push { cls := .type "list_iterator", data := .fields #[.ref l1, .int 0 0] }
abbrev hpLT2 (h : Heap) (l1 l2 : Addr) : Heap := (hpLT1 h l1).push { cls := .type "tuple_iterator", data := .fields #[.ref l2, .int 0 0] }
abbrev hpLT3 (h : Heap) (l1 l2 : Addr) : Heap := (hpLT2 h l1 l2).push { cls := .type "tuple", data := .seq #[.ref h.objs.size, .ref (hpLT1 h l1).objs.size] }
abbrev hpLT4 (h : Heap) (l1 l2 : Addr) : Heap := (hpLT3 h l1 l2).push { cls := .type "tuple", data := .seq #[.none, .none] }
abbrev hpLT5 (h : Heap) (l1 l2 : Addr) : Heap := (hpLT4 h l1 l2).push { cls := .type "zip", data := .fields #[.none, .bool false, .bool false, .ref (hpLT2 h l1 l2).objs.size, .ref (hpLT3 h l1 l2).objs.size] }
theorem newLT (l1 l2 : Addr) (xs ys : Array Value) :
    Meets (Builtin.«zip.__new__» ⟨[.type "zip", .ref l1, .ref l2], []⟩) (fun _ R s => s.heap.IsList l1 xs ∧ s.heap.IsTuple l2 ys ∧
      R (.ok (.ret (.ref (hpLT4 s.heap l1 l2).objs.size))) { s with heap := hpLT5 s.heap l1 l2 }) :=
  .of_wp fun prog w A R s h => by
    obtain ⟨hp, g, d, tk, os⟩ := s
    obtain ⟨t1, t2, h⟩ := h
    have hsub := sub_zip
    have u1 : Heap.IsList (Shared.heap ⟨hp, g, d, tk, os⟩) l1 xs := t1
    have u2 : Heap.IsTuple (Shared.heap ⟨hp.push { cls := .type "list_iterator", data := .fields #[.ref l1, .int 0 0] }, g, d, tk, os⟩) l2 ys := let ⟨o, e, r⟩ := t2; ⟨o, Heap.get?_push_of_some _ e, r⟩
    wp_walk using wpAny_pyIter_list u1, wpAny_pyIter_tuple u2
    exact ⟨_, rfl, h⟩
theorem callLT {l1 l2 : Addr} {xs ys : Array Value} {Q : Value → Shared → Prop} (t1 : s.heap.IsList l1 xs) (t2 : s.heap.IsTuple l2 ys)
    (h : ∀ h', IsZip h' (s.heap.objs.size + 4) (s.heap.objs.size + 2) (s.heap.objs.size + 3) .none → IsPair h' (s.heap.objs.size + 2) (.ref s.heap.objs.size) (.ref (s.heap.objs.size + 1)) →
      IsPair h' (s.heap.objs.size + 3) .none .none → h'.IsListIter s.heap.objs.size l1 0 → h'.IsTupleIter (s.heap.objs.size + 1) l2 0 → (∀ c o, s.heap.get? c = some o → h'.get? c = some o) → Q (.ref (s.heap.objs.size + 4)) { s with heap := h' }) :
    wpAny (model prog w) A (call (.type "zip") [.ref l1, .ref l2]) Q E s := by
  refine callType_new F.called_zip (by decide) (F.typeCall_zip_2 _ _) (F.newCall_zip_2 _ _) (fun obj => F.args_object_init_3 obj _ _) F.entry_zip_new (newLT l1 l2 xs ys) ⟨t1, t2, ?_⟩
  generalize hn : s.heap.objs.size = n at h
  have n1 : (hpLT1 s.heap l1).objs.size = n + 1 := by rw [Heap.size_push, hn]
  have n2 : (hpLT2 s.heap l1 l2).objs.size = n + 2 := by rw [Heap.size_push, n1]
  have n3 : (hpLT3 s.heap l1 l2).objs.size = n + 3 := by rw [Heap.size_push, n2]
  have n4 : (hpLT4 s.heap l1 l2).objs.size = n + 4 := by rw [Heap.size_push, n3]
  have up : ∀ {h : Heap} {c : Addr} {o o' : Obj}, h.get? c = some o → (h.push o').get? c = some o := fun e => Heap.get?_push_of_some _ e
  have at' : ∀ {h : Heap} {o : Obj} {m : Nat}, h.objs.size = m → o.isFreed = false → (h.push o).get? m = some o := fun e f => by subst e; exact Heap.get?_push_size _ f
  have o5 : (hpLT5 s.heap l1 l2).get? (n + 4) = some { cls := .type "zip", data := .fields #[.none, .bool false, .bool false, .ref (n + 2), .ref (n + 3)] } := (at' n4 rfl).trans (by rw [n2, n3])
  have o4 : (hpLT5 s.heap l1 l2).get? (n + 3) = _ := up (at' (o := { cls := .type "tuple", data := .seq #[.none, .none] }) n3 rfl)
  have o3 : (hpLT5 s.heap l1 l2).get? (n + 2) = _ := up (up (at' (o := { cls := .type "tuple", data := .seq #[.ref s.heap.objs.size, .ref (hpLT1 s.heap l1).objs.size] }) n2 rfl))
  have o2 : (hpLT5 s.heap l1 l2).get? (n + 1) = _ := up (up (up (at' (o := { cls := .type "tuple_iterator", data := .fields #[.ref l2, .int 0 0] }) n1 rfl)))
  have o1 : (hpLT5 s.heap l1 l2).get? n = _ := up (up (up (up (at' (o := { cls := .type "list_iterator", data := .fields #[.ref l1, .int 0 0] }) hn rfl))))
  rw [hn, n1] at o3
  show _ ∧ _
  rw [n4]
  exact ⟨⟨_, o5, rfl⟩, h _ o5 o3 o4 ⟨_, o1, rfl, rfl⟩ ⟨_, o2, rfl, rfl⟩ fun c o e => up (up (up (up (up e))))⟩
end
/-- zip of a list and a tuple, walked -/
def iLT (K : PySem.W.Frag) (ta : TA) : TI := fun σ H R => ta σ H fun vs H1 => ∃ a b xs ys, vs = [.ref a, .ref b] ∧ SqL K H1 a xs ∧ SqT K H1 b ys ∧ R (ItLT K a b) H1
theorem pi_LT {X : Cx} {e e2 : Expr} {ta : TA} {p pos tpos : Pos} {elts : List Expr} {kk : Nat} (hg : Gl X "zip") (hm : X.mg "zip" = none) (ha : PA X [e, e2] ta)
    (hs : starEach [e, e2] X.env = (false, eval e X.env) :: starEach [e2] X.env := by rfl) (hpl : (backTo pos (starEach [e2] X.env)).any (·.1) = false := by rfl) :
    PI X (.Tuple elts kk tpos) (.Call (.Name "zip" p) [e, e2] [] pos) (iLT X.K ta) := ⟨fun pins s σ H R I h => by
  refine Call_ (ld_blt I hg hm PyProof.Rows.boot_zip (PyProof.Rows.callWith_type1 (thn (ha.run pos pins s σ H _ I h) ?_) hs hpl))
  rintro us s1 ⟨vs, H1, I1, r1, a, b, xs, ys, rfl, hqx, hqy, q⟩
  cases r1 with
  | cons r rr => cases rr with
    | cons r' rr =>
      cases rr; cases r; cases r'
      obtain ⟨ts, _, p1, _⟩ := I1.list hqx
      obtain ⟨ls, _, p2, _⟩ := I1.tuple hqy
      have lt1 : a < s1.heap.objs.size := p1.lt
      have lt2 : b < s1.heap.objs.size := let ⟨_, e, _⟩ := (show s1.heap.IsTuple b ls.toArray from p2); Heap.lt_size e
      generalize hn : s1.heap.objs.size = n at lt1 lt2
      refine callLT p1.isList p2 fun h' g1 g2 g3 g4 g5 kept => wpAny_pyIter_zip g1 ?_
      rw [hn] at g1 g2 g3 g4 g5
      have fresh : ∀ c ∈ [n + 4, n + 2, n + 3, n, n + 1], FpOk X pins H1 c := fun c hc => by
        have le : s1.heap.objs.size ≤ c := by
          simp only [List.mem_cons, List.not_mem_nil, or_false] at hc
          rw [hn]; omega
        exact I1.fpOk le (I1.hok.fresh le)
      rw [hn]
      exact ⟨n + 4, [n + 4, n + 2, n + 3, n, n + 1], _, _, H1, rfl, I1.kept (t' := s1.toks) kept, turn_LT (PySem.W.ktu_apart n a b lt1 lt2), ⟨g1, g2, ⟨_, _, g3⟩, g4, g5⟩, fresh, q⟩⟩
theorem walk_LT {K : PySem.W.Frag} {a b : Addr} {xs ys : List V} {n : Nat} (hn : n = min xs.length ys.length) : Walk (ItLT K a b) n (fun H => SqL K H a xs ∧ SqT K H b ys) (YPair (fun i => xs[i]?) (fun i => ys[i]?)) := by
  refine ⟨fun i _ hi ⟨q1, q2⟩ => ?_, fun _ ⟨q1, q2⟩ => ⟨xs, ys, q1, q2, by omega⟩, fun i H v H' _ ⟨q1, q2⟩ ⟨q, x, y, h1, h2, h3, h4, h5⟩ => ⟨q, x, y, h1, h2, h3, h4 xs q1, h5 ys q2⟩⟩
  have l1 : i < xs.length := by omega
  have l2 : i < ys.length := by omega
  exact ⟨xs, ys, xs[i], ys[i], q1, q2, List.getElem?_eq_getElem l1, List.getElem?_eq_getElem l2⟩
def iZLT (fs : DL') : DL' := fun ρ Q E => fs ρ (fun ds => match ds with | [.list xs, .tuple ys] => Q (zipD xs ys) | _ => False) E
theorem pi_zipLTD {X : Cx} {W : WX} {e e2 : Expr} {fs : DL'} {p pos tpos : Pos} {elts : List Expr} {kk : Nat} (hm : X.mg "zip" = none) (ha : PA X [e, e2] (tS X.kw W fs)) (hg : Gl X "zip" := by rfl)
    (hs : starEach [e, e2] X.env = (false, eval e X.env) :: starEach [e2] X.env := by rfl) (hpl : (backTo pos (starEach [e2] X.env)).any (·.1) = false := by rfl) :
    PI X (.Tuple elts kk tpos) (.Call (.Name "zip" p) [e, e2] [] pos) (tI X.kw true W (iZLT fs)) :=
  PI.weak (pi_LT hg hm ha hs hpl) fun σ H R ⟨C, F, ρ, Qd, Ed, S, h, k, x⟩ => ⟨C, F, ρ, _, Ed, S, h, fun F1 H1 vs ds S1 s1 i1 q => by
    split at q
    · cases i1 with | cons a t => cases t with | cons b t => cases t; cases a with | lst e1 z1 t1 => cases b with | tup e2 z2 t2 =>
        refine ⟨_, _, _, _, rfl, .of (S1.le _ _ e1), sqT_mono S1.le e2.sq, k F1 H1 _ _ S1 s1 (by rw [zipD_length, ← t1.length]; omega) ?_ q⟩
        rw [zipD_length, ← t1.length, ← t2.length]
        refine walk_pair (walk_LT rfl) (fun H hH => ⟨.of (hH _ _ e1), sqT_mono hH e2.sq⟩) fun i u v h1 h2 => ?_
        obtain ⟨dx, g1, i1⟩ := t1.get h1
        obtain ⟨dy, g2, i2⟩ := t2.get h2
        exact ⟨dx, dy, i1, i2, zipD_get g1 g2⟩
    · exact q.elim, x⟩
end DL
set_option Elab.async false
set_option linter.all false
set_option maxRecDepth 100000
set_option maxHeartbeats 4000000
/-! DR, records (9): an own exception that keeps what it is made with; raise; try -/
namespace DL
open PySem PySem.Spec PyProof.Rows L2
/-! ### B.__init__(self, ..), B an own class that has ValueError's -/
structure BaseC (K : PySem.W.Frag) (B : Addr) : Prop where
  ga : PySem.W.specialIn K (.ref B) "__getattribute__" = some (some (.builtin "type.__getattribute__"))
  rd : PySem.W.readsIn K B (.type "type") = true
  fi : PySem.W.findCls K (.ref B) (.type "type") "__init__" = some (.val (.builtin "ValueError.__init__"))
section
variable {X : Cx} {e : Expr} {es : List Expr} {ta : TA} {x : Str} {B : Addr} {p1 p2 pos : Pos}
theorem pe_ovinit {pl : Sem Bool} (hg : Gl X x) (hm : X.mg x = some (.ref B)) (b : BaseC X.K B) (ha : PA X (e :: es) ta) (hdb : (x == ("__debug__" : Str)) = false := by decide)
    (hc : eval (.Call (.Attribute (.Name x p1) "__init__" p2) (e :: es) [] pos) X.env = (do
      let ov ← eval (.Name x p1) X.env
      standAt p2.atName
      let (f, first) ← holding [ov] (getMethod ov "__init__" pl)
      callWith pos f first (backTo pos (starEach (e :: es) X.env)) (backToKw pos (keywordEach [] X.env))) := by rfl)
    (he : starEach (e :: es) X.env = (false, eval e X.env) :: starEach es X.env := by rfl) (hpl : (backTo pos (starEach es X.env)).any (·.1) = false := by rfl) :
    PE X (.Call (.Attribute (.Name x p1) "__init__" p2) (e :: es) [] pos) (tVeI X.K ta) := by
  refine ⟨fun pins s σ H Q I h => ?_⟩
  refine PySem.W.methodCall_KW (ld_glob I hg hm ?_ hdb) hc
  refine PySem.W.method_cls I.kIn b.ga (PySem.W.cls_value I.kIn b.rd b.fi (by decide +kernel) ?_)
  show wpAny _ _ (callWith pos (Value.builtin "ValueError.__init__") [] (backTo pos (starEach (e :: es) X.env)) []) _ _ _
  refine PyProof.Rows.callWith_method1 (thn (ha.run pos pins _ σ H _ (I.tok _) h) fun us s1 ⟨vs, H1, I1, r1, a, C, ws, ev, hl, T, ea, q⟩ => ?_) he hpl
  subst ev
  cases r1 with
  | @cons _ u0 _ ur ra rw' =>
    obtain rfl : u0 = Value.ref a := ra
    have hlen : ur.length ≤ sizeLine := by
      rw [← Paired.length rw', sizeLine_eq]
      omega
    exact oinit_ok T I1 ea hlen fun s' J => ⟨.non, H1, J, rfl, q⟩
end
/-! ### its own __init__: that, and self.f = the argument -/
def spTr (C : Addr) (f : Str) : Sp := fun vs H Q _ => ∃ a y, vs = [.ref a, y] ∧ H a = some (exo a C none) ∧ ∀ dx, H dx = none → dx ≠ a → Q .non (upd (upd H dx (exd dx [(f, y)])) a (exo a C (some dx)))
theorem ok_exInit {P : Program} {w : World} {K : PySem.W.Frag} {mg : Str → Option Value} {base : Heap} {x qual n1 n2 f : Str} {st : Stmt} {fa' C : Addr} {fd : FuncData} {N : List Str} (T : OexC K C) (hno : PySem.W.findIn K (.ref C) f = some none) (F : Fun K x qual st fa' fd) (S : FnScope N [n1, n2] (defScope st))
    (hN : 2 ≤ N.length) (hbody : ∀ (cdv : Value) (A : Around) (outer : List PySem.Env) (s : Shared) (H : Hp) (E : XK),
      PSs (cxOf (L2.CX P w) P w K mg base N qual (defScope st) fa' cdv A outer s H E) (defBody st) (tSeq (tDrop (tVeI K (tCons (tVar 0) (tCons (tVar 1) tNil)))) (tOst K f (tVar 0) (tVar 1)))) :
    FnOk P w K mg base (L2.CX P w) 1 fa' fd [n1, n2] (spTr C f) :=
  Fun.okX (k := 0) F S (fun vs H Q E ⟨a, y, e, _⟩ => by subst e; rfl) fun cdv A outer s H vs Q E hr ⟨a, y, e, ha, k⟩ => by
    subst e
    refine ⟨_, hbody cdv A outer s H E, ?_⟩
    have v0 : (L2.start N [V.ref a, y])[0]? = some (some (.ref a)) := by unfold L2.start; simp
    have v1 : (L2.start N [V.ref a, y])[1]? = some (some y) := by unfold L2.start; simp
    refine ⟨.ref a, v0, y, v1, a, C, [y], rfl, by simp, T, ha, y, v1, .ref a, v0, a, C, rfl, T, hno, .inl ⟨ha, fun dx h1 h2 => k dx h1 h2⟩⟩
/-! ### raise C(e) -/
def dRaise (C : Addr) (f : Str) (fe : DE) : DS := fun D ρ => fe ρ (fun d => D.ex ⟨C, [(f, d)]⟩) D.ex
section
variable {X : Cx} {W : WX} {pos p cpos : Pos} {e : Expr} {x f : Str} {C fI : Addr} {k : Nat} {fd : FuncData} {ps : List Str} {fe : DE}
theorem draise (tk : Takes X W) (T : OexC X.K C) (iC : PySem.W.findIn X.K (.ref C) "__init__" = some (some (.ref fI))) (tI : PySem.W.typeIn X.K (.ref fI) = some (.type "function"))
    (F1 : FnOk X.prog X.w X.K X.mg X.base (L2.CX X.prog X.w) k fI fd ps (spTr C f)) (hr : Room (k + 1) X.A) (hb : Binds X.K fd ps []) (hm : X.mg x = some (.ref C)) (he : PE X e (tD X.kw W fe)) (hg : Gl X x := by rfl) (hc : X.calm = true := by rfl)
    (hdb : (x == ("__debug__" : Str)) = false := by decide) (hs : starEach [e] X.env = (false, eval e X.env) :: starEach [] X.env := by rfl) :
    PS X (.Raise (some (.Call (.Name x p) [e] [] cpos)) none pos) (tDS X.kw W (dRaise C f fe)) :=
  PS.weak (ps_raise hc tk (pmk_oex T iC tI F1 hr hb .nil passL hg hm (pa_cons he pa_nil hs) hdb hs)) fun D σ H ⟨Cx', F, ρ, Dd, m, S, h, E⟩ =>
    ⟨Cx', F, ρ, _, Dd.ex, S, h, fun F' H' v d S' s' i q => ⟨by simp, fun a ha => ⟨a, v, rfl, upd_same, fun dx h1 h2 => ⟨rfl, dx, [(f, v)], upd_same, by rw [upd_ne h2, upd_same], by rw [upd_ne h2] at h1; exact h1, by
      have hd : H' dx = none := by rw [upd_ne h2] at h1; exact h1
      have e1 : upd (del (upd (upd (upd H' a (exo a C none)) dx (exd dx [(f, v)])) a (exo a C (some dx))) a) dx (.xd [(f, v)]) = upd H' dx (.xd [(f, v)]) := by
        funext b
        by_cases e1 : b = dx
        · subst e1; rw [upd_same, upd_same]
        · rw [upd_ne e1, upd_ne e1]
          by_cases e2 : b = a
          · subst e2; rw [del_same, ha]
          · rw [del_ne e2, upd_ne e2, upd_ne e1, upd_ne e2]
      rw [e1]
      exact E.ex F' _ σ ρ (.ref C) (some dx) ⟨C, [(f, d)]⟩ (S'.fresh hd) ⟨rfl, .inr ⟨dx, [(f, v)], rfl, upd_same, .cons ⟨rfl, i⟩ .nil⟩⟩ q⟩⟩⟩, E.exits⟩
end
/-! ### try: .. except C as n: return (.., n.f) -/
/-- the field f of the exception x -/
def exFld (x : ExcD) (f : Str) (Q : PyData → Prop) : Prop := ∃ d, x.fs.lookup f = some d ∧ Q d
def dTry (C : Addr) (f : Str) (g : DS) (h : PyData → PyData) : DS := fun D ρ => g { D with ex := fun x => x.cls = C ∧ exFld x f fun d => ∀ ρ', D.rt (h d) ρ' } ρ
/-- what is let out, the number of slots known -/
def wLen (n : Nat) (W : WX) : WX := fun c d σ H => σ.length = n → W c d σ H
theorem takes_len {X : Cx} {W : WX} (tk : Takes X W) : Takes X (wLen X.N.length W) := fun u s' ⟨a, B, sI, pins, σ, H, cls, d, e, I, nb, up, sky, na, os, ag, w⟩ => tk u s' ⟨a, B, sI, pins, σ, H, cls, d, e, I, nb, up, sky, na, os, ag, w I.len⟩
theorem fs_lookup {K : KW} {F : Hp} {f : Str} {d : PyData} : ∀ {fs : List (Str × V)} {gs : List (Str × PyData)}, Paired (fun (p : Str × V) (q : Str × PyData) => p.1 = q.1 ∧ Is K F p.2 q.2) fs gs → gs.lookup f = some d → ∃ v, fs.lookup f = some v ∧ Is K F v d
  | _, _, .nil, h => by cases h
  | p :: fs, q :: gs, .cons h t, e => by
    obtain ⟨p1, p2⟩ := p
    obtain ⟨q1, q2⟩ := q
    obtain ⟨h1, h2⟩ := h
    have h1 : p1 = q1 := h1
    subst h1
    rw [List.lookup_cons] at e ⊢
    by_cases z : (f == p1) = true
    · rw [z] at e ⊢
      cases e
      exact ⟨p2, rfl, h2⟩
    · have z : (f == p1) = false := by simpa using z
      rw [z] at e ⊢
      exact fs_lookup t e
theorem look_repl (n i : Nat) : look (List.replicate n DSlot.undef) i = .undef := by
  induction n generalizing i with
  | zero => rfl
  | succ n ih => cases i with
    | zero => rfl
    | succ i => exact ih i
section
variable {X : Cx} {pos pos' np p1 p2 p3 p4 p5 : Pos} {x n f c : Str} {C : Addr} {i jj kk : Nat} {body : List Stmt} {g : DS} {sts : List Stmt}
/-- except C as n: return (c, n.f) -/
theorem dtry {Wout : WX} (hs : X.stack = X.env :: X.outer) (hf : X.env.frame = some X.env.locals) (hN : X.N.Nodup) (hi : X.N[i]? = some n) (hln : X.env.kindOf n = some .local) (hm : X.mg x = some (.ref C)) (T : XfC X.K C) (hno : PySem.W.findIn X.K (.ref C) f = some none) (hex : PySem.W.exmOne X.K (.ref C) (.ref C) = some true)
    (hb : ∀ (W : WX) (pn : List (Addr × Obj)) (xe : Value → Shared → Prop), Takes (X.tr pn xe) W → PassesOwn (model X.prog X.w) X.A X.env xe → PSs (X.tr pn xe) body (tDS X.kw W g)) (tk : Takes X Wout) (hg : Gl X x := by rfl) (hv : Vis X.env.scope n := by exact Or.inl rfl) (hd : (x == ("__debug__" : Str)) = false := by decide) (hd2 : (n == ("__debug__" : Str)) = false := by decide) (hd3 : (n == ("__classdict__" : Str)) = false := by decide)
    (hab : attributeBase (.Name n p3) f X.env (eval (.Name n p3) X.env) = eval (.Name n p3) X.env := by rfl) (hs1 : starEach [(.Constant (.str c) jj p4 : Expr), .Attribute (.Name n p3) f p2] X.env = (false, eval (.Constant (.str c) jj p4 : Expr) X.env) :: starEach [.Attribute (.Name n p3) f p2] X.env := by rfl)
    (hs2 : starEach [(.Attribute (.Name n p3) f p2 : Expr)] X.env = (false, eval (.Attribute (.Name n p3) f p2) X.env) :: starEach [] X.env := by rfl) (hc : c.length ≤ sizeLine := by decide) :
    PS X (.Try body [.ExceptHandler (some (.Name x np)) (some n) [.Return (some (.Tuple [.Constant (.str c) jj p4, .Attribute (.Name n p3) f p2] kk p1)) pos'] p5] [] [] pos) (tDS X.kw Wout (dTry C f g fun d => .tuple [.str c, d])) := by
  refine PS.weak (ps_try_as (tb := fun W => tDS X.kw (wLen X.N.length W) g) hs hf hN hi hln ⟨hg, hd, .inl hm⟩ tk (fun W pn xe t po => hb (wLen X.N.length W) pn xe (takes_len t) po) (ts := fun a cls d => tRet (tTupS (tCons (tC (.str c)) (tCons (tXf a cls d C f (tVar i)) tNil)))) fun a oe cls d pn hz hfl => ?_) ?_
  · exact pss_one (ps_ret (pe_tupS (pa_cons pe_str (pa_cons (pe_xf T hno hz hfl (pe_var hi hv hd2 hd3) hab) pa_nil hs2) hs1)))
  · intro D σ H ⟨C0, F, ρ, Dd, m, S, h, E⟩
    refine ⟨C0, F, ρ, _, m, S, h, ⟨fun F' H' σ' ρ' S' q => E.nx F' H' σ' ρ' S' q, fun F' H' σ' ρ' S' q => E.bk F' H' σ' ρ' S' q, fun F' H' σ' ρ' S' q => E.ct F' H' σ' ρ' S' q, fun F' H' σ' ρ' v d S' i' q => E.rt F' H' σ' ρ' v d S' i' q, fun F' H' σ' ρ' cc dd y S' ey q => ?_⟩⟩
    obtain ⟨qc, d, ql, q⟩ := q
    obtain ⟨e1, e2⟩ := ey
    intro hl
    subst e1
    rw [qc]
    refine ⟨true, hex, fun _ a ha => ?_, fun z => by cases z⟩
    have hlen : i < σ'.length := by rw [hl]; exact (List.getElem?_eq_some_iff.mp hi).1
    have hget : (σ'.set i (some (V.ref a)))[i]? = some (some (.ref a)) := by rw [List.getElem?_set_self hlen]
    rcases e2 with ⟨_, e2⟩ | ⟨dd', fs, e2, e3, e4⟩
    · rw [e2] at ql; cases ql
    · obtain ⟨v, l1, l2⟩ := fs_lookup e4 ql
      refine ⟨.ref a, hget, rfl, rfl, dd', fs, v, e2, e3, l1, by show 2 ≤ sizeLine; decide, fun p o hp ho => ?_⟩
      have S1 := (S'.forget (ρ' := List.replicate ρ'.length .undef) (by simp) fun j => .inr (look_repl _ j)).store (v := .ref a) (t := .undef) hlen trivial fun b z => (z.not rfl).elim
      have s3 : Same F' (upd F' p (.frz o (.tup [.str c, v]))) := fun b u z => by rw [upd_ne (ne_of_none z (S1.le.free hp))]; exact z
      exact E.rt _ _ _ _ _ _ (S1.laid hp) (.tup (.of upd_same ho) (by show 2 ≤ sizeLine; decide) (.cons (.str c hc) (.cons (l2.up s3) .nil))) (q _)
end
end DL
set_option Elab.async false
set_option linter.all false
set_option maxRecDepth 100000
set_option maxHeartbeats 4000000
/-! DR, records (10): {k: v for ..}, dict([(k, v), ..]) -/
namespace DL
open PySem PySem.Spec PyProof.Rows L2
/-! ### {k: v for target in iter}, plain keys -/
def dcD (g : DG) (fk fv : DE) (ρw : DEnv) : List PyData → List (PyData × PyData) → (List (PyData × PyData) → Prop) → Prop
  | [], acc, Q => Q acc
  | d :: ds, acc, Q => g d ρw fun ρ2 => fk ρ2 (fun y => fv ρ2 (fun z => ∃ m, plainK y = true ∧ nkey y = some m ∧ dcD g fk fv ρw ds (putT acc y m z) Q) (fun _ => False)) (fun _ => False)
def dDc (fi : DL') (g : DG) (fk fv : DE) (vs : List Nat) : DK := fun ρ Q E => (vs.all fun i => plainS (look ρ i)) = true ∧ fi ρ (fun ds => dcD g fk fv (wipeD ρ vs) ds [] Q) E
theorem dc_it {J : It} {n : Nat} {G : Hp → Prop} {Y : Nat → Hp → V → Hp → Prop} (w : Walk J n G Y) {g : TG} {tt : TT} {tk tv : TE} {vs : List Nat} {σ : L2.St} {H1 : Hp} {D : Addr} {Qd : Hp → Prop} (Pv : Nat → Hp → Prop) (h0 : Pv 0 (upd H1 D (.dK []))) (hG : ∀ i H, i ≤ n → Pv i H → G H)
    (hs : ∀ i x H H', i < n → Pv i H → Y i H x H' → g x (wipe σ vs) H' fun σ2 H2 => wipe σ2 vs = wipe σ vs ∧ tt σ2 H2 fun b H3 =>
      if b = true then tk σ2 H3 fun y H4 => tv σ2 H4 fun z H5 => ∃ kvs k, y = kV k ∧ H5 D = some (.dK kvs) ∧ kvs.length < sizeLine ∧ Pv (i + 1) (upd H5 D (.dK (putK kvs k z))) else Pv (i + 1) H3) (hd : ∀ H, Pv n H → Qd H) :
    ∃ W : Nat → Nat → Hp → Prop, (∃ m, W 0 m (upd H1 D (.dK []))) ∧ ∀ i m H, W i m H →
      (J.stop i H ∧ Qd H) ∨ (J.go i H ∧ ∃ Nx : Hp → Prop, (∀ H', Nx H' → ∃ m', m' < m ∧ W (i + 1) m' H') ∧ ∀ x H', J.yld i H x H' → g x (wipe σ vs) H' fun σ2 H2 => wipe σ2 vs = wipe σ vs ∧ tt σ2 H2 fun b H3 =>
        if b = true then tk σ2 H3 fun y H4 => tv σ2 H4 fun z H5 => ∃ kvs k, y = kV k ∧ H5 D = some (.dK kvs) ∧ kvs.length < sizeLine ∧ Nx (upd H5 D (.dK (putK kvs k z))) else Nx H3) := by
  refine ⟨fun i m H => m = n - i ∧ i ≤ n ∧ Pv i H, ⟨n, by simp, Nat.zero_le _, h0⟩, ?_⟩
  rintro i m H ⟨rfl, hi, p⟩
  have q := hG i H hi p
  by_cases hlt : i < n
  · refine .inr ⟨w.goes i H hlt q, Pv (i + 1), fun H' p' => ⟨n - (i + 1), by omega, rfl, hlt, p'⟩, fun x H' y => hs i x H H' hlt p (w.yields i H x H' hlt q y)⟩
  · have e : i = n := by omega
    subst e
    exact .inl ⟨w.stops H q, hd H p⟩
section
variable {X : Cx} {W : WX} {pos : Pos} {kx vx tg iter : Expr} {scope : Scope} {own : List (Str × Nat)} {fi : DL'} {g : DG} {fk fv : DE}
theorem dc_read {w : Bool} : ∀ σ H Q, tG X.kw W (dDc fi g fk fv (own.map (·.2))) σ H Q → tDc (tI X.kw w W fi) (tGD X.kw w (own.map (·.2)) g) (tT X.kw W0 dYes) (tD X.kw W0 fk) (tD X.kw W0 fv) (own.map (·.2)) σ H Q := by
  intro σ H Q ⟨C, F, ρ, Qd, Ed, S, ⟨pl, h⟩, k, x⟩
  generalize own.map (·.2) = vs at *
  refine ⟨C, F, ρ, _, Ed, S, h, fun F1 H1 J ds S1 s1 hz hw q => fun D hD => ?_, x⟩
  refine dc_it hw (fun i H => ∃ F2 acc accd, Sd X.kw C F2 H σ ρ ∧ Same F1 F2 ∧ Apart C F2 H σ ρ D ∧ H D = some (.dK acc) ∧ acc.length ≤ i ∧ (acc.map (·.1)).Nodup ∧ IsKv X.kw F2 acc accd ∧ dcD g fk fv (wipeD ρ vs) (ds.drop i) accd Qd) ?_ ?_ ?_ ?_
  · have ap := S1.new hD
    exact ⟨F1, [], [], S1.fresh hD, Same.refl _, ⟨ap.f, ap.h0, ap.bg, ap.no⟩, upd_same, Nat.le_refl _, List.nodup_nil, .nil, q⟩
  · intro i H _ ⟨F2, acc, accd, S2, s2, _⟩
    exact s2.trans S2.le
  · intro i v H H' hi ⟨F2, acc, accd, S2, s2, ap, hDa, hac, hnd, ia, q⟩ ⟨d, hd, y⟩
    obtain ⟨F3, S3, s3, iv, n3, hD3⟩ : ∃ F3, Sd X.kw C F3 H' σ ρ ∧ Same F2 F3 ∧ IsT X.kw w F3 v d ∧ F3 D = none ∧ H' D = some (.dK acc) := by
      rcases y with ⟨rfl, iv⟩ | ⟨hw', T, a, b, da, db, rfl, hT, rfl, ia', ib', rfl⟩
      · exact ⟨F2, S2, Same.refl _, .inl (iv.up s2), ap.f, hDa⟩
      · have hne : D ≠ T := ne_of_none hDa hT
        have fs : Same F2 (upd F2 T (.tup [a, b])) := fun c u e => by rw [upd_ne (ne_of_none e (S2.le.free hT))]; exact e
        exact ⟨_, S2.laid hT, fs, .inr ⟨hw', T, a, b, da, db, rfl, rfl, upd_same, ia'.up (s2.trans fs), ib'.up (s2.trans fs)⟩, by rw [upd_ne hne]; exact ap.f, by rw [upd_ne hne]; exact hDa⟩
    have ap3 : Apart C F3 H' σ ρ D := ⟨n3, ap.h0, ap.bg, ap.no⟩
    have hdrop : ds.drop i = d :: ds.drop (i + 1) := by
      rw [List.drop_eq_getElem_cons hi]
      congr 1
      rw [List.getElem?_eq_getElem hi] at hd
      exact Option.some.inj hd
    rw [hdrop] at q
    have N3 := S3.nest
    have back : ∀ {F5 H5 : Hp} {σ2 : L2.St} {ρ2 : DEnv}, wipe σ2 vs = wipe (wipe σ vs) vs → wipeD ρ2 vs = wipeD (wipeD ρ vs) vs → Sd X.kw ⟨H', F3, C.bg, false, []⟩ F5 H5 σ2 ρ2 →
        Sd X.kw C F5 H5 σ ρ ∧ Same F3 F5 ∧ F5 D = none ∧ H5 D = some (.dK acc) := by
      intro F5 H5 σ2 ρ2 e1 e2 S5
      have S6 : Sd X.kw ⟨H', F3, C.bg, false, []⟩ F5 H5 (wipe σ vs) (wipeD ρ vs) := by
        have := S5.wiped (vs := vs)
        rw [e1, e2, wipe_wipe, wipeD_wipeD] at this
        exact this
      have S7 := N3.unwipe pl S6.le0 S6
      exact ⟨S3.unnest S7, S7.le0, S7.still D (by show H' D ≠ none; rw [hD3]; simp) n3 (by simp), S7.frame D _ hD3 ap3.bg (by simp)⟩
    refine ⟨⟨H', F3, C.bg, false, []⟩, F3, wipeD ρ vs, d, _, N3.wiped, iv, q, fun σ2 ρ2 S4 w4 y4 q4 => ⟨w4.trans (wipe_wipe σ vs), ⟨H', F3, C.bg, false, []⟩, F3, ρ2, (fun b => b = true ∧ _), _, S4, ⟨rfl, q4⟩, fun F5 H5 b S5 s5 q5 => ?_, exits0⟩⟩
    obtain ⟨rfl, q5⟩ := q5
    refine iteT ⟨⟨H', F3, C.bg, false, []⟩, F5, ρ2, _, _, S5, q5, fun F6 H6 y z S6 s6 i6 q6 => ⟨⟨H', F3, C.bg, false, []⟩, F6, ρ2, _, _, S6, q6, fun F7 H7 y2 z2 S7' s7 i7 q7 => ?_, exits0⟩, exits0⟩
    obtain ⟨m, py, hm, q7⟩ := q7
    obtain ⟨key, rfl, rfl, rfl⟩ := key_plain (Is.o (H := H7) i6) py hm
    obtain ⟨S8, s8, n8, h8⟩ := back w4 y4 S7'
    have ap8 : Apart C F7 H7 σ ρ D := ⟨n8, ap.h0, ap.bg, ap.no⟩
    have lt : acc.length < sizeLine := by omega
    have lp := length_putK acc key y2
    exact ⟨acc, key, rfl, h8, lt, F7, putK acc key y2, _, S8.write ap8, s2.trans (s3.trans s8), ⟨n8, ap.h0, ap.bg, ap.no⟩, upd_same, by omega, putK_keys hnd, isKv_put key i7 (IsKv.up ia (s3.trans s8)), q7⟩
  · intro H ⟨F2, acc, accd, S2, s2, ap, hDa, hac, hnd, ia, q⟩
    rw [List.drop_length] at q
    exact k F2 H D _ accd S2 (s1.trans s2) ap hDa (.inl ⟨acc, rfl, by omega, hnd, ia⟩) q
theorem pg_dc {w : Bool} (hc : X.calm = true) (hN : X.N.Nodup) (ok : BlkOk X.N X.env.scope scope own) (hi : PI X tg iter (tI X.kw w W fi))
    (hg : ∀ (s : Shared) (H : Hp) (C : Addr) (cl : List (Str × Addr)) (fp : List Addr), PG (X.blk s H scope (compEnvC scope cl C X.env) fp) tg (tGD X.kw w (own.map (·.2)) g))
    (hk : ∀ (s : Shared) (H : Hp) (C : Addr) (cl : List (Str × Addr)) (fp : List Addr), PE (X.blk s H scope (compEnvC scope cl C X.env) fp) kx (tD X.kw W0 fk))
    (he : ∀ (s : Shared) (H : Hp) (C : Addr) (cl : List (Str × Addr)) (fp : List Addr), PE (X.blk s H scope (compEnvC scope cl C X.env) fp) vx (tD X.kw W0 fv)) (hs : ∀ x, foldedSetIterable iter X.env x = pure x := by intro _; rfl) :
    PE X (.DictComp kx vx [⟨tg, iter, [], 0⟩] scope pos) (tG X.kw W (dDc fi g fk fv (own.map (·.2)))) :=
  PE.weak (pe_dc hc hN hi ok hg (fun _ _ _ _ _ => pts_nilD) hk he hs) dc_read
end
/-! ### dict([(k, v), ..]) -/
/-- the pairs, put in their order -/
def mergeP : List PyData → List (PyData × PyData) → (List (PyData × PyData) → Prop) → Prop
  | [], acc, Q => Q acc
  | .tuple [k, v] :: r, acc, Q => ∃ m, plainK k = true ∧ nkey k = some m ∧ mergeP r (putT acc k m v) Q
  | _, _, _ => False
section
variable {X : Cx} {F H : Hp}
theorem pairs_in (le : Same F H) : ∀ {ds : List PyData} {vs : List V} {ks : List (Key × V)} {acc : List (PyData × PyData)} {Q : List (PyData × PyData) → Prop}, IsAll X.kw F vs ds → mergeP ds acc Q → IsKv X.kw F ks acc → (ks.map (·.1)).Nodup →
    ∃ (ps : List Addr) (kvs : List (Key × V)) (acc' : List (PyData × PyData)), vs = ps.map V.ref ∧ Paired (fun p kv => SqT X.K H p [kV kv.1, kv.2]) ps kvs ∧ IsKv X.kw F (mergeK ks kvs) acc' ∧ ((mergeK ks kvs).map (·.1)).Nodup ∧ kvs.length = ds.length ∧ Q acc'
  | [], _, ks, acc, Q, .nil, q, hk, nd => ⟨[], [], acc, rfl, .nil, hk, nd, rfl, q⟩
  | d :: ds, _, ks, acc, Q, .cons (v := v) i t, q, hk, nd => by
    unfold mergeP at q
    split at q
    · rename_i h; cases h
    · rename_i k vv r acc0 h
      cases h
      obtain ⟨m, py, hm, q⟩ := q
      cases i with
      | tup e z tt =>
        rename_i a xs
        cases tt with
        | cons i1 tt =>
          cases tt with
          | cons i2 tt =>
            cases tt
            rename_i y1 y2
            obtain ⟨key, rfl, rfl, rfl⟩ := key_plain (Is.o (H := H) i1) py hm
            obtain ⟨ps, kvs, acc', e1, e2, e3, e4, e5, e6⟩ := pairs_in le t q (isKv_put key i2 hk) (putK_keys nd)
            exact ⟨a :: ps, (key, y2) :: kvs, acc', by rw [e1]; rfl, .cons (sqT_mono le e.sq) e2, e3, e4, by simp [e5], e6⟩
    · exact q.elim
end
section
variable {X : Cx} {W : WX} {pos p : Pos} {e : Expr} {f : DE}
def dDictP (f : DE) : DK := fun ρ Q E => f ρ (fun x => ∃ ds, x = .list ds ∧ mergeP ds [] Q) E
theorem pg_dictP (hm : X.mg "dict" = none) (he : PE X e (tD X.kw W f)) (hg : Gl X "dict" := by rfl) (hc : X.calm = true := by rfl) (hs : starEach [e] X.env = (false, eval e X.env) :: starEach [] X.env := by rfl) : PE X (.Call (.Name "dict" p) [e] [] pos) (tG X.kw W (dDictP f)) :=
  PE.weak (pe_callTy (call_dictP hc) hg hm (by first | rfl | decide +kernel) (pa_cons he pa_nil hs) (by decide) (by decide) hs) fun σ H Q ⟨C, F, ρ, Qd, Ed, S, h, k, x⟩ => ⟨C, F, ρ, _, Ed, S, h, fun F1 H1 v d S1 s1 i1 ⟨ds, e, q⟩ => by
    subst e
    cases i1 with
    | lst e z t =>
      obtain ⟨ps, kvs, acc, e1, e2, e3, e4, e5, e6⟩ := pairs_in S1.le t q .nil List.nodup_nil
      subst e1
      refine ⟨_, ps, kvs, rfl, .of (S1.le _ _ e), e2, fun p hp => ?_⟩
      have ap := S1.new hp
      have hl := length_mergeK kvs []
      rw [t.length] at z
      exact k _ _ p _ acc (S1.fresh hp) s1 ⟨ap.f, ap.h0, ap.bg, ap.no⟩ upd_same (.inl ⟨_, rfl, by rw [List.length_nil] at hl; omega, e4, e3⟩) e6, x⟩
end
end DL
set_option Elab.async false
set_option linter.all false
set_option maxRecDepth 100000
set_option maxHeartbeats 4000000
/-! DX, exceptions as values (1): made, held, asked for their fields, their classes -/
namespace DL
open PySem PySem.Spec PyProof.Rows L2
/-! ### C(e, ..), C without an own __init__ -/
section
variable {X : Cx} {pins : List (Addr × Obj)} {σ : L2.St} {H : Hp} {s : Shared} {C : Addr} {bmB : List Value} {B newId initId : String}
theorem exc_made (F : ExcBaseFacts B newId initId bmB) (q : PySem.W.excIn X.K C bmB newId = true) {us : List Value} {Q : VK} (I : Inv X pins σ H s) (hl : us.length ≤ sizeLine) (h : ∀ a, H a = none → Q (.ref a) (upd H a (ExO (.ref C) a))) :
    wpAny (model X.prog X.w) X.A (call (.ref C) us) (EP X pins σ Q) X.xe s := by
  obtain ⟨bm, N, nm, qn, bs, hdct, sn, sub, ab, col, dd, k0, k1, k2, k3, k5, mN, hC, hN, hni, T⟩ := exc_obj I.kIn q
  refine wpAny_call_exc_subT F T hC hN hni (fun h' a hm => ?_) hl
  have hn : H a = none := I.hok.gone hm.new
  obtain ⟨t, ht, _, _⟩ := hm.there
  exact ⟨.ref a, upd H a (ExO (.ref C) a), I.laidN hm.keeps hm.new hn (exO_ok ht ⟨rfl, rfl⟩ rfl rfl rfl (show 4 < 6 by decide)), rfl, h a hn⟩
end
def tExc (C : Addr) (ta : TA) : TE := fun σ H Q => ta σ H fun vs H1 => vs.length ≤ 1000 ∧ ∀ a, H1 a = none → Q (.ref a) (upd H1 a (ExO (.ref C) a))
section
variable {X : Cx} {C : Addr} {bmB : List Value} {B newId initId : String} {x : Str} {e : Expr} {es : List Expr} {ta : TA} {p pos : Pos}
theorem pe_excN (F : ExcBaseFacts B newId initId bmB) (q : PySem.W.excIn X.K C bmB newId = true) (gC : X.mg x = some (.ref C)) (kC : PySem.W.keepIn X.K (.ref C) = true) (ha : PA X (e :: es) ta) (hg : Gl X x := by rfl)
    (hdb : (x == ("__debug__" : Str)) = false := by decide) (he : starEach (e :: es) X.env = (false, eval e X.env) :: starEach es X.env := by rfl) (hpl : (backTo pos (starEach es X.env)).any (·.1) = false := by rfl) :
    PE X (.Call (.Name x p) (e :: es) [] pos) (tExc C ta) := by
  refine ⟨fun pins s σ H Q I h => ?_⟩
  refine wpAny_Call_Name_kw (ld_glob I hg gC ?_ hdb)
  refine PySem.W.callWith_K (h₀ := X.base) I.ok.mod.kin kC (thn (ha.run pos pins s σ H _ I h) fun us s1 ⟨vs, H1, I1, r1, hz, q1⟩ => ⟨I1.kIn, ?_⟩) he hpl
  refine exc_made F q I1 ?_ q1
  rw [List.nil_append, ← Paired.length r1, sizeLine_eq]; omega
theorem pe_exc0 (F : ExcBaseFacts B newId initId bmB) (q : PySem.W.excIn X.K C bmB newId = true) (gC : X.mg x = some (.ref C)) (kC : PySem.W.keepIn X.K (.ref C) = true) (hg : Gl X x := by rfl) (hdb : (x == ("__debug__" : Str)) = false := by decide) :
    PE X (.Call (.Name x p) [] [] pos) (tExc C tNil) := by
  refine ⟨fun pins s σ H Q I h => ?_⟩
  refine wpAny_Call_Name_kw (ld_glob I hg gC ?_ hdb)
  exact PySem.W.callWith_K0 I.kIn kC (exc_made F q I (by decide) h.2)
end
/-! ### C(e, ..), C with its own __init__ that is walked -/
/-- C(e, ..) as a value: sp is what __init__ promises -/
def tMkV (C : Addr) (sp : Sp) (dvs : List V) (ta : TA) : TE := fun σ H Q => ta σ H fun vs H1 => vs.length ≤ 1000 ∧ ∀ a, H1 a = none → sp (.ref a :: (vs ++ dvs)) (upd H1 a (exo a C none)) (fun v H2 => v = .non ∧ Q (.ref a) H2) (fun _ _ _ => False)
section
variable {X : Cx} {CX : CXT} {x : Str} {C fI : Addr} {k : Nat} {fd : FuncData} {ps : List Str} {sp : Sp} {ds : List Value} {dvs : List V} {e : Expr} {es : List Expr} {ta : TA} {p pos : Pos}
theorem pe_mkV (T : OexC X.K C) (iC : PySem.W.findIn X.K (.ref C) "__init__" = some (some (.ref fI))) (tI : PySem.W.typeIn X.K (.ref fI) = some (.type "function"))
    (F1 : FnOk X.prog X.w X.K X.mg X.base CX k fI fd ps sp) (hr : Room (k + 1) X.A) (hb : Binds X.K fd ps ds) (hd : Vals dvs ds) (hx : Passes CX X (fun _ _ _ => False)) (hm : X.mg x = some (.ref C)) (ha : PA X (e :: es) ta) (hg : Gl X x := by rfl)
    (hdb : (x == ("__debug__" : Str)) = false := by decide) (he : starEach (e :: es) X.env = (false, eval e X.env) :: starEach es X.env := by rfl) (hpl : (backTo pos (starEach es X.env)).any (·.1) = false := by rfl) :
    PE X (.Call (.Name x p) (e :: es) [] pos) (tMkV C sp dvs ta) := by
  refine ⟨fun pins s σ H Q I h => ?_⟩
  obtain ⟨nm, q, N, bs, bm, sn, sub, ab, col, dd, k0, k1, k2, k3, k5, hC, hbm⟩ := T.cls
  refine wpAny_Call_Name_kw (ld_glob I hg hm ?_ hdb)
  refine PySem.W.callWith_K (h₀ := X.base) I.ok.mod.kin T.kC (thn (ha.run pos pins s σ H _ I h) fun us s1 ⟨vs, H1, I1, r1, hz, q1⟩ => ⟨I1.kIn, ?_⟩) he hpl
  obtain ⟨hp, g, dr, tk, os⟩ := s1
  have hsz : hp.objs.size ≤ hp.objs.size + 1 := Nat.le_succ _
  have hn : H1 (hp.objs.size + 1) = none := I1.hok.fresh hsz
  have hq := q1 (hp.objs.size + 1) hn
  have kk : ∀ b o, hp.get? b = some o → ((hp.push (PySem.W.kdv_tup us)).push (PySem.HandSPX.excO C hp.objs.size)).get? b = some o := fun b o e => Heap.get?_push_of_some _ (Heap.get?_push_of_some _ e)
  have hget : ((hp.push (PySem.W.kdv_tup us)).push (PySem.HandSPX.excO C hp.objs.size)).get? (hp.objs.size + 1) = some (PySem.HandSPX.excO C hp.objs.size) := by heap_get
  have I2 : Inv X pins σ (upd H1 (hp.objs.size + 1) (exo (hp.objs.size + 1) C none)) ⟨(hp.push (PySem.W.kdv_tup us)).push (PySem.HandSPX.excO C hp.objs.size), g, dr, tk, os⟩ :=
    I1.laid (t' := tk) (a := hp.objs.size + 1) (o := exo (hp.objs.size + 1) C none) (h' := (hp.push (PySem.W.kdv_tup us)).push (PySem.HandSPX.excO C hp.objs.size)) kk hsz (exo_ok hget)
  have r2 : Vals (V.ref (hp.objs.size + 1) :: (vs ++ dvs)) (Value.ref (hp.objs.size + 1) :: (us ++ ds)) := .cons rfl (r1.append hd)
  have hl : (Value.ref (hp.objs.size + 1) :: us ++ ds).length = ps.length := by
    have e := r2.length
    rw [F1.len _ _ _ _ hq] at e
    exact e.symm
  have hus : us.length ≤ sizeLine := by
    rw [← Paired.length r1, sizeLine_eq]; omega
  show wpAny _ _ (call (.ref C) us) _ _ _
  refine wpAny_call (PySem.HandSPX.call_own F.excBase_ValueError (fun Y => PySem.HandSPX.refsVE_contains Y bm hbm) (I1.kIn _ _ hC) (PySem.W.looks_findIn I1.kIn iC) (fun self => PySem.W.bind_fn I1.kIn self tI) hus
    (codeAny_mono (F1.run _ X.stack _ _ ⟨Value.ref (hp.objs.size + 1) :: us, []⟩ (Value.ref (hp.objs.size + 1) :: (us ++ ds)) _ _ (fun _ _ _ => False) (hr.make C us []) (I2.env0.make C us []) (hb _ (Value.ref (hp.objs.size + 1) :: us) I2.kIn hl) r2 hq) fun r s' hq' => ?_))
  cases r with
  | error er => exact hx pins σ _ _ er s' I2 hq'
  | ok fl =>
    cases fl with
    | ret u =>
      have z := I2.after hq'
      obtain ⟨v, H2, I3, rv, ev, q2⟩ := z
      subst ev
      exact ⟨rv, .ref (hp.objs.size + 1), H2, I3, rfl, q2⟩
    | next => exact False.elim hq'
    | brk => exact False.elim hq'
    | cont => exact False.elim hq'
end
/-! ### an error that is held -/
/-- at a: an error of the class at C that isn't raised -/
inductive ErrAt (H : Hp) (a C : Addr) : Prop
  | own {d : Addr} {fs : List (Str × V)} : H a = some (exo a C (some d)) → H d = some (exd d fs) → ErrAt H a C
  | pl : H a = some (ExO (.ref C) a) → ErrAt H a C
theorem ErrAt.up {H H' : Hp} {a C : Addr} (h : ErrAt H a C) (s : Same H H') : ErrAt H' a C := by
  cases h with
  | own h1 h2 => exact .own (s _ _ h1) (s _ _ h2)
  | pl h => exact .pl (s _ _ h)
/-- x.f, x such an error -/
def tXo (K : PySem.W.Frag) (f : Str) (te : TE) : TE := fun σ H Q => te σ H fun x H1 => ∃ (a C d : Addr) (fs : List (Str × V)) (v : V), x = .ref a ∧ XfC K C ∧ PySem.W.findIn K (.ref C) f = some none ∧ H1 a = some (exo a C (some d)) ∧ H1 d = some (exd d fs) ∧ fs.lookup f = some v ∧ Q v H1
theorem pe_xo {X : Cx} {e : Expr} {te : TE} {pos : Pos} {n : Str} (he : PE X e te) (hb : attributeBase e n X.env (eval e X.env) = eval e X.env := by rfl) : PE X (.Attribute e n pos) (tXo X.K n te) := by
  refine ⟨fun pins s σ H Q I h => ?_⟩
  refine attr_of hb (thn (he.run pins s σ H _ I h) fun u s1 hh => ?_)
  obtain ⟨x, H1, I1, rx, a, C, d, fs, v, ex, T, hno, ha, hd, l, q⟩ := hh
  subst ex
  obtain rfl : u = Value.ref a := rx
  obtain ⟨t1, ho⟩ := exo_at I1.hok ha
  obtain ⟨mA, hns, hr⟩ := exd_at I1.hok hd
  obtain ⟨od, ho2, hl⟩ := lookIn_ns hns
  obtain ⟨u, hu, ru⟩ := RelO.some_of (v := v) (o := mA n) (by rw [← l]; exact hr n)
  have J : PySem.W.InstAt s1.heap a { cls := .ref C, dict := some d, data := .fields #[.ref t1, .none, .none, .none, .bool false, .none] } C (some od) := ⟨ho, rfl, rfl, ho2⟩
  exact HandSPX.exc_get I1.kIn J T.ga T.gg T.exC (PySem.W.findObj_own T.hdC hno rfl (by rw [hl, hu])) (handed_of ru) ⟨v, H1, I1.tok _, ru, q⟩
/-- isinstance(x, c), x such an error, c one class -/
def rIsX (K : PySem.W.Frag) : List V → Hp → VK → Prop := fun xs H Q => ∃ (a C : Addr) (c : V) (u : Value) (b : Bool), xs = [.ref a, c] ∧ ErrAt H a C ∧ ExcC K C ∧ ClsV c u ∧ PySem.W.kitOne K (.ref C) u = some b ∧ Q (.bl b) H
theorem call_isX {X : Cx} : CallR X (.builtin "isinstance") (rIsX X.K) := by
  intro pins s σ H xs us Q I r h
  obtain ⟨a, C, c, u, b, rfl, he, T, k, e, q⟩ := h
  obtain ⟨u1, u2, rfl, r1, r2⟩ := vals2 r
  have e2 := k.eq r2
  subst e2
  cases (show u1 = Value.ref a from r1)
  obtain ⟨oe, od, J⟩ : ∃ oe od, PySem.W.InstAt s.heap a oe C od := by
    cases he with
    | own h1 h2 =>
      obtain ⟨t1, ho⟩ := exo_at I.hok h1
      obtain ⟨mA, hns, hr⟩ := exd_at I.hok h2
      obtain ⟨od, ho2, hl⟩ := lookIn_ns hns
      exact ⟨_, some od, ho, rfl, rfl, ho2⟩
    | pl h =>
      obtain ⟨⟨oe, vs, ho, hz, hd, h1, _⟩, _, _⟩ := I.hok a _ h
      obtain ⟨oc, odd, oda, osl⟩ := oe
      obtain ⟨h1, h2⟩ := hz
      dsimp only at h1 h2 hd
      subst h1 h2 hd
      exact ⟨_, none, ho, rfl, rfl, trivial⟩
  exact PySem.W.kia_one (PySem.W.kitx_exc (by obtain ⟨cd, hc, _⟩ := PySem.W.any_some T.hd; rw [hc]; rfl) T.hg T.hk T.hs T.ha T.hn T.ht T.hm) I.kIn J e (fun z => nomatch z) fun tk => ⟨.bl b, H, I.tok tk, rfl, q⟩
end DL
set_option Elab.async false
set_option linter.all false
set_option maxRecDepth 100000
set_option maxHeartbeats 4000000
/-! DX, exceptions as values (2): two lists that hold the same things are equal -/
namespace DL
open PySem PySem.Spec PyProof.Rows L2
def FlatV : V → Prop
  | .non => True
  | .bl _ => True
  | .int _ => True
  | .str _ => True
  | .ref _ => True
  | _ => False
theorem eq_self {prog : Program} {w : World} {s : Shared} {v : V} {u y : Value} (f : FlatV v) (r : RelV v u) (q : RelV v y) : PySem.W.EqTree prog w s 0 u y true := by
  cases v with
  | non => cases (show u = Value.none from r); cases (show y = Value.none from q); exact .same
  | bl b => cases (show u = Value.bool b from r); cases (show y = Value.bool b from q); exact .same
  | int i =>
    obtain ⟨t, rfl⟩ := (show ∃ t, u = Value.int i t from r)
    obtain ⟨t', rfl⟩ := (show ∃ t, y = Value.int i t from q)
    exact .leaf fun A _ => by
      have z := SeqAt.EqAt.int_int (A := A) (s := s) i t i t'
      rw [beq_self_eq_true] at z; exact z
  | str x =>
    obtain ⟨t, rfl⟩ := (show ∃ t, u = Value.str x t from r)
    obtain ⟨t', rfl⟩ := (show ∃ t, y = Value.str x t from q)
    exact .leaf fun A _ => by
      have z := SeqAt.EqAt.str_str (A := A) (s := s) x t x t'
      rw [beq_self_eq_true] at z; exact z
  | ref a => cases (show u = Value.ref a from r); cases (show y = Value.ref a from q); exact .same
  | byt _ => exact f.elim
  | flt _ => exact f.elim
  | ty _ => exact f.elim
/-- xs == ys, two lists of the same things -/
def rSame : R2 := fun x y H Q => ∃ a b xs, x = .ref a ∧ y = .ref b ∧ H a = some (.lst xs) ∧ H b = some (.lst xs) ∧ (∀ v ∈ xs, FlatV v) ∧ Q (.bl true) H
theorem op_eqSame {X : Cx} (hu : X.A.units + 64 < cLine) : OpR X (compareOp .Eq) rSame := by
  intro pins s σ H x y v u Q I rx ry ⟨a, b, xs, ex, ey, ha, hb, fl, q⟩
  subst ex ey
  cases (show v = Value.ref a from rx)
  cases (show u = Value.ref b from ry)
  obtain ⟨_, vs, n, r1, h1⟩ := (show ObjOk X.prog X.w H s.heap a (.lst xs) from I.hok a _ ha)
  obtain ⟨_, us, m, r2, h2⟩ := (show ObjOk X.prog X.w H s.heap b (.lst xs) from I.hok b _ hb)
  have l1 : s.heap.IsList a vs.toArray := ⟨_, h1, rfl, n, rfl⟩
  have l2 : s.heap.IsList b us.toArray := ⟨_, h2, rfl, m, rfl⟩
  have hsz : vs.toArray.size = us.toArray.size := by rw [List.size_toArray, List.size_toArray, ← r1.length, ← r2.length]
  refine PySem.W.eq_listsT (n := 0) (e := fun _ => true) l1 l2 hsz (fun j h1 h2 => ?_) (by omega) ?_
  · have h1' : j < vs.length := by simpa using h1
    have h2' : j < us.length := by simpa using h2
    have hx : j < xs.length := by rw [r1.length]; exact h1'
    have e : xs[j]? = some xs[j] := List.getElem?_eq_getElem hx
    obtain ⟨u1, e1, q1⟩ := r1.get e
    obtain ⟨u2, e2, q2⟩ := r2.get e
    have w1 : vs[j] = u1 := by rw [List.getElem?_eq_getElem h1'] at e1; exact Option.some.inj e1
    have w2 : us[j] = u2 := by rw [List.getElem?_eq_getElem h2'] at e2; exact Option.some.inj e2
    have g1 : vs.toArray[j] = vs[j] := by simp
    have g2 : us.toArray[j] = us[j] := by simp
    rw [g1, g2, w1, w2]
    exact eq_self (fl _ (List.getElem_mem hx)) q1 q2
  · have e : ((List.range vs.toArray.size).all fun _ => true) = true := by simp
    rw [e]
    exact ⟨.bl true, H, I, rfl, q⟩
end DL
set_option Elab.async false
set_option linter.all false
set_option maxRecDepth 100000
set_option maxHeartbeats 4000000
namespace LW
open PySem PySem.Spec PyProof.Rows L2 DL
abbrev gLt := gOrd (fun i j => decide (i < j)) ltS
abbrev gLe := gOrd (fun i j => decide (i ≤ j)) (fun x y => !ltS y x)
abbrev gGt := gOrd (fun i j => decide (j < i)) (fun x y => ltS y x)
abbrev gGe := gOrd (fun i j => decide (j ≤ i)) (fun x y => !ltS x y)
def top (i : Nat) : Stmt := PySem.Challenge.pw_besidealone_k00_errors_of_any_values.main.body.getD i (.Pass ⟨0, 0, 0, 0⟩)
abbrev s__law_bag : Stmt := top 10
abbrev N__law_bag : List Str := ["script", "cell"]
theorem sc__law_bag : FnScope N__law_bag ["script"] (defScope s__law_bag) := ⟨rfl, rfl, rfl, by decide +kernel, rfl, by decide +kernel, by decide +kernel⟩
abbrev s__law_take : Stmt := top 11
abbrev N__law_take : List Str := ["bag", "many", "begin", "second", "cell", "stirred", "drawn"]
theorem sc__law_take : FnScope N__law_take ["bag", "many"] (defScope s__law_take) := ⟨rfl, rfl, rfl, by decide +kernel, rfl, by decide +kernel, by decide +kernel⟩
def g__law_take : DS :=
  dSeq (dIfS (dTest (dOp gEq (dBag 0 0) (dC (.int 0)))) (dSeq (dSet 4 (dOp gIx (dOp gAdd (dSl gSl (dBag3 0) (dPt (dBag 0 2)) (dNoPt)) (dFrz (dLst (dCons (dC (.int 0)) (dNil))))) (dC (.int 0))))
    (dSeq (dAugBag 0 2 (dC (.int 1)))
    (dSeq (dIfS (dTest (dOp gGe (dPeek 4) (dOp gPow (dC (.int 10)) (dC (.int 18))))) (dSetBag 0 0 (dVar 4)) (dNext))
    (dSeq (dSet 5 (dOp gAdd (dOp gAdd (dOp gMulA (dBag 0 1) (dC (.int 48271))) (dOp gMod (dCall gIntC (dCons (dPeek 4) (dNil))) (dC (.int 2147483647)))) (dOp gMulA (dC (.int 7919)) (dBag 0 2))))
    (dSetBag 0 1 (dOp gMod (dCall gIntC (dCons (dPeek 5) (dNil))) (dC (.int 2147483647)))))))) (dNext))
    (dSeq (dIfS (dTest (dOp gGt (dBag 0 0) (dC (.int 0)))) (dSeq (dSet 6 (dOp gMod (dCall gIntC (dCons (dBag 0 0) (dNil))) (dPeek 1)))
    (dSeq (dSetBag 0 0 (dOp gFdiv (dCall gIntC (dCons (dBag 0 0) (dNil))) (dPeek 1)))
    (dRet (dVar 6)))) (dNext))
    (dSeq (dSet 2 (dOp gMod (dCall gIntC (dCons (dOp gMulA (dOp gAdd (dBag 0 1) (dC (.int 1))) (dC (.int 39373))) (dNil))) (dC (.int 1000000007))))
    (dSeq (dSet 3 (dOp gMod (dCall gIntC (dCons (dOp gMulA (dOp gMod (dCall gIntC (dCons (dOp gMulA (dPeek 2) (dPeek 2)) (dNil))) (dC (.int 998244353))) (dC (.int 30011))) (dNil))) (dC (.int 998244353))))
    (dRet (dOp gMod (dCall gIntC (dCons (dOp gFdiv (dPeek 3) (dC (.int 7))) (dNil))) (dPeek 1))))))
def fn__law_take : DFn := fun ss Q _ => ss.length = 2 ∧ g__law_take (ends0 Q fun _ => False) (startD 7 ss)
abbrev s__law_some : Stmt := top 12
abbrev N__law_some : List Str := ["bag", "things"]
theorem sc__law_some : FnScope N__law_some ["bag", "things"] (defScope s__law_some) := ⟨rfl, rfl, rfl, by decide +kernel, rfl, by decide +kernel, by decide +kernel⟩
abbrev s__law_alike : Stmt := top 13
abbrev N__law_alike : List Str := ["found", "due"]
theorem sc__law_alike : FnScope N__law_alike ["found", "due"] (defScope s__law_alike) := ⟨rfl, rfl, rfl, by decide +kernel, rfl, by decide +kernel, by decide +kernel⟩
def g__law_alike : DS :=
  dRet (dAndV (dOp gEq (dPeek 0) (dPeek 1)) (dOp gEq (dCall gRepr (dCons (dPeek 0) (dNil))) (dCall gRepr (dCons (dPeek 1) (dNil)))))
def fn__law_alike : DFn := fun ss Q _ => ss.length = 2 ∧ g__law_alike (ends0 Q fun _ => False) (startD 2 ss)
abbrev s__law_odd : Stmt := top 14
abbrev N__law_odd : List Str := ["bag", "some"]
theorem sc__law_odd : FnScope N__law_odd ["bag"] (defScope s__law_odd) := ⟨rfl, rfl, rfl, by decide +kernel, rfl, by decide +kernel, by decide +kernel⟩
abbrev s_NoCommand___init__ : Stmt := inClass (top 2) 0
abbrev N_NoCommand___init__ : List Str := ["self", "line"]
theorem sc_NoCommand___init__ : FnScope N_NoCommand___init__ ["self", "line"] (defScope s_NoCommand___init__) := ⟨rfl, rfl, rfl, by decide +kernel, rfl, by decide +kernel, by decide +kernel⟩
abbrev s_NoName___init__ : Stmt := inClass (top 3) 0
abbrev N_NoName___init__ : List Str := ["self", "name"]
theorem sc_NoName___init__ : FnScope N_NoName___init__ ["self", "name"] (defScope s_NoName___init__) := ⟨rfl, rfl, rfl, by decide +kernel, rfl, by decide +kernel, by decide +kernel⟩
abbrev s_NoText___init__ : Stmt := inClass (top 4) 0
abbrev N_NoText___init__ : List Str := ["self", "line"]
theorem sc_NoText___init__ : FnScope N_NoText___init__ ["self", "line"] (defScope s_NoText___init__) := ⟨rfl, rfl, rfl, by decide +kernel, rfl, by decide +kernel, by decide +kernel⟩
abbrev s_NotRight___init__ : Stmt := inClass (top 5) 0
abbrev N_NotRight___init__ : List Str := ["self", "faults"]
theorem sc_NotRight___init__ : FnScope N_NotRight___init__ ["self", "faults"] (defScope s_NotRight___init__) := ⟨rfl, rfl, rfl, by decide +kernel, rfl, by decide +kernel, by decide +kernel⟩
abbrev s_TooMany___init__ : Stmt := inClass (top 7) 0
abbrev N_TooMany___init__ : List Str := ["self", "most"]
theorem sc_TooMany___init__ : FnScope N_TooMany___init__ ["self", "most"] (defScope s_TooMany___init__) := ⟨rfl, rfl, rfl, by decide +kernel, rfl, by decide +kernel, by decide +kernel⟩
abbrev s_Wrong___init__ : Stmt := inClass (top 8) 0
abbrev N_Wrong___init__ : List Str := ["self", "place"]
theorem sc_Wrong___init__ : FnScope N_Wrong___init__ ["self", "place"] (defScope s_Wrong___init__) := ⟨rfl, rfl, rfl, by decide +kernel, rfl, by decide +kernel, by decide +kernel⟩
abbrev s__law_made : Stmt := top 15
abbrev N__law_made : List Str := ["one", "fields", "line", "name", "text", "faults", "most", "place"]
theorem sc__law_made : FnScope N__law_made ["one"] (defScope s__law_made) := ⟨rfl, rfl, rfl, by decide +kernel, rfl, by decide +kernel, by decide +kernel⟩
abbrev s__law_kinds_of : Stmt := top 16
abbrev N__law_kinds_of : List Str := ["error", "classes"]
theorem sc__law_kinds_of : FnScope N__law_kinds_of ["error"] (defScope s__law_kinds_of) := ⟨rfl, rfl, rfl, by decide +kernel, rfl, by decide +kernel, by decide +kernel⟩
abbrev s_law : Stmt := top 17
abbrev N_law : List Str := ["script", "bag", "turn", "one", "base", "errors", "fields", "at", "error", "kind"]
theorem sc_law : FnScope N_law ["script"] (defScope s_law) := ⟨rfl, rfl, rfl, by decide +kernel, rfl, by decide +kernel, by decide +kernel⟩
/-- what the module says of an own error class -/
structure ErrC (K : PySem.W.Frag) (mg : Str → Option Value) (x : Str) (C : Addr) : Prop where
  m : mg x = some (.ref C)
  k : PySem.W.keepIn K (.ref C) = true
  x : XfC K C
  e : ExcC K C
structure Tops (K : PySem.W.Frag) (mg : Str → Option Value) where
  a__law_bag : Addr
  d__law_bag : FuncData
  f__law_bag : Fun K "_law_bag" "_law_bag" s__law_bag a__law_bag d__law_bag
  b__law_bag : Binds K d__law_bag ["script"] []
  m__law_bag : mg "_law_bag" = some (.ref a__law_bag)
  a__law_take : Addr
  d__law_take : FuncData
  f__law_take : Fun K "_law_take" "_law_take" s__law_take a__law_take d__law_take
  b__law_take : Binds K d__law_take ["bag", "many"] []
  m__law_take : mg "_law_take" = some (.ref a__law_take)
  a__law_some : Addr
  d__law_some : FuncData
  f__law_some : Fun K "_law_some" "_law_some" s__law_some a__law_some d__law_some
  b__law_some : Binds K d__law_some ["bag", "things"] []
  m__law_some : mg "_law_some" = some (.ref a__law_some)
  a__law_alike : Addr
  d__law_alike : FuncData
  f__law_alike : Fun K "_law_alike" "_law_alike" s__law_alike a__law_alike d__law_alike
  b__law_alike : Binds K d__law_alike ["found", "due"] []
  m__law_alike : mg "_law_alike" = some (.ref a__law_alike)
  a__law_odd : Addr
  d__law_odd : FuncData
  f__law_odd : Fun K "_law_odd" "_law_odd" s__law_odd a__law_odd d__law_odd
  b__law_odd : Binds K d__law_odd ["bag"] []
  m__law_odd : mg "_law_odd" = some (.ref a__law_odd)
  a_NoCommand___init__ : Addr
  d_NoCommand___init__ : FuncData
  f_NoCommand___init__ : Fun K "__init__" "NoCommand.__init__" s_NoCommand___init__ a_NoCommand___init__ d_NoCommand___init__
  b_NoCommand___init__ : Binds K d_NoCommand___init__ ["self", "line"] []
  a_NoName___init__ : Addr
  d_NoName___init__ : FuncData
  f_NoName___init__ : Fun K "__init__" "NoName.__init__" s_NoName___init__ a_NoName___init__ d_NoName___init__
  b_NoName___init__ : Binds K d_NoName___init__ ["self", "name"] []
  a_NoText___init__ : Addr
  d_NoText___init__ : FuncData
  f_NoText___init__ : Fun K "__init__" "NoText.__init__" s_NoText___init__ a_NoText___init__ d_NoText___init__
  b_NoText___init__ : Binds K d_NoText___init__ ["self", "line"] []
  a_NotRight___init__ : Addr
  d_NotRight___init__ : FuncData
  f_NotRight___init__ : Fun K "__init__" "NotRight.__init__" s_NotRight___init__ a_NotRight___init__ d_NotRight___init__
  b_NotRight___init__ : Binds K d_NotRight___init__ ["self", "faults"] []
  a_TooMany___init__ : Addr
  d_TooMany___init__ : FuncData
  f_TooMany___init__ : Fun K "__init__" "TooMany.__init__" s_TooMany___init__ a_TooMany___init__ d_TooMany___init__
  b_TooMany___init__ : Binds K d_TooMany___init__ ["self", "most"] []
  a_Wrong___init__ : Addr
  d_Wrong___init__ : FuncData
  f_Wrong___init__ : Fun K "__init__" "Wrong.__init__" s_Wrong___init__ a_Wrong___init__ d_Wrong___init__
  b_Wrong___init__ : Binds K d_Wrong___init__ ["self", "place"] []
  a__law_made : Addr
  d__law_made : FuncData
  f__law_made : Fun K "_law_made" "_law_made" s__law_made a__law_made d__law_made
  b__law_made : Binds K d__law_made ["one"] []
  m__law_made : mg "_law_made" = some (.ref a__law_made)
  a__law_kinds_of : Addr
  d__law_kinds_of : FuncData
  f__law_kinds_of : Fun K "_law_kinds_of" "_law_kinds_of" s__law_kinds_of a__law_kinds_of d__law_kinds_of
  b__law_kinds_of : Binds K d__law_kinds_of ["error"] []
  m__law_kinds_of : mg "_law_kinds_of" = some (.ref a__law_kinds_of)
  a_law : Addr
  d_law : FuncData
  f_law : Fun K "law" "law" s_law a_law d_law
  b_law : Binds K d_law ["script"] []
  m_law : mg "law" = some (.ref a_law)
  C_NoCommand : Addr
  c_NoCommand : ErrC K mg "NoCommand" C_NoCommand
  C_NoName : Addr
  c_NoName : ErrC K mg "NoName" C_NoName
  C_NoText : Addr
  c_NoText : ErrC K mg "NoText" C_NoText
  C_NotRight : Addr
  c_NotRight : ErrC K mg "NotRight" C_NotRight
  C_TooMany : Addr
  c_TooMany : ErrC K mg "TooMany" C_TooMany
  C_Wrong : Addr
  c_Wrong : ErrC K mg "Wrong" C_Wrong
  C_Nothing : Addr
  c_Nothing : ErrC K mg "Nothing" C_Nothing
  C_MixedError : Addr
  c_MixedError : ErrC K mg "MixedError" C_MixedError
  o_NoCommand : OexC K C_NoCommand
  w_NoCommand : PySem.W.findIn K (.ref C_NoCommand) "line" = some none
  i_NoCommand : PySem.W.findIn K (.ref C_NoCommand) "__init__" = some (some (.ref a_NoCommand___init__))
  t_NoCommand : PySem.W.typeIn K (.ref a_NoCommand___init__) = some (.type "function")
  o_NoName : OexC K C_NoName
  w_NoName : PySem.W.findIn K (.ref C_NoName) "name" = some none
  i_NoName : PySem.W.findIn K (.ref C_NoName) "__init__" = some (some (.ref a_NoName___init__))
  t_NoName : PySem.W.typeIn K (.ref a_NoName___init__) = some (.type "function")
  o_NoText : OexC K C_NoText
  w_NoText : PySem.W.findIn K (.ref C_NoText) "line" = some none
  i_NoText : PySem.W.findIn K (.ref C_NoText) "__init__" = some (some (.ref a_NoText___init__))
  t_NoText : PySem.W.typeIn K (.ref a_NoText___init__) = some (.type "function")
  o_NotRight : OexC K C_NotRight
  w_NotRight : PySem.W.findIn K (.ref C_NotRight) "faults" = some none
  i_NotRight : PySem.W.findIn K (.ref C_NotRight) "__init__" = some (some (.ref a_NotRight___init__))
  t_NotRight : PySem.W.typeIn K (.ref a_NotRight___init__) = some (.type "function")
  o_TooMany : OexC K C_TooMany
  w_TooMany : PySem.W.findIn K (.ref C_TooMany) "most" = some none
  i_TooMany : PySem.W.findIn K (.ref C_TooMany) "__init__" = some (some (.ref a_TooMany___init__))
  t_TooMany : PySem.W.typeIn K (.ref a_TooMany___init__) = some (.type "function")
  o_Wrong : OexC K C_Wrong
  w_Wrong : PySem.W.findIn K (.ref C_Wrong) "place" = some none
  i_Wrong : PySem.W.findIn K (.ref C_Wrong) "__init__" = some (some (.ref a_Wrong___init__))
  t_Wrong : PySem.W.typeIn K (.ref a_Wrong___init__) = some (.type "function")
  n_Nothing : PySem.W.excIn K C_Nothing [.type "ValueError", .type "Exception", .type "BaseException", .type "object"] "ValueError.__new__" = true
  n_MixedError : PySem.W.excIn K C_MixedError [.type "ValueError", .type "Exception", .type "BaseException", .type "object"] "ValueError.__new__" = true
  bc_MixedError : BaseC K C_MixedError
  y_NoCommand_NoCommand : PySem.W.kitOne K (.ref C_NoCommand) (.ref C_NoCommand) = some true
  y_NoCommand_NoName : PySem.W.kitOne K (.ref C_NoCommand) (.ref C_NoName) = some false
  y_NoCommand_NoText : PySem.W.kitOne K (.ref C_NoCommand) (.ref C_NoText) = some false
  y_NoCommand_NotRight : PySem.W.kitOne K (.ref C_NoCommand) (.ref C_NotRight) = some false
  y_NoCommand_TooMany : PySem.W.kitOne K (.ref C_NoCommand) (.ref C_TooMany) = some false
  y_NoCommand_Wrong : PySem.W.kitOne K (.ref C_NoCommand) (.ref C_Wrong) = some false
  y_NoCommand_Nothing : PySem.W.kitOne K (.ref C_NoCommand) (.ref C_Nothing) = some false
  y_NoCommand_MixedError : PySem.W.kitOne K (.ref C_NoCommand) (.ref C_MixedError) = some true
  y_NoName_NoCommand : PySem.W.kitOne K (.ref C_NoName) (.ref C_NoCommand) = some false
  y_NoName_NoName : PySem.W.kitOne K (.ref C_NoName) (.ref C_NoName) = some true
  y_NoName_NoText : PySem.W.kitOne K (.ref C_NoName) (.ref C_NoText) = some false
  y_NoName_NotRight : PySem.W.kitOne K (.ref C_NoName) (.ref C_NotRight) = some false
  y_NoName_TooMany : PySem.W.kitOne K (.ref C_NoName) (.ref C_TooMany) = some false
  y_NoName_Wrong : PySem.W.kitOne K (.ref C_NoName) (.ref C_Wrong) = some false
  y_NoName_Nothing : PySem.W.kitOne K (.ref C_NoName) (.ref C_Nothing) = some false
  y_NoName_MixedError : PySem.W.kitOne K (.ref C_NoName) (.ref C_MixedError) = some true
  y_NoText_NoCommand : PySem.W.kitOne K (.ref C_NoText) (.ref C_NoCommand) = some false
  y_NoText_NoName : PySem.W.kitOne K (.ref C_NoText) (.ref C_NoName) = some false
  y_NoText_NoText : PySem.W.kitOne K (.ref C_NoText) (.ref C_NoText) = some true
  y_NoText_NotRight : PySem.W.kitOne K (.ref C_NoText) (.ref C_NotRight) = some false
  y_NoText_TooMany : PySem.W.kitOne K (.ref C_NoText) (.ref C_TooMany) = some false
  y_NoText_Wrong : PySem.W.kitOne K (.ref C_NoText) (.ref C_Wrong) = some false
  y_NoText_Nothing : PySem.W.kitOne K (.ref C_NoText) (.ref C_Nothing) = some false
  y_NoText_MixedError : PySem.W.kitOne K (.ref C_NoText) (.ref C_MixedError) = some true
  y_NotRight_NoCommand : PySem.W.kitOne K (.ref C_NotRight) (.ref C_NoCommand) = some false
  y_NotRight_NoName : PySem.W.kitOne K (.ref C_NotRight) (.ref C_NoName) = some false
  y_NotRight_NoText : PySem.W.kitOne K (.ref C_NotRight) (.ref C_NoText) = some false
  y_NotRight_NotRight : PySem.W.kitOne K (.ref C_NotRight) (.ref C_NotRight) = some true
  y_NotRight_TooMany : PySem.W.kitOne K (.ref C_NotRight) (.ref C_TooMany) = some false
  y_NotRight_Wrong : PySem.W.kitOne K (.ref C_NotRight) (.ref C_Wrong) = some false
  y_NotRight_Nothing : PySem.W.kitOne K (.ref C_NotRight) (.ref C_Nothing) = some false
  y_NotRight_MixedError : PySem.W.kitOne K (.ref C_NotRight) (.ref C_MixedError) = some true
  y_TooMany_NoCommand : PySem.W.kitOne K (.ref C_TooMany) (.ref C_NoCommand) = some false
  y_TooMany_NoName : PySem.W.kitOne K (.ref C_TooMany) (.ref C_NoName) = some false
  y_TooMany_NoText : PySem.W.kitOne K (.ref C_TooMany) (.ref C_NoText) = some false
  y_TooMany_NotRight : PySem.W.kitOne K (.ref C_TooMany) (.ref C_NotRight) = some false
  y_TooMany_TooMany : PySem.W.kitOne K (.ref C_TooMany) (.ref C_TooMany) = some true
  y_TooMany_Wrong : PySem.W.kitOne K (.ref C_TooMany) (.ref C_Wrong) = some false
  y_TooMany_Nothing : PySem.W.kitOne K (.ref C_TooMany) (.ref C_Nothing) = some false
  y_TooMany_MixedError : PySem.W.kitOne K (.ref C_TooMany) (.ref C_MixedError) = some true
  y_Wrong_NoCommand : PySem.W.kitOne K (.ref C_Wrong) (.ref C_NoCommand) = some false
  y_Wrong_NoName : PySem.W.kitOne K (.ref C_Wrong) (.ref C_NoName) = some false
  y_Wrong_NoText : PySem.W.kitOne K (.ref C_Wrong) (.ref C_NoText) = some false
  y_Wrong_NotRight : PySem.W.kitOne K (.ref C_Wrong) (.ref C_NotRight) = some false
  y_Wrong_TooMany : PySem.W.kitOne K (.ref C_Wrong) (.ref C_TooMany) = some false
  y_Wrong_Wrong : PySem.W.kitOne K (.ref C_Wrong) (.ref C_Wrong) = some true
  y_Wrong_Nothing : PySem.W.kitOne K (.ref C_Wrong) (.ref C_Nothing) = some false
  y_Wrong_MixedError : PySem.W.kitOne K (.ref C_Wrong) (.ref C_MixedError) = some true
  y_Nothing_NoCommand : PySem.W.kitOne K (.ref C_Nothing) (.ref C_NoCommand) = some false
  y_Nothing_NoName : PySem.W.kitOne K (.ref C_Nothing) (.ref C_NoName) = some false
  y_Nothing_NoText : PySem.W.kitOne K (.ref C_Nothing) (.ref C_NoText) = some false
  y_Nothing_NotRight : PySem.W.kitOne K (.ref C_Nothing) (.ref C_NotRight) = some false
  y_Nothing_TooMany : PySem.W.kitOne K (.ref C_Nothing) (.ref C_TooMany) = some false
  y_Nothing_Wrong : PySem.W.kitOne K (.ref C_Nothing) (.ref C_Wrong) = some false
  y_Nothing_Nothing : PySem.W.kitOne K (.ref C_Nothing) (.ref C_Nothing) = some true
  y_Nothing_MixedError : PySem.W.kitOne K (.ref C_Nothing) (.ref C_MixedError) = some true
  y_MixedError_NoCommand : PySem.W.kitOne K (.ref C_MixedError) (.ref C_NoCommand) = some false
  y_MixedError_NoName : PySem.W.kitOne K (.ref C_MixedError) (.ref C_NoName) = some false
  y_MixedError_NoText : PySem.W.kitOne K (.ref C_MixedError) (.ref C_NoText) = some false
  y_MixedError_NotRight : PySem.W.kitOne K (.ref C_MixedError) (.ref C_NotRight) = some false
  y_MixedError_TooMany : PySem.W.kitOne K (.ref C_MixedError) (.ref C_TooMany) = some false
  y_MixedError_Wrong : PySem.W.kitOne K (.ref C_MixedError) (.ref C_Wrong) = some false
  y_MixedError_Nothing : PySem.W.kitOne K (.ref C_MixedError) (.ref C_Nothing) = some false
  y_MixedError_MixedError : PySem.W.kitOne K (.ref C_MixedError) (.ref C_MixedError) = some true
  y_NoCommand_ValueError : PySem.W.kitOne K (.ref C_NoCommand) (.type "ValueError") = some true
  y_NoName_ValueError : PySem.W.kitOne K (.ref C_NoName) (.type "ValueError") = some true
  y_NoText_ValueError : PySem.W.kitOne K (.ref C_NoText) (.type "ValueError") = some true
  y_NotRight_ValueError : PySem.W.kitOne K (.ref C_NotRight) (.type "ValueError") = some true
  y_TooMany_ValueError : PySem.W.kitOne K (.ref C_TooMany) (.type "ValueError") = some true
  y_Wrong_ValueError : PySem.W.kitOne K (.ref C_Wrong) (.type "ValueError") = some true
  y_Nothing_ValueError : PySem.W.kitOne K (.ref C_Nothing) (.type "ValueError") = some true
  y_MixedError_ValueError : PySem.W.kitOne K (.ref C_MixedError) (.type "ValueError") = some true
  z_abs : mg "abs" = none
  z_int : mg "int" = none
  z_repr : mg "repr" = none
  z_len : mg "len" = none
  z_isinstance : mg "isinstance" = none
  z_range : mg "range" = none
  z_enumerate : mg "enumerate" = none
  z_list : mg "list" = none
  z_ValueError : mg "ValueError" = none
section
variable {P : Program} {w : World} {K : PySem.W.Frag} {mg : Str → Option Value} {base : Heap}
theorem ok__law_bag (T : Tops K mg) : FnG P w K mg base CX0 1 T.a__law_bag T.d__law_bag ["script"] (spBag ⟨K, w⟩) :=
  bag_d (k := 0) (N := N__law_bag) (by decide) T.f__law_bag sc__law_bag (bag5_read (K := ⟨K, w⟩)) fun cdv A outer s H E =>
    pss_one (ps_ret (pe_lst (pa_cons pe_int (pa_cons pe_int (pa_cons pe_int (pa_cons (pe_lc (own := [("cell", 1)]) (g := gName 1) (tt := tYes) rfl sc__law_bag.nd (pi_list (pe_slice sl_list (pv 0) po_none (po_some pe_int)))
      (blkOk_by (own := [("cell", 1)]) (N := N__law_bag) (sc := defScope s__law_bag) (by decide +kernel)) (fun _ _ _ _ _ => pg_name (i := 1) sc__law_bag.nd rfl (Or.inl rfl)) (fun _ _ _ _ _ => pts_nil) (fun _ _ _ _ _ => pe_callB call_abs rfl T.z_abs (by first | rfl | decide +kernel) (pa_cons (pv 1) pa_nil))) (pa_cons (pe_lst pa_nil) pa_nil)))))))
theorem ok__law_take (T : Tops K mg) : FnG P w K mg base CX0 1 T.a__law_take T.d__law_take ["bag", "many"] (spD ⟨K, w⟩ fn__law_take) :=
  def_g (fn := fn__law_take) (k := 0) T.f__law_take sc__law_take (fun ss Q E h => h.1) fun cdv A outer s H E hr => ⟨g__law_take,
    ds_cons (difs (pt_cmpD (op_eqE hr.r.units) d_eq (dO (pd_bag 0)) (dO (pd_int))) (ds_cons (dset 4 sc__law_take.nd (pd_ix ix_seq d_ix (dO (pd_op op_addD d_add (dO (pd_slice sl_any d_sl (dO (pd_bag3 0)) (po_someD (pd_bag 0)) (po_noneD))) (dO (dF (pf_lst (ps_cons' (pd_int) (ps_nil'))))))) (dO (pd_int))))
      (ds_cons (daugbag' 0 2 (by decide) (pe_var (i := 0) rfl (by first | exact Or.inl rfl | exact Or.inr (Or.inl rfl)) (by decide) (by decide)) (pd_int))
      (ds_cons (difs (pt_cmpD op_geD d_ord (dp 4) (dO (pd_op op_pow d_int (dO (pd_int)) (dO (pd_int))))) (ds_one (dsetbag' 0 0 (by decide) (pe_var (i := 0) rfl (by first | exact Or.inl rfl | exact Or.inr (Or.inl rfl)) (by decide) (by decide)) (dv 4))) (ds_nil))
      (ds_cons (dset 5 sc__law_take.nd (pd_op op_addD d_add (dO (pd_op op_addD d_add (dO (pd_op op_mulA d_mulA (dO (pd_bag 0)) (dO (pd_int)))) (dO (pd_op op_mod d_int (dO (pd_callTy call_int1 d_intC T.z_int (pb_cons (dp 4) (pb_nil)))) (dO (pd_int)))))) (dO (pd_op op_mulA d_mulA (dO (pd_int)) (dO (pd_bag 0))))))
      (ds_one (dsetbag' 0 1 (by decide) (pe_var (i := 0) rfl (by first | exact Or.inl rfl | exact Or.inr (Or.inl rfl)) (by decide) (by decide)) (pd_op op_mod d_int (dO (pd_callTy call_int1 d_intC T.z_int (pb_cons (dp 5) (pb_nil)))) (dO (pd_int))))))))) (ds_nil))
      (ds_cons (difs (pt_cmpD op_gtD d_ord (dO (pd_bag 0)) (dO (pd_int))) (ds_cons (dset 6 sc__law_take.nd (pd_op op_mod d_int (dO (pd_callTy call_int1 d_intC T.z_int (pb_cons (dO (pd_bag 0)) (pb_nil)))) (dp 1)))
      (ds_cons (dsetbag' 0 0 (by decide) (pe_var (i := 0) rfl (by first | exact Or.inl rfl | exact Or.inr (Or.inl rfl)) (by decide) (by decide)) (pd_op op_fdiv d_int (dO (pd_callTy call_int1 d_intC T.z_int (pb_cons (dO (pd_bag 0)) (pb_nil)))) (dp 1)))
      (ds_one (dret (dv 6))))) (ds_nil))
      (ds_cons (dset 2 sc__law_take.nd (pd_op op_mod d_int (dO (pd_callTy call_int1 d_intC T.z_int (pb_cons (dO (pd_op op_mulA d_mulA (dO (pd_op op_addD d_add (dO (pd_bag 0)) (dO (pd_int)))) (dO (pd_int)))) (pb_nil)))) (dO (pd_int))))
      (ds_cons (dset 3 sc__law_take.nd (pd_op op_mod d_int (dO (pd_callTy call_int1 d_intC T.z_int (pb_cons (dO (pd_op op_mulA d_mulA (dO (pd_op op_mod d_int (dO (pd_callTy call_int1 d_intC T.z_int (pb_cons (dO (pd_op op_mulA d_mulA (dp 2) (dp 2))) (pb_nil)))) (dO (pd_int)))) (dO (pd_int)))) (pb_nil)))) (dO (pd_int))))
      (ds_one (dret (pd_op op_mod d_int (dO (pd_callTy call_int1 d_intC T.z_int (pb_cons (dO (pd_op op_fdiv d_int (dp 3) (dO (pd_int)))) (pb_nil)))) (dp 1))))))), fun ss Q h => h.2⟩
theorem ok__law_alike (T : Tops K mg) : FnG P w K mg base CX0 1 T.a__law_alike T.d__law_alike ["found", "due"] (spD ⟨K, w⟩ fn__law_alike) :=
  def_g (fn := fn__law_alike) (k := 0) T.f__law_alike sc__law_alike (fun ss Q E h => h.1) fun cdv A outer s H E hr => ⟨g__law_alike,
    ds_one (dret (pd_and (pd_cmp (op_eqE hr.r.units) d_eq (dp 0) (dp 1)) (pd_one (pd_cmp (op_eqE hr.r.units) d_eq (dO (pd_callB (call_repr hr) d_repr T.z_repr (pb_cons (dp 0) (pb_nil)))) (dO (pd_callB (call_repr hr) d_repr T.z_repr (pb_cons (dp 1) (pb_nil)))))))), fun ss Q h => h.2⟩
theorem ok_NoCommand___init__ (T : Tops K mg) : FnOk P w K mg base (L2.CX P w) 1 T.a_NoCommand___init__ T.d_NoCommand___init__ ["self", "line"] (spTr T.C_NoCommand "line") :=
  ok_exInit T.o_NoCommand T.w_NoCommand T.f_NoCommand___init__ sc_NoCommand___init__ (by decide) fun cdv A outer s H E => pss_cons (ps_expr (pe_ovinit rfl T.c_MixedError.m T.bc_MixedError (pa_cons (pv 0) (pa_cons (pv 1) pa_nil)))) (pss_one (ps_ost (pv 0) (pv 1)))
theorem ok_NoName___init__ (T : Tops K mg) : FnOk P w K mg base (L2.CX P w) 1 T.a_NoName___init__ T.d_NoName___init__ ["self", "name"] (spTr T.C_NoName "name") :=
  ok_exInit T.o_NoName T.w_NoName T.f_NoName___init__ sc_NoName___init__ (by decide) fun cdv A outer s H E => pss_cons (ps_expr (pe_ovinit rfl T.c_MixedError.m T.bc_MixedError (pa_cons (pv 0) (pa_cons (pv 1) pa_nil)))) (pss_one (ps_ost (pv 0) (pv 1)))
theorem ok_NoText___init__ (T : Tops K mg) : FnOk P w K mg base (L2.CX P w) 1 T.a_NoText___init__ T.d_NoText___init__ ["self", "line"] (spTr T.C_NoText "line") :=
  ok_exInit T.o_NoText T.w_NoText T.f_NoText___init__ sc_NoText___init__ (by decide) fun cdv A outer s H E => pss_cons (ps_expr (pe_ovinit rfl T.c_MixedError.m T.bc_MixedError (pa_cons (pv 0) (pa_cons (pv 1) pa_nil)))) (pss_one (ps_ost (pv 0) (pv 1)))
theorem ok_NotRight___init__ (T : Tops K mg) : FnOk P w K mg base (L2.CX P w) 1 T.a_NotRight___init__ T.d_NotRight___init__ ["self", "faults"] (spTr T.C_NotRight "faults") :=
  ok_exInit T.o_NotRight T.w_NotRight T.f_NotRight___init__ sc_NotRight___init__ (by decide) fun cdv A outer s H E => pss_cons (ps_expr (pe_ovinit rfl T.c_MixedError.m T.bc_MixedError (pa_cons (pv 0) (pa_cons (pv 1) pa_nil)))) (pss_one (ps_ost (pv 0) (pv 1)))
theorem ok_TooMany___init__ (T : Tops K mg) : FnOk P w K mg base (L2.CX P w) 1 T.a_TooMany___init__ T.d_TooMany___init__ ["self", "most"] (spTr T.C_TooMany "most") :=
  ok_exInit T.o_TooMany T.w_TooMany T.f_TooMany___init__ sc_TooMany___init__ (by decide) fun cdv A outer s H E => pss_cons (ps_expr (pe_ovinit rfl T.c_MixedError.m T.bc_MixedError (pa_cons (pv 0) (pa_cons (pv 1) pa_nil)))) (pss_one (ps_ost (pv 0) (pv 1)))
theorem ok_Wrong___init__ (T : Tops K mg) : FnOk P w K mg base (L2.CX P w) 1 T.a_Wrong___init__ T.d_Wrong___init__ ["self", "place"] (spTr T.C_Wrong "place") :=
  ok_exInit T.o_Wrong T.w_Wrong T.f_Wrong___init__ sc_Wrong___init__ (by decide) fun cdv A outer s H E => pss_cons (ps_expr (pe_ovinit rfl T.c_MixedError.m T.bc_MixedError (pa_cons (pv 0) (pa_cons (pv 1) pa_nil)))) (pss_one (ps_ost (pv 0) (pv 1)))
end
end LW
set_option Elab.async false
set_option linter.all false
set_option maxRecDepth 100000
set_option maxHeartbeats 400000
namespace LW
open PySem PySem.Spec PyProof.Rows L2 DL
theorem eqOk_int (i j : Int) : EqOk (.int i) (.int j) := .inl ⟨rfl, rfl, Nat.zero_le _⟩
theorem cell_at {ns : List Int} (h : ∀ n ∈ ns, 0 ≤ n) (z : Int) : ∃ c : Int, 0 ≤ c ∧ atI (DL.cutD (ns.map PyData.int) (some z) none ++ [PyData.int 0]) 0 = some (PyData.int c) := by
  have all : ∀ d ∈ DL.cutD (ns.map PyData.int) (some z) none ++ [PyData.int 0], ∃ c : Int, 0 ≤ c ∧ d = .int c := by
    intro d hd
    rcases List.mem_append.mp hd with q | q
    · have q := List.mem_of_mem_drop (List.mem_of_mem_take q)
      obtain ⟨n, hn, rfl⟩ := List.mem_map.mp q
      exact ⟨n, h n hn, rfl⟩
    · simp only [List.mem_singleton] at q
      exact ⟨0, by decide, q⟩
  have ne : 0 < (DL.cutD (ns.map PyData.int) (some z) none ++ [PyData.int 0]).length := by simp
  obtain ⟨c, hc, e⟩ := all _ (List.getElem_mem ne)
  refine ⟨c, hc, ?_⟩
  rw [← e]
  exact atI_nat (j := 0) (List.getElem?_eq_getElem ne)
theorem cutD_len (ds : List PyData) (lo hi : Option Int) : (DL.cutD ds lo hi).length ≤ ds.length := by
  unfold DL.cutD
  rw [List.length_take, List.length_drop]
  omega
theorem S_take {many : Int} {Q : PyData → Prop} (h0 : 0 < many) (h1 : many < 1073741824) (h : ∀ k, 0 ≤ k → k < many → Q (.int k)) : fn__law_take [.bag, .data (.int many)] Q (fun _ => False) := by
  refine ⟨rfl, ?_⟩
  have fin : ∀ a b : DSlot, (dSeq (dIfS (dTest (dOp gGt (dBag 0 0) (dC (.int 0)))) (dSeq (dSet 6 (dOp gMod (dCall gIntC (dCons (dBag 0 0) (dNil))) (dPeek 1)))
    (dSeq (dSetBag 0 0 (dOp gFdiv (dCall gIntC (dCons (dBag 0 0) (dNil))) (dPeek 1)))
    (dRet (dVar 6)))) (dNext))
    (dSeq (dSet 2 (dOp gMod (dCall gIntC (dCons (dOp gMulA (dOp gAdd (dBag 0 1) (dC (.int 1))) (dC (.int 39373))) (dNil))) (dC (.int 1000000007))))
    (dSeq (dSet 3 (dOp gMod (dCall gIntC (dCons (dOp gMulA (dOp gMod (dCall gIntC (dCons (dOp gMulA (dPeek 2) (dPeek 2)) (dNil))) (dC (.int 998244353))) (dC (.int 30011))) (dNil))) (dC (.int 998244353))))
    (dRet (dOp gMod (dCall gIntC (dCons (dOp gFdiv (dPeek 3) (dC (.int 7))) (dNil))) (dPeek 1)))))) (ends0 Q fun _ => False) [.bag, .data (.int many), .undef, .undef, a, b, .undef] := by
    intro a b
    refine ⟨rfl, fun n hn _ => ⟨_, rfl, ?_⟩⟩
    refine ite2 (fun c => ?_) (fun c => ?_)
    · refine ⟨(by decide : 6 < 7), rfl, fun m hm _ => ⟨h0, ?_⟩⟩
      refine ⟨rfl, fun m' hm' _ => ⟨⟨h0, h1⟩, _, rfl, Int.ediv_nonneg hm' (Int.le_of_lt h0), nofun, rfl, ?_⟩⟩
      exact h _ (Int.emod_nonneg _ (by omega)) (Int.emod_lt_of_pos _ h0)
    · refine ⟨(by decide : 2 < 7), rfl, fun y hy hy2 => ⟨.inr ⟨by decide, by decide⟩, (by decide : (0 : Int) < 1000000007), ?_⟩⟩
      have b1 : 0 ≤ ((y + 1) * 39373) % 1000000007 := Int.emod_nonneg _ (by decide)
      have b2 : ((y + 1) * 39373) % 1000000007 < 1000000007 := Int.emod_lt_of_pos _ (by decide)
      refine ⟨(by decide : 3 < 7), ⟨.inl ⟨(by show -(2 ^ 64) < ((y + 1) * 39373) % 1000000007; omega), (by show ((y + 1) * 39373) % 1000000007 < 2 ^ 64; omega)⟩, (by decide : (0 : Int) < 998244353), .inr ⟨by decide, by decide⟩, (by decide : (0 : Int) < 998244353), ⟨⟨by decide, by decide⟩, h0, ?_⟩⟩⟩
      exact h _ (Int.emod_nonneg _ (by omega)) (Int.emod_lt_of_pos _ h0)
  refine ⟨rfl, fun n hn _ => ⟨eqOk_int _ _, _, rfl, ?_⟩⟩
  refine ite2 (fun c => ?_) (fun c => fin _ _)
  -- the next number of the script, and a stir
  refine ⟨(by decide : 4 < 7), rfl, fun ns hl hns => ⟨rfl, fun z hz _ => ⟨_, rfl, (by decide : 1 ≤ sizeLine), ?_, ?_⟩⟩⟩
  · have := cutD_len (ns.map PyData.int) (some z) none
    rw [List.length_map] at this
    exact Nat.le_trans (Nat.add_le_add_right (Nat.le_trans this hl) 1) (by decide)
  obtain ⟨c, hc, e⟩ := cell_at hns z
  refine ⟨_, e, rfl, (by decide : (2 : Int) ≠ 1), _, rfl, (by decide : (0 : Int) ≤ 1), rfl, ⟨⟨by decide, by decide, by decide⟩, _, rfl, ?_⟩⟩
  have two : ∀ D : DEnds, (∀ a b : DSlot, D.nx [.bag, .data (.int many), .undef, .undef, a, b, .undef]) → (dSeq (dSet 5 (dOp gAdd (dOp gAdd (dOp gMulA (dBag 0 1) (dC (.int 48271))) (dOp gMod (dCall gIntC (dCons (dPeek 4) (dNil))) (dC (.int 2147483647)))) (dOp gMulA (dC (.int 7919)) (dBag 0 2))))
    (dSetBag 0 1 (dOp gMod (dCall gIntC (dCons (dPeek 5) (dNil))) (dC (.int 2147483647))))) D [.bag, .data (.int many), .undef, .undef, .data (.int c), .undef, .undef] := fun D fin => ⟨(by decide : 5 < 7), rfl, fun y hy _ => ⟨.inr ⟨by decide, by decide⟩, (by decide : (0 : Int) < 2147483647), rfl, fun m hm _ => ⟨.inl ⟨by decide, by decide⟩, (by decide : (0 : Int) < 2147483647), _, rfl, Int.emod_nonneg _ (by decide), fun _ => Int.emod_lt_of_pos _ (by decide), rfl, fin _ _⟩⟩⟩
  exact ite2 (fun c => ⟨_, rfl, hc, nofun, rfl, two _ fin⟩) fun c => two _ fin
theorem atI_in {ds : List PyData} {k : Int} (h0 : 0 ≤ k) (h1 : k < ds.length) : ∃ d ∈ ds, atI ds k = some d := by
  have e : k = ((k.toNat : Nat) : Int) := by omega
  have lt : k.toNat < ds.length := by omega
  refine ⟨ds[k.toNat], List.getElem_mem lt, ?_⟩
  have q := atI_nat (xs := ds) (j := k.toNat) (List.getElem?_eq_getElem lt)
  rw [← e] at q
  exact q
abbrev tup (xs : List Str) : PyData := .tuple (xs.map PyData.str)
def odds : List PyData := [.none, .bool true, .bool false, .int 0, .int 1, .int (-1), (.int ((10 : Int) ^ (39 : Int).toNat)), .str "", .str "a", .str "no", .str "thing", .str "word", .tuple [], .list [], .dict [], tup ["thing"], tup ["hole"],
  tup ["raw", "truth", "yes"], .list [.str "no"], .dict [(.str "a", .int 1)], .str "a\n", .tuple [tup ["a", "b"]], .tuple [.str "a", .str "b", tup ["c"]], .str "abcdefghijklm"]
theorem eqOk_nil (xs : List PyData) : EqOk (.list xs) (.list []) := by
  cases xs with
  | nil => exact .inl ⟨rfl, rfl, by decide⟩
  | cons x xs => exact .inr (.inl ⟨_, _, rfl, rfl, by simp⟩)
theorem eqv_nil (xs : List PyData) : PyData.eqv (.list xs) (.list []) = xs.isEmpty := by
  rw [PyData.eqv]
  cases xs <;> rfl
theorem eqv_str (x y : Str) : PyData.eqv (.str x) (.str y) = (x == y) := by rw [PyData.eqv]
theorem eqOk_str (x y : Str) : EqOk (.str x) (.str y) := .inl ⟨rfl, rfl, Nat.zero_le _⟩
theorem eqOk_bool (x y : Bool) : EqOk (.bool x) (.bool y) := .inl ⟨rfl, rfl, Nat.zero_le _⟩
/-- short enough to be shown -/
structure Shows (d : PyData) : Prop where
  ok : d.showable = true
  deep : d.depth ≤ 60
  len : d.shown.length ≤ sizeLine
theorem S_alike_same {d : PyData} {Q : PyData → Prop} (hp : d.plain = true) (hs : Shows d) (h : Q (.bool true)) : fn__law_alike [.data d, .data d] Q (fun _ => False) := by
  refine ⟨rfl, .inl ⟨hp, hp, hs.deep⟩, ?_⟩
  rw [SeqAt.eqv_refl_plain d hp]
  refine ⟨true, rfl, iteT ?_⟩
  have dd : d.depth ≤ 100 := Nat.le_trans hs.deep (by decide)
  refine ⟨hs.ok, dd, hs.len, hs.ok, dd, hs.len, eqOk_str _ _, ?_⟩
  rw [eqv_str, beq_self_eq_true]
  exact h
theorem shows_bool (b : Bool) : Shows (.bool b) := by cases b <;> exact ⟨rfl, by decide, by decide +kernel⟩
theorem shows_bools2 (a b : Bool) : Shows (.list [.bool a, .bool b]) := by cases a <;> cases b <;> exact ⟨rfl, by decide, by decide +kernel⟩
/-- small enough -/
structure Fit (k n : Nat) (d : PyData) : Prop where
  ok : d.showable = true
  lv : d.leavesShort 41 = true
  deep : d.depth ≤ k
  wt : d.weight ≤ n
theorem Fit.mono {k k' n n' : Nat} {d : PyData} (h : Fit k n d) (hk : k ≤ k') (hn : n ≤ n') : Fit k' n' d := ⟨h.ok, h.lv, Nat.le_trans h.deep hk, Nat.le_trans h.wt hn⟩
theorem Fit.shows {k n : Nat} {d : PyData} (h : Fit k n d) (hk : k ≤ 60) (hn : n ≤ 380000) : Shows d := by
  refine ⟨h.ok, Nat.le_trans h.deep hk, ?_⟩
  have e := PyData.shown_le 41 (by decide) d h.lv
  have hw := h.wt
  rw [sizeLine_eq]
  omega
theorem fit_all {k n : Nat} : ∀ {ds : List PyData}, (∀ d ∈ ds, Fit k n d) → PyData.showableAll ds = true ∧ PyData.leavesShortAll 41 ds = true ∧ PyData.depthAll ds ≤ k ∧ PyData.weightAll ds ≤ ds.length * (n + 1)
  | [], _ => ⟨rfl, rfl, Nat.zero_le _, Nat.zero_le _⟩
  | d :: r, h => by
    obtain ⟨h1, h2, h3, h4⟩ := fit_all (ds := r) fun x hx => h x (by simp [hx])
    have f := h d (by simp)
    refine ⟨?_, ?_, ?_, ?_⟩
    · simp only [PyData.showableAll, f.ok, h1, Bool.and_self]
    · simp only [PyData.leavesShortAll, f.lv, h2, Bool.and_self]
    · have := f.deep
      simp only [PyData.depthAll]; omega
    · have := f.wt
      simp only [PyData.weightAll, List.length_cons]
      rw [Nat.add_mul]; omega
theorem fit_tuple {k n L : Nat} {ds : List PyData} (h : ∀ d ∈ ds, Fit k n d) (hl : ds.length ≤ L) : Fit (k + 1) (L * (n + 1)) (.tuple ds) := by
  obtain ⟨h1, h2, h3, h4⟩ := fit_all h
  exact ⟨by simpa only [PyData.showable] using h1, by simpa only [PyData.leavesShort] using h2, by simp only [PyData.depth]; omega, by simp only [PyData.weight]; exact Nat.le_trans h4 (Nat.mul_le_mul_right _ hl)⟩
theorem fit_list {k n L : Nat} {ds : List PyData} (h : ∀ d ∈ ds, Fit k n d) (hl : ds.length ≤ L) : Fit (k + 1) (L * (n + 1)) (.list ds) := by
  obtain ⟨h1, h2, h3, h4⟩ := fit_all h
  exact ⟨by simpa only [PyData.showable] using h1, by simpa only [PyData.leavesShort] using h2, by simp only [PyData.depth]; omega, by simp only [PyData.weight]; exact Nat.le_trans h4 (Nat.mul_le_mul_right _ hl)⟩
def fitB (k n : Nat) (d : PyData) : Bool := d.showable && d.leavesShort 41 && decide (d.depth ≤ k) && decide (d.weight ≤ n)
theorem fit_of {k n : Nat} {d : PyData} (h : fitB k n d = true) : Fit k n d := by
  simp only [fitB, Bool.and_eq_true, decide_eq_true_eq] at h
  exact ⟨h.1.1.1, h.1.1.2, h.1.2, h.2⟩
theorem odds_fit : ∀ d ∈ odds, Fit 3 200 d := by
  have : odds.all (fitB 3 200) = true := by decide +kernel
  exact fun d hd => fit_of (List.all_eq_true.mp this d hd)
/-- a comprehension whose test and element are told by p and f -/
theorem lcD_is {g : DG} {t : DT} {fe : DE} {ρw : DEnv} (p : PyData → Bool) (f : PyData → PyData) : ∀ (ds acc : List PyData) {Q : List PyData → Prop},
    (∀ d ∈ ds, ∀ (Y : PyData → Prop) (N : Prop), (p d = true → Y (f d)) → (p d = false → N) → g d ρw fun ρ2 => t ρ2 (fun b => if b = true then fe ρ2 Y (fun _ => False) else N) fun _ => False) →
    Q (acc ++ (ds.filter p).map f) → lcD g t fe ρw ds acc Q
  | [], acc, Q, _, q => by
    show Q acc
    simpa using q
  | d :: ds, acc, Q, h, q => by
    refine h d (by simp) _ _ (fun e => ?_) fun e => ?_
    · refine lcD_is p f ds _ (fun x hx => h x (by simp [hx])) ?_
      rw [List.filter_cons_of_pos e] at q
      simpa using q
    · refine lcD_is p f ds _ (fun x hx => h x (by simp [hx])) ?_
      rw [List.filter_cons_of_neg (by rw [e]; decide)] at q
      exact q
/-- .. without a test -/
theorem lcD_map {g : DG} {fe : DE} {ρw : DEnv} (f : PyData → PyData) (ds : List PyData) {Q : List PyData → Prop} (h : ∀ d ∈ ds, ∀ Y : PyData → Prop, Y (f d) → g d ρw fun ρ2 => fe ρ2 Y fun _ => False) (q : Q (ds.map f)) : lcD g dYes fe ρw ds [] Q :=
  lcD_is (fun _ => true) f ds [] (fun d hd Y N hy _ => by
    have := h d hd Y (hy rfl)
    simpa [dYes] using this) (by rw [List.filter_eq_self.mpr (by simp)]; exact q)
theorem le_line {n : Nat} (h : n ≤ 1000000) : n ≤ sizeLine := Nat.le_trans h (by decide)
end LW
set_option Elab.async false
set_option linter.all false
set_option maxRecDepth 100000
set_option maxHeartbeats 1000000
namespace LW
open PySem PySem.Spec PyProof.Rows L2 DL
/-! ### what stays behind calls, one after the other -/
theorem post_trans {F F1 F2 H H1 H2 : Hp} {bg : Option Bag} (P : Post F F1 H H1 bg []) (P2 : Post F1 F2 H1 H2 bg []) : Post F F2 H H2 bg [] :=
  ⟨P.f.trans P2.f, P2.le, fun a o e hb hl => P2.keep a o (P.keep a o e hb hl) hb hl, fun a h => P2.alive a (P.alive a h), fun a h1 h2 hl => P2.still a (P.alive a h1) (P.still a h1 h2 hl) hl⟩
theorem post_refl {F H : Hp} {bg : Option Bag} (le : Same F H) : Post F F H H bg [] := ⟨Same.refl _, le, fun _ _ e _ _ => e, fun _ h => h, fun _ _ h _ => h⟩
/-- a new object, not still -/
theorem post_lay {F H : Hp} {bg : Option Bag} {p : Addr} {o : HO} (le : Same F H) (hp : H p = none) : Post F F H (upd H p o) bg [] :=
  ⟨Same.refl _, le.trans (up_keep hp), fun a u e _ _ => up_keep hp a u e, fun a h => upd_alive h, fun _ _ h _ => h⟩
/-- .. still from now on -/
theorem post_laid {F H : Hp} {bg : Option Bag} {p : Addr} {o : HO} (le : Same F H) (hp : H p = none) : Post F (upd F p o) H (upd H p o) bg [] :=
  ⟨up_keep (le.free hp), fun a u e => by
    by_cases h : a = p
    · subst h; rw [upd_same] at e ⊢; exact e
    · rw [upd_ne h] at e ⊢; exact le _ _ e, fun a u e _ _ => up_keep hp a u e, fun a h => upd_alive h, fun a h1 h2 _ => by rw [upd_ne (fun e => by subst e; exact h1 hp)]; exact h2⟩
theorem bag_post {K : KW} {F F' H H' : Hp} {p : Bag} (B : BagOk K F H p) (P : Post F F' H H' none []) : BagOk K F' H' p :=
  B.next P.f (P.still _ B.there.1 B.1 (by simp)) (P.still _ B.there.2 B.2.1 (by simp)) (fun _ e => P.keep _ _ e (fun _ z => nomatch z) (by simp)) fun _ e => P.keep _ _ e (fun _ z => nomatch z) (by simp)
/-- the source is held: its address, what is still -/
structure Src (K : KW) (F H : Hp) (p : Bag) : Prop where
  le : Same F H
  bag : BagOk K F H p
theorem Src.lay {K : KW} {F H : Hp} {p : Bag} {a : Addr} {o : HO} (S : Src K F H p) (hp : H a = none) : Src K F (upd H a o) p :=
  ⟨S.le.trans (up_keep hp), S.bag.next (Same.refl _) S.bag.1 S.bag.2.1 (fun _ e => up_keep hp _ _ e) fun _ e => up_keep hp _ _ e⟩
theorem Src.laid {K : KW} {F H : Hp} {p : Bag} {a : Addr} {o : HO} (S : Src K F H p) (hp : H a = none) : Src K (upd F a o) (upd H a o) p :=
  ⟨(post_laid (bg := none) S.le hp).le, bag_post S.bag (post_laid S.le hp)⟩
theorem Src.ne {K : KW} {F H : Hp} {p : Bag} {a : Addr} (S : Src K F H p) (hp : H a = none) : ∀ q, some p = some q → a ≠ q.1 ∧ a ≠ q.2 := fun q e => by
  cases e
  exact ⟨fun z => S.bag.there.1 (by rw [← z]; exact hp), fun z => S.bag.there.2 (by rw [← z]; exact hp)⟩
/-- what is held becomes still -/
theorem Src.freeze {K : KW} {F H : Hp} {p : Bag} {a : Addr} {o : HO} (S : Src K F H p) (ha : F a = none) (hb : a ≠ p.1 ∧ a ≠ p.2) (ho : H a = some o) : Src K (upd F a o) H p :=
  ⟨fun b u e => by
    by_cases h : b = a
    · subst h; rw [upd_same] at e; rw [ho]; exact e
    · rw [upd_ne h] at e; exact S.le _ _ e, S.bag.next (up_keep ha) (by rw [upd_ne (Ne.symm hb.1)]; exact S.bag.1) (by rw [upd_ne (Ne.symm hb.2)]; exact S.bag.2.1) (fun _ e => e) fun _ e => e⟩
/-- what is held, not still, is changed -/
theorem Src.write {K : KW} {F H : Hp} {p : Bag} {a : Addr} {o : HO} (S : Src K F H p) (ha : F a = none) (hb : a ≠ p.1 ∧ a ≠ p.2) : Src K F (upd H a o) p :=
  ⟨fun b u e => by rw [upd_ne (fun h => by subst h; rw [ha] at e; cases e)]; exact S.le _ _ e, S.bag.next (Same.refl _) S.bag.1 S.bag.2.1 (fun _ e => by rw [upd_ne (Ne.symm hb.1)]; exact e) fun _ e => by rw [upd_ne (Ne.symm hb.2)]; exact e⟩
theorem sd_bag {K : KW} {F H : Hp} {p : Bag} {σ : L2.St} {i : Nat} (S : Src K F H p) (hv : val σ i = some (.ref p.1)) : Sd K ⟨H, F, some p, false, []⟩ F H σ (put (List.replicate σ.length .undef) i .bag) := by
  have hi := val_lt hv
  have lk : ∀ j, look (put (List.replicate σ.length .undef) i .bag) j = .undef ∨ (j = i ∧ look (put (List.replicate σ.length .undef) i .bag) j = .bag) := fun j => by
    rw [look_put]
    by_cases h : i = j ∧ i < (List.replicate σ.length DSlot.undef).length
    · rw [if_pos h]; exact .inr ⟨h.1.symm, rfl⟩
    · rw [if_neg h]; exact .inl (look_undef _ _)
  have no : ∀ (j : Nat) (b : Addr), ¬ Owns (val σ j) (look (put (List.replicate σ.length .undef) i .bag) j) b := fun j b o => by
    rcases lk j with e | ⟨_, e⟩
    · rw [e] at o; exact o.not rfl
    · rw [e] at o; exact o.bag
  refine ⟨Same.refl _, S.le, fun _ _ e _ _ => e, fun _ h => h, fun _ _ h _ => h, fun q e => by cases e; exact S.bag, by rw [put_length, List.length_replicate], fun j => ?_, fun j b o => (no j b o).elim, fun j k b o _ => (no j b o).elim⟩
  rcases lk j with e | ⟨h, e⟩
  · rw [e]; trivial
  · subst h; rw [e]; exact ⟨p, rfl, hv⟩
theorem sd_post {K : KW} {F H F' H' : Hp} {bg : Option Bag} {σ : L2.St} {ρ : DEnv} (S : Sd K ⟨H, F, bg, false, []⟩ F' H' σ ρ) : Post F F' H H' bg [] := ⟨S.le0, S.le, S.frame, S.alive, S.still⟩
/-! ### items of displays: still data, or a new list -/
inductive Sp1 where
  | d (x : PyData)
  | l (xs : List PyData)
def IsIt (K : KW) (F H H0 : Hp) (v : V) : Sp1 → Prop
  | .d x => Is K F v x
  | .l ds => ∃ a xs, v = .ref a ∧ H0 a = none ∧ F a = none ∧ H a = some (.lst xs) ∧ IsAll K F xs ds
theorem IsIt.post {K : KW} {F F' H H' H0 : Hp} {p : Bag} {v : V} {s : Sp1} (h : IsIt K F H H0 v s) (P : Post F F' H H' (some p) []) (n1 : H0 p.1 ≠ none) (n2 : H0 p.2 ≠ none) : IsIt K F' H' H0 v s := by
  cases s with
  | d x => exact Is.up (show Is K F v x from h) P.f
  | l ds =>
    obtain ⟨a, xs, e, h0, f, ha, i⟩ := h
    have nb : ∀ q, some p = some q → a ≠ q.1 ∧ a ≠ q.2 := fun q e => by
      cases e
      exact ⟨fun z => n1 (by rw [← z]; exact h0), fun z => n2 (by rw [← z]; exact h0)⟩
    exact ⟨a, xs, e, h0, P.still a (by rw [ha]; nofun) f (by simp), P.keep a _ ha nb (by simp), i.up P.f⟩
theorem IsIt.old {K : KW} {F H H0 H1 : Hp} {v : V} {s : Sp1} (h : IsIt K F H H1 v s) (al : ∀ a, H0 a ≠ none → H1 a ≠ none) : IsIt K F H H0 v s := by
  cases s with
  | d x => exact h
  | l ds =>
    obtain ⟨a, xs, e, h0, r⟩ := h
    exact ⟨a, xs, e, Classical.byContradiction fun z => al a z h0, r⟩
def tIt (K : KW) (i : Nat) (s : Sp1) : TE := fun σ H Q => ∃ F p, Src K F H p ∧ val σ i = some (.ref p.1) ∧ ∀ F' H' v, Post F F' H H' (some p) [] → Src K F' H' p → IsIt K F' H' H v s → Q v H'
def tIts (K : KW) (i : Nat) (ss : List Sp1) : TA := fun σ H Q => ∃ F p, Src K F H p ∧ val σ i = some (.ref p.1) ∧ ∀ F' H' vs, Post F F' H H' (some p) [] → Src K F' H' p → Paired (IsIt K F' H' H) vs ss → Q vs H'
section
variable {X : Cx} {W : WX} {e : Expr} {es : List Expr} {i : Nat} {s : Sp1} {ss : List Sp1}
theorem it_d {f : DE} {d : PyData} (h : PE X e (tD X.kw W0 f)) (k : ∀ ρ (Q : PyData → Prop) E, Q d → f ρ Q E) : PE X e (tIt X.kw i (.d d)) := PE.weak h fun σ H Q ⟨F, p, S, hv, q⟩ =>
  ⟨⟨H, F, some p, false, []⟩, F, _, (· = d), fun _ => False, sd_bag S hv, k _ _ _ rfl, fun F' H' v d' S' s' i' e => by subst e; exact q F' H' v (sd_post S') ⟨S'.le, S'.bag p rfl⟩ i', fun _ _ _ _ _ _ _ z => z.elim⟩
theorem it_l {f : DL'} {ds : List PyData} (h : PE X e (tF X.kw W0 f)) (k : ∀ ρ (Q : List PyData → Prop) E, Q ds → f ρ Q E) : PE X e (tIt X.kw i (.l ds)) := PE.weak h fun σ H Q ⟨F, p, S, hv, q⟩ =>
  ⟨⟨H, F, some p, false, []⟩, F, _, (· = ds), fun _ => False, sd_bag S hv, k _ _ _ rfl, fun F' H' a xs ds' S' s' ap e z i' q' => by subst q'; exact q F' H' (.ref a) (sd_post S') ⟨S'.le, S'.bag p rfl⟩ ⟨a, xs, rfl, ap.h0, ap.f, e, i'⟩, fun _ _ _ _ _ _ _ z => z.elim⟩
theorem its_nil : PA X [] (tIts X.kw i []) := PA.weak pa_nil fun σ H Q ⟨F, p, S, hv, q⟩ => q F H [] (post_refl S.le) S .nil
theorem its_cons (h : PE X e (tIt X.kw i s)) (hr : PA X es (tIts X.kw i ss)) (hs : starEach (e :: es) X.env = (false, eval e X.env) :: starEach es X.env := by rfl) : PA X (e :: es) (tIts X.kw i (s :: ss)) :=
  PA.weak (pa_cons h hr hs) fun σ H Q ⟨F, p, S, hv, q⟩ => ⟨F, p, S, hv, fun F1 H1 v P1 S1 i1 => ⟨F1, p, S1, hv, fun F2 H2 vs P2 S2 i2 =>
    q F2 H2 (v :: vs) (post_trans P1 P2) S2 (.cons (i1.post P2 S.bag.there.1 S.bag.there.2) (Paired.mapP i2 fun v s h => h.old P1.alive))⟩⟩
end
/-! ### _law_some: one of the things -/
def spSome (K : KW) : Sp := fun vs H Q _ => ∃ (F : Hp) (p : Bag) (L : Addr) (xs : List V), vs = [.ref p.1, .ref L] ∧ Src K F H p ∧ H L = some (.lst xs) ∧ (L ≠ p.1 ∧ L ≠ p.2) ∧ 0 < xs.length ∧ xs.length < 1073741824 ∧
  ∀ (F' H' : Hp) (i : Nat) (v : V), Post F F' H H' (some p) [] → Src K F' H' p → xs[i]? = some v → Q v H'
section
variable {P : Program} {w : World} {K : PySem.W.Frag} {mg : Str → Option Value} {base : Heap}
theorem ok__law_some (T : Tops K mg) : FnG P w K mg base CX0 2 T.a__law_some T.d__law_some ["bag", "things"] (spSome ⟨K, w⟩) :=
  fun_g (k := 1) T.f__law_some sc__law_some (fun vs H Q E ⟨F, p, L, xs, e, _⟩ => by subst e; rfl) fun cdv A outer s H vs Q E hr ⟨F, p, L, xs, e, S, hL, nb, z0, z1, k⟩ => by
    subst e
    refine ⟨_, pss_one (ps_ret (pe_ix ix_list (pv 1) (pe_callG ((ok__law_take T).mono (by decide)) hr rfl T.m__law_take T.f__law_take.kp T.b__law_take (pa_cons (pv 0) (pa_cons (pe_callB call_len_seq (by rfl) T.z_len (by decide +kernel) (pa_cons (pv 1) pa_nil)) pa_nil))) (fun _ _ => rfl))), ?_⟩
    refine ⟨.ref L, rfl, .ref p.1, rfl, .ref L, rfl, L, xs, rfl, .inl (SqL.of hL), ?_⟩
    refine ⟨F, some p, [.bag, .data (.int xs.length)], (fun d => ∃ k : Int, d = .int k ∧ 0 ≤ k ∧ k < xs.length), _, S.le, fun q e => by cases e; exact S.bag, .cons ⟨p, rfl, rfl⟩ (.cons (show Is ⟨K, w⟩ F (.int _) (.int _) from .int _) .nil), S_take (by omega) (by omega) fun k h0 h1 => ⟨k, rfl, h0, h1⟩, fun F' H' v d P' B' i ⟨j, e, j0, j1⟩ => ?_, fun _ _ _ _ _ _ _ _ z => z.elim⟩
    subst e
    cases i
    have e : j = ((j.toNat : Nat) : Int) := by omega
    have lt : j.toNat < xs.length := by omega
    have q := atI_nat (xs := xs) (j := j.toNat) (List.getElem?_eq_getElem lt)
    rw [← e] at q
    exact ⟨L, xs, j, xs[j.toNat], rfl, rfl, SqL.of (P'.keep L _ hL (fun q e => by cases e; exact nb) (by simp)), q, k F' H' j.toNat _ P' ⟨P'.le, B' p rfl⟩ (List.getElem?_eq_getElem lt)⟩
end
end LW
set_option Elab.async false
set_option linter.all false
set_option maxRecDepth 100000
set_option maxHeartbeats 1000000
namespace LW
open PySem PySem.Spec PyProof.Rows L2 DL
/-! ### _law_odd: a value of any kind: still data, or a new list -/
def sp1 : List Sp1 := [.d (.none), .d (.bool true), .d (.bool false), .d (.int 0), .d (.int 1), .d (.int (-1)), .d (.int ((10 : Int) ^ (39 : Int).toNat)), .d (.str ""), .d (.str "a"), .d (.str "no"), .d (.str "thing"), .d (.str "word"), .d (.tuple []), .l [], .d (.dict []), .d (.tuple [.str "thing"]), .d (.tuple [.str "hole"])]
def sp2 : List Sp1 := [.d (.tuple [.str "raw", .str "truth", .str "yes"]), .l [.str "no"], .d (.dict [(.str "a", .int 1)]), .d (.str "a\n"), .d (.tuple [.tuple [.str "a", .str "b"]]), .d (.tuple [.str "a", .str "b", .tuple [.str "c"]]), .d (.str "abcdefghijklm")]
def okB : Sp1 → Bool
  | .d x => !isList x && fitB 3 200 x
  | .l ds => fitB 3 200 (.list ds) && decide (ds.length ≤ 1) && ds.all (fitB 3 200)
theorem sps_ok : ∀ s ∈ sp1 ++ sp2, okB s = true := by
  have : (sp1 ++ sp2).all okB = true := by decide +kernel
  exact fun s h => List.all_eq_true.mp this s h
def OddV (K : KW) (F H H0 : Hp) (v : V) : Prop := ∃ s, IsIt K F H H0 v s ∧ okB s = true
def spOdd (K : KW) : Sp := fun vs H Q _ => ∃ (F : Hp) (p : Bag), vs = [.ref p.1] ∧ Src K F H p ∧ ∀ (F' H' : Hp) (v : V), Post F F' H H' (some p) [] → Src K F' H' p → OddV K F' H' H v → Q v H'
theorem paired_get {α β : Type} {R : α → β → Prop} : ∀ {xs : List α} {ys : List β} {i : Nat} {x : α}, Paired R xs ys → xs[i]? = some x → ∃ y ∈ ys, R x y
  | _, _, i, x, .nil, e => by simp at e
  | _, _, 0, x, .cons r t, e => by
    simp at e; subst e
    exact ⟨_, List.mem_cons_self, r⟩
  | _, _, i + 1, x, .cons r t, e => by
    obtain ⟨y, h1, h2⟩ := paired_get (i := i) (x := x) t (by simpa using e)
    exact ⟨y, List.mem_cons_of_mem _ h1, h2⟩
theorem paired_app {α β : Type} {R : α → β → Prop} : ∀ {xs xs' : List α} {ys ys' : List β}, Paired R xs ys → Paired R xs' ys' → Paired R (xs ++ xs') (ys ++ ys')
  | _, _, _, _, .nil, h => h
  | _, _, _, _, .cons r t, h => .cons r (paired_app t h)
section
variable {P : Program} {w : World} {K : PySem.W.Frag} {mg : Str → Option Value} {base : Heap}
theorem ok__law_odd (T : Tops K mg) : FnG P w K mg base CX0 3 T.a__law_odd T.d__law_odd ["bag"] (spOdd ⟨K, w⟩) :=
  fun_g (k := 2) T.f__law_odd sc__law_odd (fun vs H Q E ⟨F, p, e, _⟩ => by subst e; rfl) fun cdv A outer s H vs Q E hr ⟨F, p, e, S, k⟩ => by
    subst e
    refine ⟨_, pss_cons (ps_set (i := 1) sc__law_odd.nd rfl (Or.inl rfl) (pe_lst (its_cons (i := 0) (it_d (d := (.none)) (pd_non) (by intro _ _ _ q; repeat (first | exact q | refine ⟨le_line (by decide), ?_⟩ | refine ⟨⟨by decide, by decide, by decide⟩, ?_⟩ | refine ⟨[.inr "a"], rfl, by decide, ?_⟩)))
      (its_cons (i := 0) (it_d (d := (.bool true)) (pd_bl) (by intro _ _ _ q; repeat (first | exact q | refine ⟨le_line (by decide), ?_⟩ | refine ⟨⟨by decide, by decide, by decide⟩, ?_⟩ | refine ⟨[.inr "a"], rfl, by decide, ?_⟩)))
      (its_cons (i := 0) (it_d (d := (.bool false)) (pd_bl) (by intro _ _ _ q; repeat (first | exact q | refine ⟨le_line (by decide), ?_⟩ | refine ⟨⟨by decide, by decide, by decide⟩, ?_⟩ | refine ⟨[.inr "a"], rfl, by decide, ?_⟩)))
      (its_cons (i := 0) (it_d (d := (.int 0)) (pd_int) (by intro _ _ _ q; repeat (first | exact q | refine ⟨le_line (by decide), ?_⟩ | refine ⟨⟨by decide, by decide, by decide⟩, ?_⟩ | refine ⟨[.inr "a"], rfl, by decide, ?_⟩)))
      (its_cons (i := 0) (it_d (d := (.int 1)) (pd_int) (by intro _ _ _ q; repeat (first | exact q | refine ⟨le_line (by decide), ?_⟩ | refine ⟨⟨by decide, by decide, by decide⟩, ?_⟩ | refine ⟨[.inr "a"], rfl, by decide, ?_⟩)))
      (its_cons (i := 0) (it_d (d := (.int (-1))) (pd_un un_neg d_neg (dO (pd_int))) (by intro _ _ _ q; repeat (first | exact q | refine ⟨le_line (by decide), ?_⟩ | refine ⟨⟨by decide, by decide, by decide⟩, ?_⟩ | refine ⟨[.inr "a"], rfl, by decide, ?_⟩)))
      (its_cons (i := 0) (it_d (d := (.int ((10 : Int) ^ (39 : Int).toNat))) (pd_op op_pow d_int (dO (pd_int)) (dO (pd_int))) (by intro _ _ _ q; repeat (first | exact q | refine ⟨le_line (by decide), ?_⟩ | refine ⟨⟨by decide, by decide, by decide⟩, ?_⟩ | refine ⟨[.inr "a"], rfl, by decide, ?_⟩)))
      (its_cons (i := 0) (it_d (d := (.str "")) (pd_str) (by intro _ _ _ q; repeat (first | exact q | refine ⟨le_line (by decide), ?_⟩ | refine ⟨⟨by decide, by decide, by decide⟩, ?_⟩ | refine ⟨[.inr "a"], rfl, by decide, ?_⟩)))
      (its_cons (i := 0) (it_d (d := (.str "a")) (pd_str) (by intro _ _ _ q; repeat (first | exact q | refine ⟨le_line (by decide), ?_⟩ | refine ⟨⟨by decide, by decide, by decide⟩, ?_⟩ | refine ⟨[.inr "a"], rfl, by decide, ?_⟩)))
      (its_cons (i := 0) (it_d (d := (.str "no")) (pd_str) (by intro _ _ _ q; repeat (first | exact q | refine ⟨le_line (by decide), ?_⟩ | refine ⟨⟨by decide, by decide, by decide⟩, ?_⟩ | refine ⟨[.inr "a"], rfl, by decide, ?_⟩)))
      (its_cons (i := 0) (it_d (d := (.str "thing")) (pd_str) (by intro _ _ _ q; repeat (first | exact q | refine ⟨le_line (by decide), ?_⟩ | refine ⟨⟨by decide, by decide, by decide⟩, ?_⟩ | refine ⟨[.inr "a"], rfl, by decide, ?_⟩)))
      (its_cons (i := 0) (it_d (d := (.str "word")) (pd_str) (by intro _ _ _ q; repeat (first | exact q | refine ⟨le_line (by decide), ?_⟩ | refine ⟨⟨by decide, by decide, by decide⟩, ?_⟩ | refine ⟨[.inr "a"], rfl, by decide, ?_⟩)))
      (its_cons (i := 0) (it_d (d := (.tuple [])) (pd_tup (ps_nil')) (by intro _ _ _ q; repeat (first | exact q | refine ⟨le_line (by decide), ?_⟩ | refine ⟨⟨by decide, by decide, by decide⟩, ?_⟩ | refine ⟨[.inr "a"], rfl, by decide, ?_⟩)))
      (its_cons (i := 0) (it_l (ds := []) (pf_lst (ps_nil')) (by intro _ _ _ q; repeat (first | exact q | refine ⟨le_line (by decide), ?_⟩ | refine ⟨⟨by decide, by decide, by decide⟩, ?_⟩ | refine ⟨[.inr "a"], rfl, by decide, ?_⟩)))
      (its_cons (i := 0) (it_d (d := (.dict [])) (dG (pg_empty)) (by intro _ _ _ q; repeat (first | exact q | refine ⟨le_line (by decide), ?_⟩ | refine ⟨⟨by decide, by decide, by decide⟩, ?_⟩ | refine ⟨[.inr "a"], rfl, by decide, ?_⟩)))
      (its_cons (i := 0) (it_d (d := (.tuple [.str "thing"])) (pd_tup (ps_cons' (pd_str) (ps_nil'))) (by intro _ _ _ q; repeat (first | exact q | refine ⟨le_line (by decide), ?_⟩ | refine ⟨⟨by decide, by decide, by decide⟩, ?_⟩ | refine ⟨[.inr "a"], rfl, by decide, ?_⟩)))
      (its_cons (i := 0) (it_d (d := (.tuple [.str "hole"])) (pd_tup (ps_cons' (pd_str) (ps_nil'))) (by intro _ _ _ q; repeat (first | exact q | refine ⟨le_line (by decide), ?_⟩ | refine ⟨⟨by decide, by decide, by decide⟩, ?_⟩ | refine ⟨[.inr "a"], rfl, by decide, ?_⟩)))
      (its_nil))))))))))))))))))))
      (pss_one (ps_ret (pe_callG (ok__law_some T) hr rfl T.m__law_some T.f__law_some.kp T.b__law_some (pa_cons (pv 0) (pa_cons (pe_op op_cat (pv 1) (pe_lst (its_cons (i := 0) (it_d (d := (.tuple [.str "raw", .str "truth", .str "yes"])) (pd_tup (ps_cons' (pd_str) (ps_cons' (pd_str) (ps_cons' (pd_str) (ps_nil'))))) (by intro _ _ _ q; repeat (first | exact q | refine ⟨le_line (by decide), ?_⟩ | refine ⟨⟨by decide, by decide, by decide⟩, ?_⟩ | refine ⟨[.inr "a"], rfl, by decide, ?_⟩)))
      (its_cons (i := 0) (it_l (ds := [.str "no"]) (pf_lst (ps_cons' (pd_str) (ps_nil'))) (by intro _ _ _ q; repeat (first | exact q | refine ⟨le_line (by decide), ?_⟩ | refine ⟨⟨by decide, by decide, by decide⟩, ?_⟩ | refine ⟨[.inr "a"], rfl, by decide, ?_⟩)))
      (its_cons (i := 0) (it_d (d := (.dict [(.str "a", .int 1)])) (dG (pg_disp (fs := [(dC (.str "a"), dC (.int 1))]) (pps_cons (pd_str) (pd_int) (pps_nil)))) (by intro _ _ _ q; repeat (first | exact q | refine ⟨le_line (by decide), ?_⟩ | refine ⟨⟨by decide, by decide, by decide⟩, ?_⟩ | refine ⟨[.inr "a"], rfl, by decide, ?_⟩)))
      (its_cons (i := 0) (it_d (d := (.str "a\n")) (pd_str) (by intro _ _ _ q; repeat (first | exact q | refine ⟨le_line (by decide), ?_⟩ | refine ⟨⟨by decide, by decide, by decide⟩, ?_⟩ | refine ⟨[.inr "a"], rfl, by decide, ?_⟩)))
      (its_cons (i := 0) (it_d (d := (.tuple [.tuple [.str "a", .str "b"]])) (pd_tup (ps_cons' (pd_tup (ps_cons' (pd_str) (ps_cons' (pd_str) (ps_nil')))) (ps_nil'))) (by intro _ _ _ q; repeat (first | exact q | refine ⟨le_line (by decide), ?_⟩ | refine ⟨⟨by decide, by decide, by decide⟩, ?_⟩ | refine ⟨[.inr "a"], rfl, by decide, ?_⟩)))
      (its_cons (i := 0) (it_d (d := (.tuple [.str "a", .str "b", .tuple [.str "c"]])) (pd_tup (ps_cons' (pd_str) (ps_cons' (pd_str) (ps_cons' (pd_tup (ps_cons' (pd_str) (ps_nil'))) (ps_nil'))))) (by intro _ _ _ q; repeat (first | exact q | refine ⟨le_line (by decide), ?_⟩ | refine ⟨⟨by decide, by decide, by decide⟩, ?_⟩ | refine ⟨[.inr "a"], rfl, by decide, ?_⟩)))
      (its_cons (i := 0) (it_d (d := (.str "abcdefghijklm")) (pd_str) (by intro _ _ _ q; repeat (first | exact q | refine ⟨le_line (by decide), ?_⟩ | refine ⟨⟨by decide, by decide, by decide⟩, ?_⟩ | refine ⟨[.inr "a"], rfl, by decide, ?_⟩)))
      (its_nil)))))))))) pa_nil))))), ?_⟩
    refine ⟨F, p, S, rfl, fun F1 H1 xs P1 S1 i1 => ⟨?_, fun l hl => ?_⟩⟩
    · rw [i1.length]; exact le_line (by decide)
    refine ⟨.ref p.1, rfl, .ref l, rfl, F1, p, S1.lay hl, rfl, fun F2 H2 ws P2 S2 i2 => ⟨?_, fun l2 hl2 => ?_⟩⟩
    · rw [i2.length]; exact le_line (by decide)
    have nb := S1.ne hl
    have hA : H2 l = some (.lst xs) := P2.keep l _ upd_same nb (by simp)
    have len1 : xs.length = 17 := i1.length
    have len2 : ws.length = 7 := i2.length
    refine ⟨l, l2, xs, ws, rfl, rfl, up_keep hl2 _ _ hA, upd_same, ?_, fun q hq => ?_⟩
    · first | (rw [len1, len2]; exact le_line (by decide)) | exact ⟨by rw [len1]; exact le_line (by decide), by rw [len2]; exact le_line (by decide)⟩
    have S3 := S2.lay (o := .lst ws) hl2
    refine ⟨F2, p, q, xs ++ ws, rfl, S3.lay hq, upd_same, S3.ne hq p rfl, by rw [List.length_append, len1]; omega, by rw [List.length_append, len1, len2]; omega, fun F' H' i v P3 S4 hv => ?_⟩
    have Pa := post_trans P1 (post_lay (o := .lst xs) (bg := some p) S1.le hl)
    have Pb := post_trans Pa P2
    have Pc := post_trans Pb (post_trans (post_lay (o := .lst ws) (bg := some p) S2.le hl2) (post_trans (post_lay (o := .lst (xs ++ ws)) (bg := some p) S3.le hq) P3))
    have n1 := S.bag.there.1
    have n2 := S.bag.there.2
    refine k F' H' v Pc S4 ?_
    have j1 : Paired (IsIt ⟨K, w⟩ F2 H2 H) xs sp1 := Paired.mapP i1 fun v s h => (h.post (post_lay (o := .lst xs) (bg := some p) S1.le hl) n1 n2).post P2 n1 n2
    have j2 : Paired (IsIt ⟨K, w⟩ F2 H2 H) ws sp2 := Paired.mapP i2 fun v s h => h.old Pa.alive
    obtain ⟨s, hs, h⟩ := paired_get (paired_app j1 j2) hv
    exact ⟨s, ((h.post (post_lay (o := .lst ws) (bg := some p) S2.le hl2) n1 n2).post (post_lay (o := .lst (xs ++ ws)) (bg := some p) S3.le hq) n1 n2).post P3 n1 n2, sps_ok s hs⟩
end
end LW
set_option Elab.async false
set_option linter.all false
set_option maxRecDepth 100000
set_option maxHeartbeats 1000000
namespace LW
open PySem PySem.Spec PyProof.Rows L2 DL
/-! ### _law_made: one error of each class, their fields -/
theorem mk_heap {C a dx : Addr} {f : Str} {v : V} {H : Hp} (ha : H a = none) (hdx : upd H a (exo a C none) dx = none) (ne : dx ≠ a) :
    Same H (upd (upd (upd H a (exo a C none)) dx (exd dx [(f, v)])) a (exo a C (some dx))) ∧ (upd (upd (upd H a (exo a C none)) dx (exd dx [(f, v)])) a (exo a C (some dx))) a = some (exo a C (some dx)) ∧
      (upd (upd (upd H a (exo a C none)) dx (exd dx [(f, v)])) a (exo a C (some dx))) dx = some (exd dx [(f, v)]) := by
  have hd : H dx = none := by rw [upd_ne ne] at hdx; exact hdx
  refine ⟨fun b u e => ?_, upd_same, by rw [upd_ne ne, upd_same]⟩
  rw [upd_ne (ne_of_none e ha), upd_ne (ne_of_none e hd), upd_ne (ne_of_none e ha)]
  exact e
section
variable {K : PySem.W.Frag} {mg : Str → Option Value}
/-- the classes, in the order of the row -/
def Tops.cls (T : Tops K mg) : List Addr := [T.C_NoCommand, T.C_NoName, T.C_NoText, T.C_NotRight, T.C_TooMany, T.C_Wrong, T.C_Nothing]
def spMade (T : Tops K mg) : Sp := fun vs H Q _ => ∃ v, vs = [v] ∧ ∀ (t lE lF : Addr) (as : List Addr) (o : Obj) (H' : Hp), Same H H' → H' t = some (.frz o (.tup [.ref lE, .ref lF])) → H' lE = some (.lst (as.map V.ref)) → H' lF = some (.lst [v, v, v, v, v, v]) →
  H lE = none → H lF = none → Paired (ErrAt H') as T.cls → Q (.ref t) H'
end
section
variable {P : Program} {w : World} {K : PySem.W.Frag} {mg : Str → Option Value} {base : Heap}
theorem ok__law_made (T : Tops K mg) : FnG P w K mg base CX0 3 T.a__law_made T.d__law_made ["one"] (spMade T) :=
  fun_g (k := 2) T.f__law_made sc__law_made (fun vs H Q E ⟨v, e, _⟩ => by subst e; rfl) fun cdv A outer s H vs Q E hr ⟨v, e, k⟩ => by
    subst e
    refine ⟨_, pss_cons (ps_asg (pe_tupS (pa_cons (pe_mkV T.o_NoCommand T.i_NoCommand T.t_NoCommand (ok_NoCommand___init__ T) hr.r T.b_NoCommand___init__ .nil passL T.c_NoCommand.m (pa_cons (pv 0) pa_nil))
        (pa_cons (pe_mkV T.o_NoName T.i_NoName T.t_NoName (ok_NoName___init__ T) hr.r T.b_NoName___init__ .nil passL T.c_NoName.m (pa_cons (pv 0) pa_nil))
        (pa_cons (pe_mkV T.o_NoText T.i_NoText T.t_NoText (ok_NoText___init__ T) hr.r T.b_NoText___init__ .nil passL T.c_NoText.m (pa_cons (pv 0) pa_nil))
        (pa_cons (pe_mkV T.o_NotRight T.i_NotRight T.t_NotRight (ok_NotRight___init__ T) hr.r T.b_NotRight___init__ .nil passL T.c_NotRight.m (pa_cons (pv 0) pa_nil))
        (pa_cons (pe_mkV T.o_TooMany T.i_TooMany T.t_TooMany (ok_TooMany___init__ T) hr.r T.b_TooMany___init__ .nil passL T.c_TooMany.m (pa_cons (pv 0) pa_nil))
        (pa_cons (pe_mkV T.o_Wrong T.i_Wrong T.t_Wrong (ok_Wrong___init__ T) hr.r T.b_Wrong___init__ .nil passL T.c_Wrong.m (pa_cons (pv 0) pa_nil))
        (pa_nil)))))))) (pg_tup rfl (pgs_cons (pg_name (i := 2) sc__law_made.nd rfl (Or.inl rfl)) (pgs_cons (pg_name (i := 3) sc__law_made.nd rfl (Or.inl rfl)) (pgs_cons (pg_name (i := 4) sc__law_made.nd rfl (Or.inl rfl)) (pgs_cons (pg_name (i := 5) sc__law_made.nd rfl (Or.inl rfl)) (pgs_cons (pg_name (i := 6) sc__law_made.nd rfl (Or.inl rfl)) (pgs_cons (pg_name (i := 7) sc__law_made.nd rfl (Or.inl rfl)) (pgs_nil)))))))))
      (pss_cons (ps_set (i := 1) sc__law_made.nd rfl (Or.inl rfl) (pe_lst (pa_cons (pe_xo (pv 2)) (pa_cons (pe_xo (pv 3)) (pa_cons (pe_xo (pv 4)) (pa_cons (pe_xo (pv 5)) (pa_cons (pe_xo (pv 6)) (pa_cons (pe_xo (pv 7)) (pa_nil)))))))))
      (pss_one (ps_ret (pe_tupS (pa_cons (pe_lst (pa_cons (pv 2) (pa_cons (pv 3) (pa_cons (pv 4) (pa_cons (pv 5) (pa_cons (pv 6) (pa_cons (pv 7) (pa_cons (pe_exc0 PySem.F.excBase_ValueError T.n_Nothing T.c_Nothing.m T.c_Nothing.k) pa_nil)))))))) (pa_cons (pv 1) pa_nil)))))), ?_⟩
    refine ⟨v, rfl, (by decide : 1 ≤ 1000), fun a1 n1 => ⟨a1, v, rfl, upd_same, fun d1 m1 k1 => ⟨rfl, ?_⟩⟩⟩
    obtain ⟨s1, e1, f1⟩ := mk_heap (C := T.C_NoCommand) (f := "line") (v := v) n1 m1 k1
    refine ⟨v, rfl, (by decide : 1 ≤ 1000), fun a2 n2 => ⟨a2, v, rfl, upd_same, fun d2 m2 k2 => ⟨rfl, ?_⟩⟩⟩
    obtain ⟨s2, e2, f2⟩ := mk_heap (C := T.C_NoName) (f := "name") (v := v) n2 m2 k2
    refine ⟨v, rfl, (by decide : 1 ≤ 1000), fun a3 n3 => ⟨a3, v, rfl, upd_same, fun d3 m3 k3 => ⟨rfl, ?_⟩⟩⟩
    obtain ⟨s3, e3, f3⟩ := mk_heap (C := T.C_NoText) (f := "line") (v := v) n3 m3 k3
    refine ⟨v, rfl, (by decide : 1 ≤ 1000), fun a4 n4 => ⟨a4, v, rfl, upd_same, fun d4 m4 k4 => ⟨rfl, ?_⟩⟩⟩
    obtain ⟨s4, e4, f4⟩ := mk_heap (C := T.C_NotRight) (f := "faults") (v := v) n4 m4 k4
    refine ⟨v, rfl, (by decide : 1 ≤ 1000), fun a5 n5 => ⟨a5, v, rfl, upd_same, fun d5 m5 k5 => ⟨rfl, ?_⟩⟩⟩
    obtain ⟨s5, e5, f5⟩ := mk_heap (C := T.C_TooMany) (f := "most") (v := v) n5 m5 k5
    refine ⟨v, rfl, (by decide : 1 ≤ 1000), fun a6 n6 => ⟨a6, v, rfl, upd_same, fun d6 m6 k6 => ⟨rfl, ?_⟩⟩⟩
    obtain ⟨s6, e6, f6⟩ := mk_heap (C := T.C_Wrong) (f := "place") (v := v) n6 m6 k6
    refine ⟨le_line (by simp), fun p o hp ho => ⟨p, _, rfl, .inl (.inr ⟨o, upd_same⟩), rfl, ?_⟩⟩
    refine ⟨_, _, rfl, _, _, rfl, _, _, rfl, _, _, rfl, _, _, rfl, _, _, rfl, rfl, ?_⟩
    have s7 := up_keep (o := .frz o (.tup [V.ref a1, .ref a2, .ref a3, .ref a4, .ref a5, .ref a6])) hp
    have g6 := s7 _ _ e6
    have h6 := s7 _ _ f6
    have t6 := s6.trans s7
    have g5 := t6 _ _ e5
    have h5 := t6 _ _ f5
    have t5 := s5.trans t6
    have g4 := t5 _ _ e4
    have h4 := t5 _ _ f4
    have t4 := s4.trans t5
    have g3 := t4 _ _ e3
    have h3 := t4 _ _ f3
    have t3 := s3.trans t4
    have g2 := t3 _ _ e2
    have h2 := t3 _ _ f2
    have t2 := s2.trans t3
    have g1 := t2 _ _ e1
    have h1 := t2 _ _ f1
    have t1 := s1.trans t2
    refine ⟨.ref a1, rfl, a1, T.C_NoCommand, d1, [("line", v)], v, rfl, T.c_NoCommand.x, T.w_NoCommand, g1, h1, by rfl, ?_⟩
    refine ⟨.ref a2, rfl, a2, T.C_NoName, d2, [("name", v)], v, rfl, T.c_NoName.x, T.w_NoName, g2, h2, by rfl, ?_⟩
    refine ⟨.ref a3, rfl, a3, T.C_NoText, d3, [("line", v)], v, rfl, T.c_NoText.x, T.w_NoText, g3, h3, by rfl, ?_⟩
    refine ⟨.ref a4, rfl, a4, T.C_NotRight, d4, [("faults", v)], v, rfl, T.c_NotRight.x, T.w_NotRight, g4, h4, by rfl, ?_⟩
    refine ⟨.ref a5, rfl, a5, T.C_TooMany, d5, [("most", v)], v, rfl, T.c_TooMany.x, T.w_TooMany, g5, h5, by rfl, ?_⟩
    refine ⟨.ref a6, rfl, a6, T.C_Wrong, d6, [("place", v)], v, rfl, T.c_Wrong.x, T.w_Wrong, g6, h6, by rfl, ?_⟩
    refine ⟨le_line (by simp), fun lF hF => ?_⟩
    have s8 := up_keep (o := .lst [v, v, v, v, v, v]) hF
    refine ⟨.ref a1, rfl, .ref a2, rfl, .ref a3, rfl, .ref a4, rfl, .ref a5, rfl, .ref a6, rfl, (by decide : 0 ≤ 1000), fun a7 h7 => ⟨le_line (by simp), fun lE hE => ⟨.ref lF, rfl, le_line (by simp), fun t o2 ht ho2 => ?_⟩⟩⟩
    have s9 := up_keep (o := ExO (.ref T.C_Nothing) a7) h7
    have s10 := up_keep (o := .lst [V.ref a1, .ref a2, .ref a3, .ref a4, .ref a5, .ref a6, .ref a7]) hE
    have s11 := up_keep (o := .frz o2 (.tup [V.ref lE, .ref lF])) ht
    have z := s8.trans (s9.trans (s10.trans s11))
    refine k t lE lF [a1, a2, a3, a4, a5, a6, a7] o2 _ (t1.trans z) upd_same (s11 _ _ upd_same) ((s9.trans (s10.trans s11)) _ _ upd_same) ((t1.trans (s8.trans s9)).free hE) (t1.free hF) ?_
    exact .cons (.own (z _ _ g1) (z _ _ h1)) (.cons (.own (z _ _ g2) (z _ _ h2)) (.cons (.own (z _ _ g3) (z _ _ h3)) (.cons (.own (z _ _ g4) (z _ _ h4)) (.cons (.own (z _ _ g5) (z _ _ h5)) (.cons (.own (z _ _ g6) (z _ _ h6)) (.cons (.pl ((s10.trans s11) _ _ upd_same)) .nil))))))
end
end LW
set_option Elab.async false
set_option linter.all false
set_option maxRecDepth 100000
set_option maxHeartbeats 1000000
namespace LW
open PySem PySem.Spec PyProof.Rows L2 DL
/-! ### _law_kinds_of: of which classes an error is -/
section
variable {K : PySem.W.Frag} {mg : Str → Option Value}
/-- what isinstance says of a class's instances, class by class -/
def Kinds (T : Tops K mg) (C : Addr) (bs : List Bool) : Prop := ExcC K C ∧ Paired (fun D b => PySem.W.kitOne K (.ref C) (.ref D) = some b) T.cls bs
def spKinds (T : Tops K mg) : Sp := fun vs H Q _ => ∃ (a C : Addr) (bs : List Bool), vs = [.ref a] ∧ ErrAt H a C ∧ Kinds T C bs ∧ ∀ (l : Addr) (H' : Hp), Same H H' → H l = none → H' l = some (.lst (bs.map V.bl)) → Q (.ref l) H'
end
section
variable {P : Program} {w : World} {K : PySem.W.Frag} {mg : Str → Option Value} {base : Heap}
theorem ok__law_kinds_of (T : Tops K mg) : FnG P w K mg base CX0 1 T.a__law_kinds_of T.d__law_kinds_of ["error"] (spKinds T) :=
  fun_g (k := 0) T.f__law_kinds_of sc__law_kinds_of (fun vs H Q E ⟨a, C, bs, e, _⟩ => by subst e; rfl) fun cdv A outer s H vs Q E hr ⟨a, C, bs, e, he, ⟨X, ks⟩, k⟩ => by
    subst e
    match bs, ks with
    | [b1, b2, b3, b4, b5, b6, b7], .cons k1 (.cons k2 (.cons k3 (.cons k4 (.cons k5 (.cons k6 (.cons k7 .nil)))))) =>
    refine ⟨_, pss_cons (ps_set (i := 1) sc__law_kinds_of.nd rfl (Or.inl rfl) (pe_lst (pa_cons (pe_callB call_isX (by rfl) T.z_isinstance (by decide +kernel) (pa_cons (pv 0) (pa_cons (pe_glob rfl T.c_NoCommand.m (show RelV (.ref T.C_NoCommand) (.ref T.C_NoCommand) from rfl)) pa_nil)))
        (pa_cons (pe_callB call_isX (by rfl) T.z_isinstance (by decide +kernel) (pa_cons (pv 0) (pa_cons (pe_glob rfl T.c_NoName.m (show RelV (.ref T.C_NoName) (.ref T.C_NoName) from rfl)) pa_nil)))
        (pa_cons (pe_callB call_isX (by rfl) T.z_isinstance (by decide +kernel) (pa_cons (pv 0) (pa_cons (pe_glob rfl T.c_NoText.m (show RelV (.ref T.C_NoText) (.ref T.C_NoText) from rfl)) pa_nil)))
        (pa_cons (pe_callB call_isX (by rfl) T.z_isinstance (by decide +kernel) (pa_cons (pv 0) (pa_cons (pe_glob rfl T.c_NotRight.m (show RelV (.ref T.C_NotRight) (.ref T.C_NotRight) from rfl)) pa_nil)))
        (pa_nil)))))))
      (pss_one (ps_ret (pe_op op_cat (pv 1) (pe_lst (pa_cons (pe_callB call_isX (by rfl) T.z_isinstance (by decide +kernel) (pa_cons (pv 0) (pa_cons (pe_glob rfl T.c_TooMany.m (show RelV (.ref T.C_TooMany) (.ref T.C_TooMany) from rfl)) pa_nil)))
        (pa_cons (pe_callB call_isX (by rfl) T.z_isinstance (by decide +kernel) (pa_cons (pv 0) (pa_cons (pe_glob rfl T.c_Wrong.m (show RelV (.ref T.C_Wrong) (.ref T.C_Wrong) from rfl)) pa_nil)))
        (pa_cons (pe_callB call_isX (by rfl) T.z_isinstance (by decide +kernel) (pa_cons (pv 0) (pa_cons (pe_glob rfl T.c_Nothing.m (show RelV (.ref T.C_Nothing) (.ref T.C_Nothing) from rfl)) pa_nil)))
        (pa_nil)))))))), ?_⟩
    refine ⟨.ref a, rfl, a, C, .ref T.C_NoCommand, .ref T.C_NoCommand, b1, rfl, he, X, .own _, k1, ?_⟩
    refine ⟨.ref a, rfl, a, C, .ref T.C_NoName, .ref T.C_NoName, b2, rfl, he, X, .own _, k2, ?_⟩
    refine ⟨.ref a, rfl, a, C, .ref T.C_NoText, .ref T.C_NoText, b3, rfl, he, X, .own _, k3, ?_⟩
    refine ⟨.ref a, rfl, a, C, .ref T.C_NotRight, .ref T.C_NotRight, b4, rfl, he, X, .own _, k4, ?_⟩
    refine ⟨le_line (by simp), fun l hl => ⟨.ref l, rfl, ?_⟩⟩
    have he2 := he.up (up_keep (o := .lst [V.bl b1, .bl b2, .bl b3, .bl b4]) hl)
    refine ⟨.ref a, rfl, a, C, .ref T.C_TooMany, .ref T.C_TooMany, b5, rfl, he2, X, .own _, k5, ?_⟩
    refine ⟨.ref a, rfl, a, C, .ref T.C_Wrong, .ref T.C_Wrong, b6, rfl, he2, X, .own _, k6, ?_⟩
    refine ⟨.ref a, rfl, a, C, .ref T.C_Nothing, .ref T.C_Nothing, b7, rfl, he2, X, .own _, k7, ?_⟩
    refine ⟨le_line (by simp), fun l2 hl2 => ⟨l, l2, _, _, rfl, rfl, up_keep hl2 _ _ upd_same, upd_same, ?_, fun q hq => ?_⟩⟩
    · first | exact le_line (by simp) | exact ⟨le_line (by simp), le_line (by simp)⟩
    have s := (up_keep (o := .lst [V.bl b1, .bl b2, .bl b3, .bl b4]) hl).trans ((up_keep (o := .lst [V.bl b5, .bl b6, .bl b7]) hl2).trans (up_keep (o := .lst [V.bl b1, .bl b2, .bl b3, .bl b4, .bl b5, .bl b6, .bl b7]) hq))
    exact k q _ s (((up_keep hl).trans (up_keep hl2)).free hq) upd_same
end
end LW
set_option Elab.async false
set_option linter.all false
set_option maxRecDepth 100000
set_option maxHeartbeats 1000000
namespace LW
open PySem PySem.Spec PyProof.Rows L2 DL
/-! ### _law_alike, of two lists that hold the same things -/
def spSameL (K : KW) : Sp := fun vs H Q _ => ∃ (F : Hp) (a b : Addr) (xs : List V) (ds : List PyData), vs = [.ref a, .ref b] ∧ Same F H ∧ H a = some (.lst xs) ∧ H b = some (.lst xs) ∧ F a = none ∧ F b = none ∧ a ≠ b ∧ xs.length ≤ 1000 ∧
  (∀ v ∈ xs, FlatV v) ∧ IsAll K F xs ds ∧ Shows (.list ds) ∧ ∀ F' H', Post F F' H H' none [] → Q (.bl true) H'
theorem flat_is {K : KW} {F : Hp} {v : V} {d : PyData} (h : Is K F v d) : FlatV v := by
  cases h <;> trivial
theorem flat_all {K : KW} {F : Hp} : ∀ {vs : List V} {ds : List PyData}, IsAll K F vs ds → ∀ v ∈ vs, FlatV v
  | _, _, .nil, v, h => nomatch h
  | _, _, .cons a t, v, h => by
    rcases List.mem_cons.mp h with e | e
    · subst e; exact flat_is a
    · exact flat_all t v e
section
variable {P : Program} {w : World} {K : PySem.W.Frag} {mg : Str → Option Value} {base : Heap}
theorem ok_same (T : Tops K mg) : FnG P w K mg base CX0 1 T.a__law_alike T.d__law_alike ["found", "due"] (spSameL ⟨K, w⟩) :=
  fun_g (k := 0) T.f__law_alike sc__law_alike (fun vs H Q E ⟨F, a, b, xs, ds, e, _⟩ => by subst e; rfl) fun cdv A outer s H vs Q E hr ⟨F, a, b, xs, ds, e, le, ha, hb, fa, fb, ne, hz, fl, i, hs, k⟩ => by
    subst e
    refine ⟨_, pss_one (ps_ret (pe_and (pe_cmpR (op_eqSame hr.r.units) (pv 0) (pv 1) (nomark _))
      (pe_one (pd_cmp (W := W0) (op_eqE hr.r.units) d_eq (dO (pd_callB (call_repr hr) d_repr T.z_repr (pb_cons (dp 0) (pb_nil)))) (dO (pd_callB (call_repr hr) d_repr T.z_repr (pb_cons (dp 1) (pb_nil)))))))), ?_⟩
    refine ⟨.ref a, rfl, .ref b, rfl, a, b, xs, rfl, rfl, ha, hb, fl, true, rfl, iteT ?_⟩
    have zl : xs.length ≤ sizeLine := le_line (by omega)
    have lk : ∀ (j : Nat) (z : Addr), Owns (val (L2.start N__law_alike [V.ref a, .ref b]) j) (look [.ownL ds, .ownL ds] j) z → (j = 0 ∧ z = a) ∨ (j = 1 ∧ z = b) := fun j z o => by
      match j with
      | 0 => exact .inl ⟨rfl, by have e := o.lD; cases e; rfl⟩
      | 1 => exact .inr ⟨rfl, by have e := o.lD; cases e; rfl⟩
      | j + 2 => exact (o.not rfl).elim
    have dd : (PyData.list ds).depth ≤ 100 := Nat.le_trans hs.deep (by decide)
    refine ⟨⟨H, F, none, false, []⟩, F, [.ownL ds, .ownL ds], (· = .bool true), fun _ => False, ⟨Same.refl _, le, fun _ _ e _ _ => e, fun _ h => h, fun _ _ h _ => h, fun q e => (nomatch e), rfl, fun j => ?_, fun j z o => ?_, fun j l z o1 o2 => ?_⟩, ?_, fun F' H' v d S' s' i' q => ?_, fun _ _ _ _ _ _ _ z => z.elim⟩
    · match j with
      | 0 => exact ⟨a, xs, rfl, ha, zl, i⟩
      | 1 => exact ⟨b, xs, rfl, hb, zl, i⟩
      | j + 2 => trivial
    · rcases lk j z o with ⟨_, e⟩ | ⟨_, e⟩
      · subst e; exact ⟨fa, fun z => (nomatch z), fun q e => (nomatch e)⟩
      · subst e; exact ⟨fb, fun z => (nomatch z), fun q e => (nomatch e)⟩
    · rcases lk j z o1 with ⟨e1, e2⟩ | ⟨e1, e2⟩ <;> rcases lk l z o2 with ⟨e3, e4⟩ | ⟨e3, e4⟩
      · rw [e1, e3]
      · exact absurd (e2.symm.trans e4) ne
      · exact absurd (e4.symm.trans e2) ne
      · rw [e1, e3]
    · refine ⟨hs.ok, dd, hs.len, hs.ok, dd, hs.len, eqOk_str _ _, ?_⟩
      rw [eqv_str, beq_self_eq_true]
    · subst q
      cases i'
      exact k F' H' (sd_post S')
end
end LW
set_option Elab.async false
set_option linter.all false
set_option maxRecDepth 100000
set_option maxHeartbeats 2000000
namespace LW
open PySem PySem.Spec PyProof.Rows L2 DL
/-! ### the law -/
/-- where a turn stands -/
structure Base (K : KW) (F H : Hp) (p : Bag) (σ : L2.St) : Prop where
  src : Src K F H p
  len : σ.length = 10
  bag : σ[1]? = some (some (.ref p.1))
/-- the drawn value: still data that is no list, or a list that is held -/
inductive OneV (K : KW) (F H : Hp) (p : Bag) (v : V) : Prop
  | d {x : PyData} : Is K F v x → isList x = false → Fit 3 200 x → OneV K F H p v
  | l {a : Addr} {xs : List V} {ds : List PyData} : v = .ref a → a ≠ p.1 ∧ a ≠ p.2 → F a = none → H a = some (.lst xs) → IsAll K F xs ds → ds.length ≤ 1 → (∀ x ∈ ds, Fit 4 500 x) → OneV K F H p v
theorem held {F F' H H' : Hp} {p : Bag} {a : Addr} {o : HO} (P : Post F F' H H' (some p) []) (h : H a = some o) (f : F a = none) (nb : a ≠ p.1 ∧ a ≠ p.2) : F' a = none ∧ H' a = some o :=
  ⟨P.still a (by rw [h]; nofun) f (by simp), P.keep a o h (fun q e => by cases e; exact nb) (by simp)⟩
theorem Src.post {K : KW} {F F' H H' : Hp} {p : Bag} (S : Src K F H p) (P : Post F F' H H' none []) : Src K F' H' p := ⟨P.le, bag_post S.bag P⟩
theorem upd_still {F : Hp} {a b : Addr} {o : HO} (h : F b = none) (ne : b ≠ a) : upd F a o b = none := by rw [upd_ne ne]; exact h
theorem fit_ds {ds : List PyData} (h : okB (.l ds) = true) : ds.length ≤ 1 ∧ (∀ x ∈ ds, Fit 3 200 x) ∧ Fit 3 200 (.list ds) := by
  simp only [okB, Bool.and_eq_true, decide_eq_true_eq] at h
  exact ⟨h.1.2, fun x hx => fit_of (List.all_eq_true.mp h.2 x hx), fit_of h.1.1⟩
theorem fit_d {x : PyData} (h : okB (.d x) = true) : isList x = false ∧ Fit 3 200 x := by
  simp only [okB, Bool.and_eq_true, Bool.not_eq_true'] at h
  exact ⟨h.1, fit_of h.2⟩
/-- what is drawn becomes still -/
theorem odd_still {K : KW} {F H H0 : Hp} {p : Bag} {v : V} (S : Src K F H p) (n1 : H0 p.1 ≠ none) (n2 : H0 p.2 ≠ none) (h : OddV K F H H0 v) : ∃ F' d, Src K F' H p ∧ Same F F' ∧ Is K F' v d ∧ Fit 4 500 d ∧ ∀ b, H0 b ≠ none → F b = none → F' b = none := by
  obtain ⟨s, h, ok⟩ := h
  cases s with
  | d x =>
    exact ⟨F, x, S, Same.refl _, h, (fit_d ok).2.mono (by decide) (by decide), fun b _ f => f⟩
  | l ds =>
    obtain ⟨a, ys, rfl, h0, f, ha, i⟩ := h
    obtain ⟨z, _, ft⟩ := fit_ds ok
    have nb : a ≠ p.1 ∧ a ≠ p.2 := ⟨fun e => n1 (by rw [← e]; exact h0), fun e => n2 (by rw [← e]; exact h0)⟩
    refine ⟨upd F a (.lst ys), .list ds, S.freeze f nb ha, up_keep f, .lst upd_same (le_line (by rw [i.length]; omega)) (i.up (up_keep f)), ft.mono (by decide) (by decide), fun b hb fb => upd_still fb fun e => hb (by rw [e]; exact h0)⟩
theorem paired_at {α β : Type} {R : α → β → Prop} : ∀ {xs : List α} {ys : List β} {i : Nat} {x : α}, Paired R xs ys → xs[i]? = some x → ∃ y, ys[i]? = some y ∧ R x y
  | _, _, i, x, .nil, e => by simp at e
  | _, _, 0, x, .cons r t, e => by
    simp at e; subst e
    exact ⟨_, rfl, r⟩
  | _, _, i + 1, x, .cons r t, e => by
    obtain ⟨y, h1, h2⟩ := paired_at (i := i) (x := x) t (by simpa using e)
    exact ⟨y, by simpa using h1, h2⟩
theorem sd_at {K : KW} {F H : Hp} {p : Bag} {σ : L2.St} {i : Int} (S : Src K F H p) (hl : σ.length = 10) (h1 : val σ 1 = some (.ref p.1)) (h7 : val σ 7 = some (.int i)) :
    Sd K ⟨H, F, some p, false, []⟩ F H σ [.undef, .bag, .undef, .undef, .undef, .undef, .undef, .data (.int i), .undef, .undef] := by
  have no : ∀ (j : Nat) (b : Addr), ¬ Owns (val σ j) (look [.undef, .bag, .undef, .undef, .undef, .undef, .undef, .data (.int i), .undef, .undef] j) b := fun j b o => by
    match j with
    | 0 => exact o.not rfl
    | 1 => exact o.bag
    | 2 => exact o.not rfl
    | 3 => exact o.not rfl
    | 4 => exact o.not rfl
    | 5 => exact o.not rfl
    | 6 => exact o.not rfl
    | 7 => exact o.not rfl
    | 8 => exact o.not rfl
    | 9 => exact o.not rfl
    | j + 10 => exact o.not rfl
  refine ⟨Same.refl _, S.le, fun _ _ e _ _ => e, fun _ h => h, fun _ _ h _ => h, fun q e => by cases e; exact S.bag, hl.symm, fun j => ?_, fun j b o => (no j b o).elim, fun j k b o _ => (no j b o).elim⟩
  match j with
  | 0 => trivial
  | 1 => exact ⟨p, rfl, h1⟩
  | 2 => trivial
  | 3 => trivial
  | 4 => trivial
  | 5 => trivial
  | 6 => trivial
  | 7 => exact ⟨_, h7, .int i⟩
  | 8 => trivial
  | 9 => trivial
  | j + 10 => trivial
def r1 (K : KW) : TS := fun D σ H => ∃ F p, Base K F H p σ ∧ ∀ F' H' v, Src K F' H' p → OneV K F' H' p v → D.nx (σ.set 3 (some v)) H'
section
variable {K : PySem.W.Frag} {mg : Str → Option Value}
def r2 (T : Tops K mg) : TS := fun D σ H => ∃ v, σ[3]? = some (some v) ∧ ∀ (H' : Hp) (lE lF : Addr) (as : List Addr), Same H H' → H' lE = some (.lst (as.map V.ref)) → H' lF = some (.lst [v, v, v, v, v, v]) → H lE = none → H lF = none → Paired (ErrAt H') as T.cls →
  D.nx ((σ.set 5 (some (.ref lE))).set 6 (some (.ref lF))) H'
def r3 (w : World) (T : Tops K mg) : TS := fun D σ H => ∃ F p lE as, Base ⟨K, w⟩ F H p σ ∧ σ[5]? = some (some (.ref lE)) ∧ H lE = some (.lst (as.map V.ref)) ∧ (lE ≠ p.1 ∧ lE ≠ p.2) ∧ Paired (ErrAt H) as T.cls ∧
  ∀ (F' H' : Hp) (σ' : L2.St), Post F F' H H' (some p) [] → Src ⟨K, w⟩ F' H' p → σ'.length = σ.length → (∀ j, j ≠ 7 → j ≠ 8 → σ'[j]? = σ[j]?) → D.nx σ' H'
end
theorem errs_at {K : PySem.W.Frag} {mg : Str → Option Value} (T : Tops K mg) : ∀ (i : Nat) (C : Addr), T.cls[i]? = some C → i < 7 ∧ ExcC K C ∧ Kinds T C ((List.range 7).map fun k => k == i) ∧ PySem.W.kitOne K (.ref C) (.ref T.C_MixedError) = some true ∧ PySem.W.kitOne K (.ref C) (.type "ValueError") = some true
  | 0, C, h => by
    cases h
    exact ⟨by decide, T.c_NoCommand.e, ⟨T.c_NoCommand.e, .cons T.y_NoCommand_NoCommand (.cons T.y_NoCommand_NoName (.cons T.y_NoCommand_NoText (.cons T.y_NoCommand_NotRight (.cons T.y_NoCommand_TooMany (.cons T.y_NoCommand_Wrong (.cons T.y_NoCommand_Nothing (.nil)))))))⟩, T.y_NoCommand_MixedError, T.y_NoCommand_ValueError⟩
  | 1, C, h => by
    cases h
    exact ⟨by decide, T.c_NoName.e, ⟨T.c_NoName.e, .cons T.y_NoName_NoCommand (.cons T.y_NoName_NoName (.cons T.y_NoName_NoText (.cons T.y_NoName_NotRight (.cons T.y_NoName_TooMany (.cons T.y_NoName_Wrong (.cons T.y_NoName_Nothing (.nil)))))))⟩, T.y_NoName_MixedError, T.y_NoName_ValueError⟩
  | 2, C, h => by
    cases h
    exact ⟨by decide, T.c_NoText.e, ⟨T.c_NoText.e, .cons T.y_NoText_NoCommand (.cons T.y_NoText_NoName (.cons T.y_NoText_NoText (.cons T.y_NoText_NotRight (.cons T.y_NoText_TooMany (.cons T.y_NoText_Wrong (.cons T.y_NoText_Nothing (.nil)))))))⟩, T.y_NoText_MixedError, T.y_NoText_ValueError⟩
  | 3, C, h => by
    cases h
    exact ⟨by decide, T.c_NotRight.e, ⟨T.c_NotRight.e, .cons T.y_NotRight_NoCommand (.cons T.y_NotRight_NoName (.cons T.y_NotRight_NoText (.cons T.y_NotRight_NotRight (.cons T.y_NotRight_TooMany (.cons T.y_NotRight_Wrong (.cons T.y_NotRight_Nothing (.nil)))))))⟩, T.y_NotRight_MixedError, T.y_NotRight_ValueError⟩
  | 4, C, h => by
    cases h
    exact ⟨by decide, T.c_TooMany.e, ⟨T.c_TooMany.e, .cons T.y_TooMany_NoCommand (.cons T.y_TooMany_NoName (.cons T.y_TooMany_NoText (.cons T.y_TooMany_NotRight (.cons T.y_TooMany_TooMany (.cons T.y_TooMany_Wrong (.cons T.y_TooMany_Nothing (.nil)))))))⟩, T.y_TooMany_MixedError, T.y_TooMany_ValueError⟩
  | 5, C, h => by
    cases h
    exact ⟨by decide, T.c_Wrong.e, ⟨T.c_Wrong.e, .cons T.y_Wrong_NoCommand (.cons T.y_Wrong_NoName (.cons T.y_Wrong_NoText (.cons T.y_Wrong_NotRight (.cons T.y_Wrong_TooMany (.cons T.y_Wrong_Wrong (.cons T.y_Wrong_Nothing (.nil)))))))⟩, T.y_Wrong_MixedError, T.y_Wrong_ValueError⟩
  | 6, C, h => by
    cases h
    exact ⟨by decide, T.c_Nothing.e, ⟨T.c_Nothing.e, .cons T.y_Nothing_NoCommand (.cons T.y_Nothing_NoName (.cons T.y_Nothing_NoText (.cons T.y_Nothing_NotRight (.cons T.y_Nothing_TooMany (.cons T.y_Nothing_Wrong (.cons T.y_Nothing_Nothing (.nil)))))))⟩, T.y_Nothing_MixedError, T.y_Nothing_ValueError⟩
  | n + 7, C, h => by simp [Tops.cls] at h
theorem kinds_base {K : PySem.W.Frag} {mg : Str → Option Value} (T : Tops K mg) : Kinds T T.C_MixedError [false, false, false, false, false, false, false] := ⟨T.c_MixedError.e, .cons T.y_MixedError_NoCommand (.cons T.y_MixedError_NoName (.cons T.y_MixedError_NoText (.cons T.y_MixedError_NotRight (.cons T.y_MixedError_TooMany (.cons T.y_MixedError_Wrong (.cons T.y_MixedError_Nothing (.nil)))))))⟩
theorem plain_bools : ∀ bs : List Bool, PyData.plainAll (bs.map PyData.bool) = true
  | [] => rfl
  | b :: bs => by simp [PyData.plainAll, PyData.plain, plain_bools bs]
theorem fit_bools (bs : List Bool) (h : bs.length ≤ 7) : Fit 1 (7 * 14) (.list (bs.map PyData.bool)) :=
  fit_list (k := 0) (n := 13) (fun d hd => by
    obtain ⟨b, _, rfl⟩ := List.mem_map.mp hd
    cases b <;> exact fit_of (by decide +kernel)) (by rw [List.length_map]; exact h)
theorem bools_is {K : KW} {F : Hp} : ∀ bs : List Bool, IsAll K F (bs.map V.bl) (bs.map PyData.bool)
  | [] => .nil
  | b :: bs => .cons (.bl b) (bools_is bs)
theorem ErrAt.post {K : KW} {F F' H H' : Hp} {p : Bag} {a C : Addr} (S : Src K F H p) (P : Post F F' H H' (some p) []) (h : ErrAt H a C) : ErrAt H' a C := by
  have lst1 : ∃ xs, H p.1 = some (.lst xs) := by
    obtain ⟨_, _, x, y, z, c, cells, t, e, _⟩ := S.bag
    exact ⟨_, e⟩
  have lst2 : ∃ xs, H p.2 = some (.lst xs) := by
    obtain ⟨_, _, x, y, z, c, cells, t, e, _, _, _, _, _, _, ⟨_, q⟩ | ⟨_, _, ws, _, q, _⟩⟩ := S.bag
    · rw [q]; exact ⟨_, e⟩
    · exact ⟨_, q⟩
  have nb : ∀ {b : Addr} {o : HO}, H b = some o → (∀ xs, o ≠ .lst xs) → H' b = some o := fun {b o} e n => P.keep b o e (fun q z => by
    cases z
    obtain ⟨xs, e1⟩ := lst1
    obtain ⟨ys, e2⟩ := lst2
    exact ⟨fun y => n xs (by rw [y, e1] at e; exact (Option.some.inj e).symm), fun y => n ys (by rw [y, e2] at e; exact (Option.some.inj e).symm)⟩) (by simp)
  cases h with
  | own h1 h2 => exact .own (nb h1 fun xs z => by have z' : HO.ext _ = HO.lst xs := z; cases z') (nb h2 fun xs z => by have z' : HO.ext _ = HO.lst xs := z; cases z')
  | pl h => exact .pl (nb h fun xs z => by have z' : HO.ext _ = HO.lst xs := z; cases z')
theorem for_enumL {K : PySem.W.Frag} {a : Addr} {xs : List V} {g : TG} {tb : TS} {D : Ends} {σ : L2.St} {H : Hp} (Pv : Nat → L2.St → Hp → Prop) (h0 : Pv 0 σ H) (hl : ∀ i σ H, Pv i σ H → SqL K H a xs)
    (hs : ∀ i x T σ H, xs[i]? = some x → H T = none → Pv i σ H → g (.ref T) σ (upd H T (.tup [.int (i : Nat), x])) fun σ2 H2 => tb { D with nx := Pv (i + 1), ct := Pv (i + 1), bk := D.nx } σ2 H2) (hd : ∀ σ H, Pv xs.length σ H → D.nx σ H) :
    ∃ W : Nat → Nat → L2.St → Hp → Prop, (∃ m, W 0 m σ H) ∧ ∀ i m σ H, W i m σ H →
      ((Ite K a).stop i H ∧ D.nx σ H) ∨ ((Ite K a).go i H ∧ ∃ N : L2.St → Hp → Prop, (∀ σ' H', N σ' H' → ∃ m', m' < m ∧ W (i + 1) m' σ' H') ∧ ∀ x H', (Ite K a).yld i H x H' → g x σ H' fun σ2 H2 => tb { D with nx := N, ct := N, bk := D.nx } σ2 H2) := by
  refine ⟨fun i m σ H => m = xs.length - i ∧ i ≤ xs.length ∧ Pv i σ H, ⟨xs.length, by simp, Nat.zero_le _, h0⟩, ?_⟩
  rintro i m σ H ⟨rfl, hi, p⟩
  have q := hl i σ H p
  by_cases hlt : i < xs.length
  · refine .inr ⟨⟨xs, xs[i], q, by simp [hlt]⟩, Pv (i + 1), fun σ' H' p' => ⟨xs.length - (i + 1), by omega, rfl, hlt, p'⟩, fun x H' y => ?_⟩
    obtain ⟨T, z, rfl, hT, rfl, hz⟩ := y
    exact hs i z T σ H (hz xs q) hT p
  · have e : i = xs.length := by omega
    subst e
    exact .inl ⟨⟨xs, q, Nat.le_refl _⟩, hd σ H p⟩
def r4 (K : KW) : TS := fun D σ H => ∃ F p v, Base K F H p σ ∧ σ[3]? = some (some v) ∧
  ((∃ x, Is K F v x ∧ isList x = false ∧ D.nx σ H) ∨ ∃ a xs ds, v = .ref a ∧ (a ≠ p.1 ∧ a ≠ p.2) ∧ F a = none ∧ H a = some (.lst xs) ∧ IsAll K F xs ds ∧ ds.length ≤ 1 ∧ (∀ x ∈ ds, Fit 4 500 x) ∧
    ∀ F' H' d, Src K F' H' p → Is K F' v d → Fit 6 5000 d → (∀ b o, H b = some o → b ≠ a → F b = none → b ≠ p.1 → b ≠ p.2 → H' b = some o ∧ F' b = none) → D.nx σ H')
def r5 (K : KW) : TS := fun D σ H => ∃ F p v d lF, Base K F H p σ ∧ σ[3]? = some (some v) ∧ σ[6]? = some (some (.ref lF)) ∧ Is K F v d ∧ Fit 6 5000 d ∧ H lF = some (.lst [v, v, v, v, v, v]) ∧ F lF = none ∧ ∀ F' H', Src K F' H' p → D.nx σ H'
def r6 (K : KW) : TS := fun D σ H => ∃ F p, Base K F H p σ ∧ ∀ F' H' σ', Src K F' H' p → σ'.length = σ.length → σ'[1]? = σ[1]? → D.nx σ' H'
section
variable {P : Program} {w : World} {K : PySem.W.Frag} {mg : Str → Option Value} {base : Heap}

theorem ok_law (T : Tops K mg) : FnG P w K mg base CX0 4 T.a_law T.d_law ["script"] (spLaw K) :=
  fun_g (k := 3) T.f_law sc_law (fun vs H Q E ⟨a, ns, e, _⟩ => by subst e; rfl) fun cdv A outer s H0 vs Q0 E hr ⟨a, ns, e, h1, h2, h3⟩ => by
    subst e
    refine ⟨_, pss_cons (ps_set (i := 1) sc_law.nd rfl (Or.inl rfl) (pe_callG ((ok__law_bag T).mono (by decide)) hr rfl T.m__law_bag T.f__law_bag.kp T.b__law_bag (pa_cons (pv 0) pa_nil)))
      (pss_cons (ps_for PassesOwn.never rfl (pi_range1 rfl T.z_range (pa_cons pe_int pa_nil)) (pg_name (i := 2) sc_law.nd rfl (Or.inl rfl))
        (pss_cons (PS.weak (t := _) (t' := r1 ⟨K, w⟩
) (ps_asg (pe_callG ((ok__law_some T).mono (by decide)) hr rfl T.m__law_some T.f__law_some.kp T.b__law_some (pa_cons (pv 1) (pa_cons (pe_lst (pa_cons (pe_lst (pa_cons pe_int pa_nil)) (pa_cons (pe_lst pa_nil) (pa_cons (pe_lst (pa_cons (pe_callG ((ok__law_odd T).mono (by decide)) hr rfl T.m__law_odd T.f__law_odd.kp T.b__law_odd (pa_cons (pv 1) pa_nil)) pa_nil)) (pa_cons (pe_callG ((ok__law_odd T).mono (by decide)) hr rfl T.m__law_odd T.f__law_odd.kp T.b__law_odd (pa_cons (pv 1) pa_nil)) pa_nil))))) pa_nil))) (pg_name (i := 3) sc_law.nd rfl (Or.inl rfl)))
      (fun D σ H ⟨F, p, B, k⟩ => by
        refine ⟨.ref p.1, B.bag, le_line (by simp), fun l0 n0 => ⟨le_line (by simp), fun l1 n1 => ⟨.ref p.1, B.bag, F, p, rfl, (B.src.lay n0).lay n1, fun F2 H3 v2 P2 S2 o2 => ⟨le_line (by simp), fun l2 n2 => ?_⟩⟩⟩⟩
        have S0 : Src ⟨K, w⟩ F _ p := B.src.lay (o := .lst [V.int 1]) n0
        have S1 : Src ⟨K, w⟩ F _ p := S0.lay (o := .lst []) n1
        obtain ⟨F3, d2, S3, s3, i3, ft3, st3⟩ := odd_still (K := ⟨K, w⟩) S2 S1.bag.there.1 S1.bag.there.2 o2
        have P3 : Post F F3 _ H3 (some p) [] := ⟨P2.f.trans s3, S3.le, P2.keep, P2.alive, fun a h1 h2 hl => st3 a h1 (P2.still a h1 h2 hl)⟩
        refine ⟨.ref p.1, B.bag, F3, p, rfl, S3.lay n2, fun F5 H5 v3 P5 S5 o5 => ⟨le_line (by simp), fun L nL => ⟨F5, p, L, _, rfl, S5.lay nL, upd_same, S5.ne nL p rfl, by simp, by simp, fun F' H' i v P7 S7 hv => ?_⟩⟩⟩
        have S4 : Src ⟨K, w⟩ F3 _ p := S3.lay (o := .lst [v2]) n2
        have Q6 : Post F5 F' H5 H' (some p) [] := post_trans (post_lay (o := .lst [V.ref l0, .ref l1, .ref l2, v3]) (bg := some p) S5.le nL) P7
        have Q4 : Post F3 F' _ H' (some p) [] := post_trans P5 Q6
        have Q3 : Post F3 F' H3 H' (some p) [] := post_trans (post_lay (o := .lst [v2]) (bg := some p) S3.le n2) Q4
        have Q1 : Post F F' _ H' (some p) [] := post_trans P3 Q3
        have Q0 : Post F F' _ H' (some p) [] := post_trans (post_lay (o := .lst []) (bg := some p) S0.le n1) Q1
        have b0 := B.src.ne n0 p rfl
        have b1 := S0.ne n1 p rfl
        have b2 := S3.ne n2 p rfl
        obtain ⟨f0, h0⟩ := held Q0 upd_same (B.src.le.free n0) b0
        obtain ⟨f1, h1⟩ := held Q1 upd_same (S0.le.free n1) b1
        obtain ⟨f2, h2⟩ := held Q4 upd_same (S3.le.free n2) b2
        match i, hv with
        | 0, hv =>
          cases hv
          exact k F' H' _ S7 (.l rfl b0 f0 h0 (.cons (.int 1) .nil) (by simp) fun x hx => by rw [List.mem_singleton.mp hx]; exact fit_of (by decide +kernel))
        | 1, hv =>
          cases hv
          exact k F' H' _ S7 (.l rfl b1 f1 h1 .nil (by simp) fun x hx => nomatch hx)
        | 2, hv =>
          cases hv
          exact k F' H' _ S7 (.l rfl b2 f2 h2 (.cons (i3.up Q4.f) .nil) (by simp) fun x hx => by rw [List.mem_singleton.mp hx]; exact ft3)
        | 3, hv =>
          cases hv
          obtain ⟨s, h, ok⟩ := o5
          have h := h.post Q6 S4.bag.there.1 S4.bag.there.2
          cases s with
          | d x => exact k F' H' _ S7 (.d h (fit_d ok).1 (fit_d ok).2)
          | l ds =>
            obtain ⟨a, ys, rfl, hn, fa, ha, ii⟩ := h
            obtain ⟨z1, z2, _⟩ := fit_ds ok
            exact k F' H' _ S7 (.l rfl (S4.ne hn p rfl) fa ha ii z1 fun x hx => (z2 x hx).mono (by decide) (by decide))
        | i + 4, hv => simp at hv
))
        (pss_cons (PS.weak (t := _) (t' := r2 T
) (ps_asg (pe_callG ((ok__law_made T).mono (by decide)) hr rfl T.m__law_made T.f__law_made.kp T.b__law_made (pa_cons (pv 3) pa_nil)) (pg_tup rfl (pgs_cons (pg_name (i := 5) sc_law.nd rfl (Or.inl rfl)) (pgs_cons (pg_name (i := 6) sc_law.nd rfl (Or.inl rfl)) pgs_nil))))
      (fun D σ H ⟨v, hv, k⟩ => ⟨v, hv, v, rfl, fun t lE lF as o H' s ht hE hF nE nF e => ⟨t, _, rfl, .inl (.inr ⟨o, ht⟩), rfl, _, _, rfl, _, _, rfl, rfl, k H' lE lF as s hE hF nE nF e⟩⟩
))
        (pss_cons (PS.weak (t := _) (t' := r3 w T
) (ps_for PassesOwn.never rfl (pi_enum rfl T.z_enumerate (pa_cons (pv 5) pa_nil)) (pg_tup rfl (pgs_cons (pg_name (i := 7) sc_law.nd rfl (Or.inr rfl)) (pgs_cons (pg_name (i := 8) sc_law.nd rfl (Or.inl rfl)) pgs_nil))) (pss_cons (ps_if (pt_not (pt_val (pe_callG ((ok__law_alike T).mono (by decide)) hr rfl T.m__law_alike T.f__law_alike.kp T.b__law_alike (pa_cons (pe_callG ((ok__law_kinds_of T).mono (by decide)) hr rfl T.m__law_kinds_of T.f__law_kinds_of.kp T.b__law_kinds_of (pa_cons (pv 8) pa_nil)) (pa_cons (dF (W := W0) (pf_lc (own := [("kind", 9)]) rfl sc_law.nd (blkOk_by (own := [("kind", 9)]) (N := N_law) (sc := defScope s_law) (by decide +kernel)) (pi_range1D T.z_range (pb_cons (dO (pd_int)) (pb_nil))) (fun _ _ _ _ _ => pg_nameD [9] 9 sc_law.nd) (fun _ _ _ _ _ => pts_nilD) (fun _ _ _ _ _ => pd_cmp (op_eqE hr.r.units) d_eq (dp 9) (dp 7)))) pa_nil))))) (pss_one (ps_ret pe_bl)) pss_nil)
        (pss_one (ps_if (PW.pt (pw_or (pt_not (pt_val (pe_callB call_isX (by rfl) T.z_isinstance (by decide +kernel) (pa_cons (pv 8) (pa_cons (pe_glob rfl T.c_MixedError.m (show RelV (.ref T.C_MixedError) (.ref T.C_MixedError) from rfl)) pa_nil))))) (pw_or1 (pt_not (pt_val (pe_callB call_isX (by rfl) T.z_isinstance (by decide +kernel) (pa_cons (pv 8) (pa_cons (pe_bltn rfl T.z_ValueError (by decide +kernel) (show RelV (.ty "ValueError") (.type "ValueError") from rfl)) pa_nil)))))))) (pss_one (ps_ret pe_bl)) pss_nil))))
      (fun D σ H ⟨F, p, lE, as, B, h5, hE, nE, es, k⟩ => by
        refine ⟨.ref lE, h5, lE, as.map V.ref, rfl, .of hE, for_enumL (K := K) (a := lE) (xs := as.map V.ref)
          (fun i σ' H' => ∃ F', Post F F' H H' (some p) [] ∧ Src ⟨K, w⟩ F' H' p ∧ σ'.length = σ.length ∧ ∀ j, j ≠ 7 → j ≠ 8 → σ'[j]? = σ[j]?)
          ⟨F, post_refl B.src.le, B.src, rfl, fun _ _ _ => rfl⟩ (fun i σ' H' ⟨F', P', S', _⟩ => .of (P'.keep lE _ hE (fun q e => by cases e; exact nE) (by simp))) (fun i x TT σ' H' hx hT ⟨F', P', S', hl, hj⟩ => ?_) fun σ' H' ⟨F', P', S', hl, hj⟩ => k F' H' σ' P' S' hl hj⟩
        obtain ⟨a, ha, C, hC, he⟩ : ∃ a, x = .ref a ∧ ∃ C, T.cls[i]? = some C ∧ ErrAt H a C := by
          rw [List.getElem?_map] at hx
          cases e : as[i]? with
          | none => rw [e] at hx; cases hx
          | some a =>
            rw [e] at hx
            obtain ⟨C, h1, h2⟩ := paired_at es e
            exact ⟨a, by cases hx; rfl, C, h1, h2⟩
        subst ha
        obtain ⟨i7, eC, kC, yM, yV⟩ := errs_at T i C hC
        have he1 : ErrAt H' a C := ErrAt.post B.src P' he
        have len : σ'.length = 10 := hl.trans B.len
        have hbag : σ'[1]? = some (some (.ref p.1)) := (hj 1 (by decide) (by decide)).trans B.bag
        have S1 : Src ⟨K, w⟩ F' _ p := S'.lay (o := .tup [.int (i : Nat), .ref a]) hT
        have P1 : Post F F' H _ (some p) [] := post_trans P' (post_lay (o := .tup [.int (i : Nat), .ref a]) (bg := some p) S'.le hT)
        have he2 : ErrAt _ a C := he1.up (up_keep (o := .tup [.int (i : Nat), .ref a]) hT)
        have g8 : ((σ'.set 7 (some (.int (i : Nat)))).set 8 (some (.ref a)))[8]? = some (some (.ref a)) := by rw [List.getElem?_set_self (by rw [List.length_set, len]; decide)]
        have g7 : val ((σ'.set 7 (some (.int (i : Nat)))).set 8 (some (.ref a))) 7 = some (.int (i : Nat)) := by
          unfold val; rw [List.getElem?_set_ne (by decide), List.getElem?_set_self (by rw [len]; decide)]; rfl
        refine ⟨TT, _, rfl, .inl (.inl upd_same), rfl, _, _, rfl, _, _, rfl, rfl, ?_⟩
        refine ⟨.ref a, g8, a, C, _, rfl, he2, kC, fun l H3 s3 n3 h3 => ?_⟩
        have fl : F' l = none := S1.le.free n3
        have S3 : Src ⟨K, w⟩ F' H3 p := ⟨S1.le.trans s3, S1.bag.next (Same.refl _) S1.bag.1 S1.bag.2.1 (fun _ e => s3 _ _ e) fun _ e => s3 _ _ e⟩
        have S4 : Src ⟨K, w⟩ _ H3 p := S3.freeze fl (S1.ne n3 p rfl) h3
        have P3 : Post F' _ _ H3 (some p) [] := ⟨up_keep (o := .lst (((List.range 7).map fun k => k == i).map V.bl)) fl, S4.le, fun b o e _ _ => s3 b o e, fun b hb => up_alive s3 hb, fun b hb fb _ => upd_still fb fun e => hb (by rw [e]; exact n3)⟩
        have he3 : ErrAt H3 a C := he2.up s3
        have len2 : ((σ'.set 7 (some (.int (i : Nat)))).set 8 (some (.ref a))).length = 10 := by rw [List.length_set, List.length_set]; exact len
        have g1 : val ((σ'.set 7 (some (.int (i : Nat)))).set 8 (some (.ref a))) 1 = some (.ref p.1) := by
          unfold val; rw [List.getElem?_set_ne (by decide), List.getElem?_set_ne (by decide), hbag]; rfl
        refine ⟨⟨H3, _, some p, false, []⟩, _, [.undef, .bag, .undef, .undef, .undef, .undef, .undef, .data (.int (i : Nat)), .undef, .undef], (· = .list (((List.range 7).map fun k => k == i).map PyData.bool)), fun _ => False, sd_at S4 len2 g1 g7, ⟨rfl, 7, rfl, by decide, by decide, ?_⟩, fun F4 H4 v2 d2 S' s' i2 q2 => ?_, fun _ _ _ _ _ _ _ z => z.elim⟩
        · refine lcD_map (fun d => .bool (PyData.eqv d (.int (i : Nat)))) _ (fun d hd Y hY => ?_) ?_
          · obtain ⟨k, _, rfl⟩ := List.mem_map.mp hd
            exact ⟨(by decide : 9 < 10), eqOk_int _ _, hY⟩
          · rw [List.map_map, List.map_map]
            congr 1
            refine List.map_congr_left fun k _ => ?_
            show PyData.bool (PyData.eqv (.int (k : Nat)) (.int (i : Nat))) = .bool (k == i)
            rw [PyData.eqv]
            congr 1
            by_cases h : k = i
            · subst h; simp
            · rw [beq_eq_false_iff_ne.mpr h]
              exact beq_eq_false_iff_ne.mpr fun z => h (by omega)
        subst q2
        have P4 := sd_post S'
        have S5 : Src ⟨K, w⟩ F4 H4 p := ⟨S'.le, S'.bag p rfl⟩
        have lb : (((List.range 7).map fun k => k == i)).length ≤ 7 := by rw [List.length_map, List.length_range]; exact Nat.le_refl _
        refine ⟨F4, some p, [.data (.list (((List.range 7).map fun k => k == i).map PyData.bool)), .data (.list (((List.range 7).map fun k => k == i).map PyData.bool))], (· = .bool true), _, S5.le, fun q e => by cases e; exact S5.bag,
          .cons (show Is ⟨K, w⟩ F4 (.ref l) (.list _) from (Is.lst upd_same (le_line (by rw [List.length_map]; omega)) (bools_is _)).up s') (.cons (show Is ⟨K, w⟩ F4 v2 (.list _) from i2) .nil), S_alike_same (by show PyData.plain (.list _) = true; rw [PyData.plain]; exact plain_bools _) ((fit_bools _ lb).shows (by decide) (by decide)) rfl, fun F5 H5 v d P5 B5 i5 q5 => ?_, fun _ _ _ _ _ _ _ _ z => z.elim⟩
        subst q5
        cases i5
        have he5 : ErrAt H5 a C := ErrAt.post S5 P5 (ErrAt.post S4 P4 he3)
        refine ⟨true, rfl, iteF ⟨.ref a, g8, a, C, .ref T.C_MixedError, .ref T.C_MixedError, true, rfl, he5, eC, .own _, yM, true, rfl, iteF ⟨.ref a, g8, a, C, .ty "ValueError", .type "ValueError", true, rfl, he5, eC, .ty _, yV, true, rfl, iteF ?_⟩⟩⟩
        refine ⟨F5, post_trans P1 (post_trans P3 (post_trans P4 P5)), ⟨P5.le, B5 p rfl⟩, by rw [List.length_set, List.length_set]; exact hl, fun j h7 h8 => ?_⟩
        rw [List.getElem?_set_ne (Ne.symm h8), List.getElem?_set_ne (Ne.symm h7)]
        exact hj j h7 h8
))
        (pss_cons (PS.weak (t := _) (t' := r4 ⟨K, w⟩
) (ps_if (pt_val (pe_callB call_isiZ (by rfl) T.z_isinstance (by decide +kernel) (pa_cons (pv 3) (pa_cons (pe_bltn rfl T.z_list (by decide +kernel) (show RelV (.ty "list") (.type "list") from rfl)) pa_nil))))
        (pss_one (ps_expr (pe_bm PySem.F.plainAttrs_list PySem.F.slot_list_append PySem.F.type_list_append mt_append (pv 3) (pa_cons (pe_callG ((ok__law_odd T).mono (by decide)) hr rfl T.m__law_odd T.f__law_odd.kp T.b__law_odd (pa_cons (pv 1) pa_nil)) pa_nil)))) pss_nil)
      (fun D σ H ⟨F, p, v, B, h3, o⟩ => by
        rcases o with ⟨x, hx, nl, k⟩ | ⟨a, xs, ds, ev, nb, fa, ha, i, z, ft, k⟩
        · exact ⟨v, h3, v, .ty "list", _, .type "list", false, rfl, .ty _, tyX_of B.src.le hx.o, kit_ty (by rw [isi_list x, nl]), false, rfl, iteF k⟩
        · subst ev
          refine ⟨.ref a, h3, .ref a, .ty "list", _, .type "list", true, rfl, .ty _, .inl (.base (.lst ha)), kit_ty (by decide +kernel), true, rfl, iteT ?_⟩
          refine ⟨.ref a, h3, .inl ⟨rfl, _, .of ha⟩, .ref p.1, B.bag, F, p, rfl, B.src, fun F2 H2 v2 P2 S2 o2 => ?_⟩
          obtain ⟨fa2, ha2⟩ := held P2 ha fa nb
          obtain ⟨F3, d2, S3, s3, i3, ft3, st3⟩ := odd_still (K := ⟨K, w⟩) S2 B.src.bag.there.1 B.src.bag.there.2 o2
          have al : H a ≠ none := by rw [ha]; nofun
          have fa3 : F3 a = none := st3 a al fa2
          have S4 : Src ⟨K, w⟩ F3 _ p := S3.write (o := .lst (xs ++ [v2])) fa3 nb
          have S5 : Src ⟨K, w⟩ _ _ p := S4.freeze fa3 nb upd_same
          have il : IsAll ⟨K, w⟩ F3 (xs ++ [v2]) (ds ++ [d2]) := ((i.up P2.f).up s3).append (.cons i3 .nil)
          have zz : (xs ++ [v2]).length ≤ 2 := by
            have := i.length
            rw [List.length_append, List.length_singleton]; omega
          refine ⟨a, xs, v2, rfl, rfl, ha2, Nat.lt_of_lt_of_le (show xs.length < 2 by have := i.length; omega) (le_line (by decide)), ?_⟩
          refine k _ _ (.list (ds ++ [d2])) S5 (.lst upd_same (le_line (by omega)) (il.up (up_keep fa3))) ((fit_list (k := 4) (n := 500) (L := 2) (fun x hx => ?_) (by rw [List.length_append, List.length_singleton]; omega)).mono (by decide) (by decide)) fun b o e ne f n1 n2 => ?_
          · rcases List.mem_append.mp hx with q | q
            · exact ft x q
            · rw [List.mem_singleton.mp q]; exact ft3
          · obtain ⟨g1, g2⟩ := held P2 e f ⟨n1, n2⟩
            exact ⟨by rw [upd_ne ne]; exact g2, upd_still (st3 b (by rw [e]; nofun) g1) ne⟩
))
        (pss_cons (PS.weak (t := _) (t' := r5 ⟨K, w⟩
) (ps_if (pt_not (pt_val (pe_callG ((ok_same T).mono (by decide)) hr rfl T.m__law_alike T.f__law_alike.kp T.b__law_alike (pa_cons (pv 6) (pa_cons (pe_op op_rep (pe_lst (pa_cons (pv 3) pa_nil)) pe_int) pa_nil))))) (pss_one (ps_ret pe_bl)) pss_nil)
      (fun D σ H ⟨F, p, v, d, lF, B, h3, h6, i, ft, hF, fF, k⟩ => by
        refine ⟨.ref lF, h6, v, h3, le_line (by simp), fun l hl => ⟨l, 6, _, rfl, rfl, upd_same, by decide, by decide, le_line (by simp), fun q hq => ?_⟩⟩
        have S1 : Src ⟨K, w⟩ F _ p := B.src.lay (o := .lst [v]) hl
        have S2 : Src ⟨K, w⟩ F _ p := S1.lay (o := .lst (List.replicate (6 : Int).toNat [v]).flatten) hq
        have hF1 := up_keep (o := .lst [v]) hl _ _ hF
        refine ⟨F, lF, q, [v, v, v, v, v, v], [d, d, d, d, d, d], rfl, S2.le, up_keep hq _ _ hF1, upd_same, fF, S1.le.free hq, (fun z => by rw [z, hq] at hF1; cases hF1), by simp, fun x hx => ?_, .cons i (.cons i (.cons i (.cons i (.cons i (.cons i .nil))))), ?_, fun F' H' P' => ?_⟩
        · have e : x = v := by simpa using hx
          rw [e]; exact flat_is i
        · refine (fit_list (k := 6) (n := 5000) (L := 6) (fun x hx => ?_) (by simp)).shows (by decide) (by decide)
          have e : x = d := by simpa using hx
          rw [e]; exact ft
        · exact ⟨true, rfl, iteF (k F' H' (Src.post S2 P'))⟩
))
        (pss_one (PS.weak (t := _) (t' := r6 ⟨K, w⟩
) (ps_for PassesOwn.never rfl (pi_tup (pe_tupS (pa_cons (pe_exc0 PySem.F.excBase_ValueError T.n_MixedError T.c_MixedError.m T.c_MixedError.k) (pa_cons (pe_excN PySem.F.excBase_ValueError T.n_MixedError T.c_MixedError.m T.c_MixedError.k (pa_cons pe_str pa_nil)) (pa_cons (pe_excN PySem.F.excBase_ValueError T.n_MixedError T.c_MixedError.m T.c_MixedError.k (pa_cons pe_int (pa_cons pe_int pa_nil))) pa_nil))))) (pg_name (i := 4) sc_law.nd rfl (Or.inl rfl)) (pss_one (ps_if (PW.pt (pw_or (pt_not (pt_val (pe_callB call_isX (by rfl) T.z_isinstance (by decide +kernel) (pa_cons (pv 4) (pa_cons (pe_bltn rfl T.z_ValueError (by decide +kernel) (show RelV (.ty "ValueError") (.type "ValueError") from rfl)) pa_nil))))) (pw_or1 (pt_cmpR (op_nePl hr.r.units) (pe_callG ((ok__law_kinds_of T).mono (by decide)) hr rfl T.m__law_kinds_of T.f__law_kinds_of.kp T.b__law_kinds_of (pa_cons (pv 4) pa_nil)) (pe_op op_rep (pe_lst (pa_cons pe_bl pa_nil)) pe_int) (nomark _))))) (pss_one (ps_ret pe_bl)) pss_nil)))
      (fun D σ H ⟨F, p, B, k⟩ => by
        refine ⟨(by decide : 0 ≤ 1000), fun a1 n1 => ⟨(by decide : 1 ≤ 1000), fun a2 n2 => ⟨(by decide : 2 ≤ 1000), fun a3 n3 => ⟨le_line (by simp), fun t o ht ho => ?_⟩⟩⟩⟩
        have S3 : Src ⟨K, w⟩ F _ p := ((B.src.lay (o := ExO (.ref T.C_MixedError) a1) n1).lay (o := ExO (.ref T.C_MixedError) a2) n2).lay (o := ExO (.ref T.C_MixedError) a3) n3
        have S4 : Src ⟨K, w⟩ F _ p := S3.lay (o := .frz o (.tup [.ref a1, .ref a2, .ref a3])) ht
        have u2 := up_keep (o := ExO (.ref T.C_MixedError) a2) n2
        have u3 := up_keep (o := ExO (.ref T.C_MixedError) a3) n3
        have u4 := up_keep (o := .frz o (.tup [V.ref a1, .ref a2, .ref a3])) ht
        have e1 := u4 _ _ (u3 _ _ (u2 _ _ (upd_same (H := H) (o := ExO (.ref T.C_MixedError) a1))))
        have e2 := u4 _ _ (u3 _ _ (upd_same (o := ExO (.ref T.C_MixedError) a2)))
        have e3 := u4 _ _ (upd_same (o := ExO (.ref T.C_MixedError) a3))
        refine ⟨t, rfl, ⟨_, .inl (.inr ⟨o, upd_same⟩)⟩, for_tup (xs := [.ref a1, .ref a2, .ref a3])
          (fun i σ' H' => Same _ H' ∧ σ'.length = σ.length ∧ σ'[1]? = σ[1]?) ⟨Same.refl _, rfl, rfl⟩ (fun i σ' H' _ ⟨s, _⟩ => .inl (.inr ⟨o, s _ _ upd_same⟩)) (fun i x σ' H' hx ⟨s, hl, h1⟩ => ?_) fun σ' H' ⟨s, hl, h1⟩ => k F H' σ' ⟨S4.le.trans s, S4.bag.next (Same.refl _) S4.bag.1 S4.bag.2.1 (fun _ e => s _ _ e) fun _ e => s _ _ e⟩ hl h1⟩
        obtain ⟨a, ea, he⟩ : ∃ a, x = .ref a ∧ ErrAt H' a T.C_MixedError := by
          match i, hx with
          | 0, hx => cases hx; exact ⟨a1, rfl, .pl (s _ _ e1)⟩
          | 1, hx => cases hx; exact ⟨a2, rfl, .pl (s _ _ e2)⟩
          | 2, hx => cases hx; exact ⟨a3, rfl, .pl (s _ _ e3)⟩
          | i + 3, hx => simp at hx
        subst ea
        have g4 : (σ'.set 4 (some (.ref a)))[4]? = some (some (.ref a)) := by rw [List.getElem?_set_self (by rw [hl, B.len]; decide)]
        refine ⟨.ref a, g4, a, _, .ty "ValueError", .type "ValueError", true, rfl, he, T.c_MixedError.e, .ty _, T.y_MixedError_ValueError, true, rfl, iteF ?_⟩
        refine ⟨.ref a, g4, a, _, _, rfl, he, kinds_base T, fun l H3 s3 n3 h3 => ⟨le_line (by simp), fun l2 m2 => ⟨l2, 7, _, rfl, rfl, upd_same, by decide, by decide, le_line (by simp), fun q hq => ?_⟩⟩⟩
        have v2 := up_keep (o := .lst [V.bl false]) m2
        have v3 := up_keep (o := .lst (List.replicate (7 : Int).toNat [V.bl false]).flatten) hq
        have ib := bools_is (K := ⟨K, w⟩) (F := F) [false, false, false, false, false, false, false]
        have le5 : Same F _ := ((S4.le.trans s).trans s3).trans (v2.trans v3)
        refine ⟨.list ([false, false, false, false, false, false, false].map PyData.bool), .list ([false, false, false, false, false, false, false].map PyData.bool), F, le5, .inr (.inl ⟨l, _, _, rfl, rfl, v3 _ _ (v2 _ _ h3), le_line (by simp), ib⟩), .inr (.inl ⟨q, _, _, rfl, rfl, upd_same, le_line (by simp), ib⟩), by decide +kernel, by decide +kernel, by decide +kernel, ?_⟩
        rw [SeqAt.eqv_refl_plain _ (by decide +kernel)]
        refine ⟨false, rfl, iteF ⟨s.trans (s3.trans (v2.trans v3)), by rw [List.length_set]; exact hl, by rw [List.getElem?_set_ne (by decide)]; exact h1⟩⟩
)))))))))
      (pss_one (ps_ret pe_bl))), ?_⟩
    refine ⟨.ref a, rfl, a, ns, rfl, h1, h2, fun F0 H1 p s1 s2 s3 B0 => ⟨3, rfl, by decide, by decide, for_range (lo := 0) (n := 3) (fun i σ H => ∃ F, Base ⟨K, w⟩ F H p σ) ⟨F0, ⟨s2, B0⟩, rfl, rfl⟩ (fun i σ H hi ⟨F, B⟩ => ?_) fun σ H _ => h3 H⟩⟩
    refine ⟨F, p, ⟨B.src, by rw [List.length_set]; exact B.len, by rw [List.getElem?_set_ne (by decide)]; exact B.bag⟩, fun F1 H2 v S1 o1 => ?_⟩
    refine ⟨v, by rw [List.getElem?_set_self (by rw [List.length_set, B.len]; decide)], fun H3 lE lF as u3 hE hF nE nF es => ?_⟩
    have S3 : Src ⟨K, w⟩ F1 H3 p := ⟨S1.le.trans u3, S1.bag.next (Same.refl _) S1.bag.1 S1.bag.2.1 (fun _ e => u3 _ _ e) fun _ e => u3 _ _ e⟩
    refine ⟨F1, p, lE, as, ⟨S3, by simp only [List.length_set]; exact B.len, by rw [List.getElem?_set_ne (by decide), List.getElem?_set_ne (by decide), List.getElem?_set_ne (by decide), List.getElem?_set_ne (by decide)]; exact B.bag⟩,
      by rw [List.getElem?_set_ne (by decide), List.getElem?_set_self (by simp only [List.length_set]; rw [B.len]; decide)], hE, S1.ne nE p rfl, es, fun F4 H4 σ4 P4 S4 l4 j4 => ?_⟩
    have len4 : σ4.length = 10 := by rw [l4]; simp only [List.length_set]; exact B.len
    have bag4 : σ4[1]? = some (some (.ref p.1)) := by rw [j4 1 (by decide) (by decide), List.getElem?_set_ne (by decide), List.getElem?_set_ne (by decide), List.getElem?_set_ne (by decide), List.getElem?_set_ne (by decide)]; exact B.bag
    have g3 : σ4[3]? = some (some v) := by rw [j4 3 (by decide) (by decide), List.getElem?_set_ne (by decide), List.getElem?_set_ne (by decide), List.getElem?_set_self (by rw [List.length_set, B.len]; decide)]
    have g6 : σ4[6]? = some (some (.ref lF)) := by rw [j4 6 (by decide) (by decide), List.getElem?_set_self (by simp only [List.length_set]; rw [B.len]; decide)]
    have nbF := S1.ne nF p rfl
    obtain ⟨fF4, hF4⟩ := held P4 hF (S1.le.free nF) nbF
    have fin : ∀ (F5 H5 : Hp) (d : PyData), Src ⟨K, w⟩ F5 H5 p → Is ⟨K, w⟩ F5 v d → Fit 6 5000 d → H5 lF = some (.lst [v, v, v, v, v, v]) → F5 lF = none → ∀ D : Ends, (∀ σ7 H7, (∃ F, Base ⟨K, w⟩ F H7 p σ7) → D.nx σ7 H7) → tSeq (r5 ⟨K, w⟩) (r6 ⟨K, w⟩) D σ4 H5 := fun F5 H5 d S5 i5 ft hF5 fF5 D hD =>
      ⟨F5, p, v, d, lF, ⟨S5, len4, bag4⟩, g3, g6, i5, ft, hF5, fF5, fun F6 H6 S6 => ⟨F6, p, ⟨S6, len4, bag4⟩, fun F7 H7 σ7 S7 l7 j7 => hD σ7 H7 ⟨F7, ⟨S7, l7.trans len4, j7.trans bag4⟩⟩⟩⟩
    refine ⟨F4, p, v, ⟨S4, len4, bag4⟩, g3, ?_⟩
    cases o1 with
    | d hx nl ft => exact .inl ⟨_, hx.up P4.f, nl, fin F4 H4 _ S4 (hx.up P4.f) (ft.mono (by decide) (by decide)) hF4 fF4 _ fun _ _ h => h⟩
    | l ev nb fa ha i z ft =>
      obtain ⟨fa4, ha4⟩ := held P4 (u3 _ _ ha) fa nb
      refine .inr ⟨_, _, _, ev, nb, fa4, ha4, i.up P4.f, z, ft, fun F5 H5 d S5 i5 ft5 kp => ?_⟩
      obtain ⟨x1, x2⟩ := kp lF _ hF4 (fun e => by rw [e] at nF; rw [nF] at ha; cases ha) fF4 nbF.1 nbF.2
      exact fin F5 H5 d S5 i5 ft5 x1 x2 _ fun _ _ h => h

end
end LW
set_option Elab.async false
set_option linter.all false
set_option maxRecDepth 100000
set_option maxHeartbeats 4000000
namespace LW
open PySem PySem.Spec PyProof.Rows L2 DL
theorem kit_own {K : PySem.W.Frag} {C D : Addr} {b : Bool} (hs : PySem.W.subIn K (.ref C) (.ref C) = some true) (hi : (PySem.W.clsIn K D).isSome = true) (ht : PySem.W.typeIn K (.ref D) = some (.type "type")) (h : PySem.W.subIn K (.ref C) (.ref D) = some b) : PySem.W.kitOne K (.ref C) (.ref D) = some b := by
  unfold PySem.W.kitOne
  by_cases e : (Value.ref C == Value.ref D) = true
  · rw [if_pos e]
    have e' : C = D := Value.ref.inj (beq_iff_eq.mp e)
    rw [← e', hs] at h
    exact h
  · rw [if_neg e]
    show (if ((PySem.W.clsIn K D).isSome && PySem.W.typeIn K (.ref D) == some (.type "type")) = true then PySem.W.subIn K (.ref C) (.ref D) else none) = some b
    rw [hi, ht, if_pos (by decide +kernel)]
    exact h
theorem kit_bi {K : PySem.W.Frag} {C : Addr} {T : String} {b : Bool} (hm : PySem.W.kitMeta T = true) (h : PySem.W.subIn K (.ref C) (.type T) = some b) : PySem.W.kitOne K (.ref C) (.type T) = some b := by
  unfold PySem.W.kitOne
  have e : (Value.ref C == Value.type T) = false := beq_eq_false_iff_ne.mpr fun z => nomatch z
  rw [if_neg (by rw [e]; decide)]
  show (if PySem.W.kitMeta T = true then PySem.W.subIn K (.ref C) (.type T) else none) = some b
  rw [if_pos hm]
  exact h
theorem all_mk {l : PySem.W.OpenLaw} {w : World} {K : PySem.W.Frag} {h : Heap} {mg : Str → Option Value} {fa : Addr} (X : K.In h) (G : h.Ns mainGlobals mg) (hfa : mg "law" = some (.ref fa))
    {f0 f1 f2 f3 f4 f5 f6 f7 f8 f9 f10 f11 f12 f13 : Addr} {od0 an0 od1 an1 od2 an2 od3 an3 od4 an4 od5 an5 od6 an6 od7 an7 od8 an8 od9 an9 od10 an10 od11 an11 od12 an12 od13 an13 : Option Addr} {sl0 sl1 sl2 sl3 sl4 sl5 sl6 sl7 sl8 sl9 sl10 sl11 sl12 sl13 : Array (Option Value)} {oc0 kV0 dc0 pm0 cd0 ct0 oc1 kV1 dc1 pm1 cd1 ct1 oc2 kV2 dc2 pm2 cd2 ct2 oc3 kV3 dc3 pm3 cd3 ct3 oc4 kV4 dc4 pm4 cd4 ct4 oc5 kV5 dc5 pm5 cd5 ct5 oc6 kV6 dc6 pm6 cd6 ct6 oc7 kV7 dc7 pm7 cd7 ct7 oc8 kV8 dc8 pm8 cd8 ct8 oc9 kV9 dc9 pm9 cd9 ct9 oc10 kV10 dc10 pm10 cd10 ct10 oc11 kV11 dc11 pm11 cd11 ct11 oc12 kV12 dc12 pm12 cd12 ct12 oc13 kV13 dc13 pm13 cd13 ct13 : Value}
    {CNoCommand CNoName CNoText CNotRight CTooMany CWrong CNothing CMixedError : Addr}
    (n_NoCommand : PySem.W.nsIn K mainGlobals "NoCommand" = some (some (.ref CNoCommand)))
    (xk_NoCommand : PySem.W.keepIn K (.ref CNoCommand) = true)
    (xga_NoCommand : PySem.W.findIn K (.ref CNoCommand) "__getattribute__" = some (some (.builtin "BaseException.__getattribute__")))
    (xgg_NoCommand : PySem.W.findIn K (.ref CNoCommand) "__getattr__" = some none)
    (xe_NoCommand : PySem.W.subIn K (.ref CNoCommand) (.type "BaseException") = some true)
    (xh_NoCommand : PySem.W.hasDictIn K CNoCommand = true)
    (xc_NoCommand : PySem.W.findIn K (.ref CNoCommand) "__class__" = some (some (.builtin "object.__class__")))
    (xo_NoCommand : PySem.W.mroIn K CNoCommand (.type "object") = some true)
    (xt_NoCommand : PySem.W.typeIn K (.ref CNoCommand) = some (.type "type"))
    (n_NoName : PySem.W.nsIn K mainGlobals "NoName" = some (some (.ref CNoName)))
    (xk_NoName : PySem.W.keepIn K (.ref CNoName) = true)
    (xga_NoName : PySem.W.findIn K (.ref CNoName) "__getattribute__" = some (some (.builtin "BaseException.__getattribute__")))
    (xgg_NoName : PySem.W.findIn K (.ref CNoName) "__getattr__" = some none)
    (xe_NoName : PySem.W.subIn K (.ref CNoName) (.type "BaseException") = some true)
    (xh_NoName : PySem.W.hasDictIn K CNoName = true)
    (xc_NoName : PySem.W.findIn K (.ref CNoName) "__class__" = some (some (.builtin "object.__class__")))
    (xo_NoName : PySem.W.mroIn K CNoName (.type "object") = some true)
    (xt_NoName : PySem.W.typeIn K (.ref CNoName) = some (.type "type"))
    (n_NoText : PySem.W.nsIn K mainGlobals "NoText" = some (some (.ref CNoText)))
    (xk_NoText : PySem.W.keepIn K (.ref CNoText) = true)
    (xga_NoText : PySem.W.findIn K (.ref CNoText) "__getattribute__" = some (some (.builtin "BaseException.__getattribute__")))
    (xgg_NoText : PySem.W.findIn K (.ref CNoText) "__getattr__" = some none)
    (xe_NoText : PySem.W.subIn K (.ref CNoText) (.type "BaseException") = some true)
    (xh_NoText : PySem.W.hasDictIn K CNoText = true)
    (xc_NoText : PySem.W.findIn K (.ref CNoText) "__class__" = some (some (.builtin "object.__class__")))
    (xo_NoText : PySem.W.mroIn K CNoText (.type "object") = some true)
    (xt_NoText : PySem.W.typeIn K (.ref CNoText) = some (.type "type"))
    (n_NotRight : PySem.W.nsIn K mainGlobals "NotRight" = some (some (.ref CNotRight)))
    (xk_NotRight : PySem.W.keepIn K (.ref CNotRight) = true)
    (xga_NotRight : PySem.W.findIn K (.ref CNotRight) "__getattribute__" = some (some (.builtin "BaseException.__getattribute__")))
    (xgg_NotRight : PySem.W.findIn K (.ref CNotRight) "__getattr__" = some none)
    (xe_NotRight : PySem.W.subIn K (.ref CNotRight) (.type "BaseException") = some true)
    (xh_NotRight : PySem.W.hasDictIn K CNotRight = true)
    (xc_NotRight : PySem.W.findIn K (.ref CNotRight) "__class__" = some (some (.builtin "object.__class__")))
    (xo_NotRight : PySem.W.mroIn K CNotRight (.type "object") = some true)
    (xt_NotRight : PySem.W.typeIn K (.ref CNotRight) = some (.type "type"))
    (n_TooMany : PySem.W.nsIn K mainGlobals "TooMany" = some (some (.ref CTooMany)))
    (xk_TooMany : PySem.W.keepIn K (.ref CTooMany) = true)
    (xga_TooMany : PySem.W.findIn K (.ref CTooMany) "__getattribute__" = some (some (.builtin "BaseException.__getattribute__")))
    (xgg_TooMany : PySem.W.findIn K (.ref CTooMany) "__getattr__" = some none)
    (xe_TooMany : PySem.W.subIn K (.ref CTooMany) (.type "BaseException") = some true)
    (xh_TooMany : PySem.W.hasDictIn K CTooMany = true)
    (xc_TooMany : PySem.W.findIn K (.ref CTooMany) "__class__" = some (some (.builtin "object.__class__")))
    (xo_TooMany : PySem.W.mroIn K CTooMany (.type "object") = some true)
    (xt_TooMany : PySem.W.typeIn K (.ref CTooMany) = some (.type "type"))
    (n_Wrong : PySem.W.nsIn K mainGlobals "Wrong" = some (some (.ref CWrong)))
    (xk_Wrong : PySem.W.keepIn K (.ref CWrong) = true)
    (xga_Wrong : PySem.W.findIn K (.ref CWrong) "__getattribute__" = some (some (.builtin "BaseException.__getattribute__")))
    (xgg_Wrong : PySem.W.findIn K (.ref CWrong) "__getattr__" = some none)
    (xe_Wrong : PySem.W.subIn K (.ref CWrong) (.type "BaseException") = some true)
    (xh_Wrong : PySem.W.hasDictIn K CWrong = true)
    (xc_Wrong : PySem.W.findIn K (.ref CWrong) "__class__" = some (some (.builtin "object.__class__")))
    (xo_Wrong : PySem.W.mroIn K CWrong (.type "object") = some true)
    (xt_Wrong : PySem.W.typeIn K (.ref CWrong) = some (.type "type"))
    (n_Nothing : PySem.W.nsIn K mainGlobals "Nothing" = some (some (.ref CNothing)))
    (xk_Nothing : PySem.W.keepIn K (.ref CNothing) = true)
    (xga_Nothing : PySem.W.findIn K (.ref CNothing) "__getattribute__" = some (some (.builtin "BaseException.__getattribute__")))
    (xgg_Nothing : PySem.W.findIn K (.ref CNothing) "__getattr__" = some none)
    (xe_Nothing : PySem.W.subIn K (.ref CNothing) (.type "BaseException") = some true)
    (xh_Nothing : PySem.W.hasDictIn K CNothing = true)
    (xc_Nothing : PySem.W.findIn K (.ref CNothing) "__class__" = some (some (.builtin "object.__class__")))
    (xo_Nothing : PySem.W.mroIn K CNothing (.type "object") = some true)
    (xt_Nothing : PySem.W.typeIn K (.ref CNothing) = some (.type "type"))
    (n_MixedError : PySem.W.nsIn K mainGlobals "MixedError" = some (some (.ref CMixedError)))
    (xk_MixedError : PySem.W.keepIn K (.ref CMixedError) = true)
    (xga_MixedError : PySem.W.findIn K (.ref CMixedError) "__getattribute__" = some (some (.builtin "BaseException.__getattribute__")))
    (xgg_MixedError : PySem.W.findIn K (.ref CMixedError) "__getattr__" = some none)
    (xe_MixedError : PySem.W.subIn K (.ref CMixedError) (.type "BaseException") = some true)
    (xh_MixedError : PySem.W.hasDictIn K CMixedError = true)
    (xc_MixedError : PySem.W.findIn K (.ref CMixedError) "__class__" = some (some (.builtin "object.__class__")))
    (xo_MixedError : PySem.W.mroIn K CMixedError (.type "object") = some true)
    (xt_MixedError : PySem.W.typeIn K (.ref CMixedError) = some (.type "type"))
    (xn : PySem.W.specialIn K (.builtin "object.__class__") "__get__" = some (some (.builtin "getset_descriptor.__get__")))
    (xtk : PySem.W.takesIn K (.builtin "object.__class__") = some true)
    {xnm_NoCommand xq_NoCommand : Str} {xN_NoCommand : Addr} {xbs_NoCommand : List Value} {xsn_NoCommand : List Str} {xsub_NoCommand : List Value} {xab_NoCommand : Bool} {xcol_NoCommand : Option Bool} {xdd_NoCommand : Option Addr} {x0_NoCommand x1_NoCommand x2_NoCommand x3_NoCommand x5_NoCommand : Option Value}
    (xL_NoCommand : K.lookup CNoCommand = some (excClassObj xnm_NoCommand xq_NoCommand CNoCommand xN_NoCommand xbs_NoCommand [.ref CMixedError, .type "ValueError", .type "Exception", .type "BaseException", .type "object"] true xsn_NoCommand xsub_NoCommand xab_NoCommand xcol_NoCommand xdd_NoCommand x0_NoCommand x1_NoCommand x2_NoCommand x3_NoCommand x5_NoCommand "ValueError.__new__"))
    (xsa_NoCommand : PySem.W.findIn K (.ref CNoCommand) "__setattr__" = some (some (.builtin "object.__setattr__")))
    (xw_NoCommand : PySem.W.findIn K (.ref CNoCommand) "line" = some none)
    {xnm_NoName xq_NoName : Str} {xN_NoName : Addr} {xbs_NoName : List Value} {xsn_NoName : List Str} {xsub_NoName : List Value} {xab_NoName : Bool} {xcol_NoName : Option Bool} {xdd_NoName : Option Addr} {x0_NoName x1_NoName x2_NoName x3_NoName x5_NoName : Option Value}
    (xL_NoName : K.lookup CNoName = some (excClassObj xnm_NoName xq_NoName CNoName xN_NoName xbs_NoName [.ref CMixedError, .type "ValueError", .type "Exception", .type "BaseException", .type "object"] true xsn_NoName xsub_NoName xab_NoName xcol_NoName xdd_NoName x0_NoName x1_NoName x2_NoName x3_NoName x5_NoName "ValueError.__new__"))
    (xsa_NoName : PySem.W.findIn K (.ref CNoName) "__setattr__" = some (some (.builtin "object.__setattr__")))
    (xw_NoName : PySem.W.findIn K (.ref CNoName) "name" = some none)
    {xnm_NoText xq_NoText : Str} {xN_NoText : Addr} {xbs_NoText : List Value} {xsn_NoText : List Str} {xsub_NoText : List Value} {xab_NoText : Bool} {xcol_NoText : Option Bool} {xdd_NoText : Option Addr} {x0_NoText x1_NoText x2_NoText x3_NoText x5_NoText : Option Value}
    (xL_NoText : K.lookup CNoText = some (excClassObj xnm_NoText xq_NoText CNoText xN_NoText xbs_NoText [.ref CMixedError, .type "ValueError", .type "Exception", .type "BaseException", .type "object"] true xsn_NoText xsub_NoText xab_NoText xcol_NoText xdd_NoText x0_NoText x1_NoText x2_NoText x3_NoText x5_NoText "ValueError.__new__"))
    (xsa_NoText : PySem.W.findIn K (.ref CNoText) "__setattr__" = some (some (.builtin "object.__setattr__")))
    (xw_NoText : PySem.W.findIn K (.ref CNoText) "line" = some none)
    {xnm_NotRight xq_NotRight : Str} {xN_NotRight : Addr} {xbs_NotRight : List Value} {xsn_NotRight : List Str} {xsub_NotRight : List Value} {xab_NotRight : Bool} {xcol_NotRight : Option Bool} {xdd_NotRight : Option Addr} {x0_NotRight x1_NotRight x2_NotRight x3_NotRight x5_NotRight : Option Value}
    (xL_NotRight : K.lookup CNotRight = some (excClassObj xnm_NotRight xq_NotRight CNotRight xN_NotRight xbs_NotRight [.ref CMixedError, .type "ValueError", .type "Exception", .type "BaseException", .type "object"] true xsn_NotRight xsub_NotRight xab_NotRight xcol_NotRight xdd_NotRight x0_NotRight x1_NotRight x2_NotRight x3_NotRight x5_NotRight "ValueError.__new__"))
    (xsa_NotRight : PySem.W.findIn K (.ref CNotRight) "__setattr__" = some (some (.builtin "object.__setattr__")))
    (xw_NotRight : PySem.W.findIn K (.ref CNotRight) "faults" = some none)
    {xnm_TooMany xq_TooMany : Str} {xN_TooMany : Addr} {xbs_TooMany : List Value} {xsn_TooMany : List Str} {xsub_TooMany : List Value} {xab_TooMany : Bool} {xcol_TooMany : Option Bool} {xdd_TooMany : Option Addr} {x0_TooMany x1_TooMany x2_TooMany x3_TooMany x5_TooMany : Option Value}
    (xL_TooMany : K.lookup CTooMany = some (excClassObj xnm_TooMany xq_TooMany CTooMany xN_TooMany xbs_TooMany [.ref CMixedError, .type "ValueError", .type "Exception", .type "BaseException", .type "object"] true xsn_TooMany xsub_TooMany xab_TooMany xcol_TooMany xdd_TooMany x0_TooMany x1_TooMany x2_TooMany x3_TooMany x5_TooMany "ValueError.__new__"))
    (xsa_TooMany : PySem.W.findIn K (.ref CTooMany) "__setattr__" = some (some (.builtin "object.__setattr__")))
    (xw_TooMany : PySem.W.findIn K (.ref CTooMany) "most" = some none)
    {xnm_Wrong xq_Wrong : Str} {xN_Wrong : Addr} {xbs_Wrong : List Value} {xsn_Wrong : List Str} {xsub_Wrong : List Value} {xab_Wrong : Bool} {xcol_Wrong : Option Bool} {xdd_Wrong : Option Addr} {x0_Wrong x1_Wrong x2_Wrong x3_Wrong x5_Wrong : Option Value}
    (xL_Wrong : K.lookup CWrong = some (excClassObj xnm_Wrong xq_Wrong CWrong xN_Wrong xbs_Wrong [.ref CMixedError, .type "ValueError", .type "Exception", .type "BaseException", .type "object"] true xsn_Wrong xsub_Wrong xab_Wrong xcol_Wrong xdd_Wrong x0_Wrong x1_Wrong x2_Wrong x3_Wrong x5_Wrong "ValueError.__new__"))
    (xsa_Wrong : PySem.W.findIn K (.ref CWrong) "__setattr__" = some (some (.builtin "object.__setattr__")))
    (xw_Wrong : PySem.W.findIn K (.ref CWrong) "place" = some none)
    (xx_Nothing : PySem.W.excIn K CNothing [.type "ValueError", .type "Exception", .type "BaseException", .type "object"] "ValueError.__new__" = true)
    (xx_MixedError : PySem.W.excIn K CMixedError [.type "ValueError", .type "Exception", .type "BaseException", .type "object"] "ValueError.__new__" = true)
    (bga : PySem.W.specialIn K (.ref CMixedError) "__getattribute__" = some (some (.builtin "type.__getattribute__")))
    (brd : PySem.W.readsIn K CMixedError (.type "type") = true)
    (bfi : PySem.W.findCls K (.ref CMixedError) (.type "type") "__init__" = some (.val (.builtin "ValueError.__init__")))
    (y_NoCommand_NoCommand : PySem.W.subIn K (.ref CNoCommand) (.ref CNoCommand) = some true)
    (y_NoCommand_NoName : PySem.W.subIn K (.ref CNoCommand) (.ref CNoName) = some false)
    (y_NoCommand_NoText : PySem.W.subIn K (.ref CNoCommand) (.ref CNoText) = some false)
    (y_NoCommand_NotRight : PySem.W.subIn K (.ref CNoCommand) (.ref CNotRight) = some false)
    (y_NoCommand_TooMany : PySem.W.subIn K (.ref CNoCommand) (.ref CTooMany) = some false)
    (y_NoCommand_Wrong : PySem.W.subIn K (.ref CNoCommand) (.ref CWrong) = some false)
    (y_NoCommand_Nothing : PySem.W.subIn K (.ref CNoCommand) (.ref CNothing) = some false)
    (y_NoCommand_MixedError : PySem.W.subIn K (.ref CNoCommand) (.ref CMixedError) = some true)
    (y_NoName_NoCommand : PySem.W.subIn K (.ref CNoName) (.ref CNoCommand) = some false)
    (y_NoName_NoName : PySem.W.subIn K (.ref CNoName) (.ref CNoName) = some true)
    (y_NoName_NoText : PySem.W.subIn K (.ref CNoName) (.ref CNoText) = some false)
    (y_NoName_NotRight : PySem.W.subIn K (.ref CNoName) (.ref CNotRight) = some false)
    (y_NoName_TooMany : PySem.W.subIn K (.ref CNoName) (.ref CTooMany) = some false)
    (y_NoName_Wrong : PySem.W.subIn K (.ref CNoName) (.ref CWrong) = some false)
    (y_NoName_Nothing : PySem.W.subIn K (.ref CNoName) (.ref CNothing) = some false)
    (y_NoName_MixedError : PySem.W.subIn K (.ref CNoName) (.ref CMixedError) = some true)
    (y_NoText_NoCommand : PySem.W.subIn K (.ref CNoText) (.ref CNoCommand) = some false)
    (y_NoText_NoName : PySem.W.subIn K (.ref CNoText) (.ref CNoName) = some false)
    (y_NoText_NoText : PySem.W.subIn K (.ref CNoText) (.ref CNoText) = some true)
    (y_NoText_NotRight : PySem.W.subIn K (.ref CNoText) (.ref CNotRight) = some false)
    (y_NoText_TooMany : PySem.W.subIn K (.ref CNoText) (.ref CTooMany) = some false)
    (y_NoText_Wrong : PySem.W.subIn K (.ref CNoText) (.ref CWrong) = some false)
    (y_NoText_Nothing : PySem.W.subIn K (.ref CNoText) (.ref CNothing) = some false)
    (y_NoText_MixedError : PySem.W.subIn K (.ref CNoText) (.ref CMixedError) = some true)
    (y_NotRight_NoCommand : PySem.W.subIn K (.ref CNotRight) (.ref CNoCommand) = some false)
    (y_NotRight_NoName : PySem.W.subIn K (.ref CNotRight) (.ref CNoName) = some false)
    (y_NotRight_NoText : PySem.W.subIn K (.ref CNotRight) (.ref CNoText) = some false)
    (y_NotRight_NotRight : PySem.W.subIn K (.ref CNotRight) (.ref CNotRight) = some true)
    (y_NotRight_TooMany : PySem.W.subIn K (.ref CNotRight) (.ref CTooMany) = some false)
    (y_NotRight_Wrong : PySem.W.subIn K (.ref CNotRight) (.ref CWrong) = some false)
    (y_NotRight_Nothing : PySem.W.subIn K (.ref CNotRight) (.ref CNothing) = some false)
    (y_NotRight_MixedError : PySem.W.subIn K (.ref CNotRight) (.ref CMixedError) = some true)
    (y_TooMany_NoCommand : PySem.W.subIn K (.ref CTooMany) (.ref CNoCommand) = some false)
    (y_TooMany_NoName : PySem.W.subIn K (.ref CTooMany) (.ref CNoName) = some false)
    (y_TooMany_NoText : PySem.W.subIn K (.ref CTooMany) (.ref CNoText) = some false)
    (y_TooMany_NotRight : PySem.W.subIn K (.ref CTooMany) (.ref CNotRight) = some false)
    (y_TooMany_TooMany : PySem.W.subIn K (.ref CTooMany) (.ref CTooMany) = some true)
    (y_TooMany_Wrong : PySem.W.subIn K (.ref CTooMany) (.ref CWrong) = some false)
    (y_TooMany_Nothing : PySem.W.subIn K (.ref CTooMany) (.ref CNothing) = some false)
    (y_TooMany_MixedError : PySem.W.subIn K (.ref CTooMany) (.ref CMixedError) = some true)
    (y_Wrong_NoCommand : PySem.W.subIn K (.ref CWrong) (.ref CNoCommand) = some false)
    (y_Wrong_NoName : PySem.W.subIn K (.ref CWrong) (.ref CNoName) = some false)
    (y_Wrong_NoText : PySem.W.subIn K (.ref CWrong) (.ref CNoText) = some false)
    (y_Wrong_NotRight : PySem.W.subIn K (.ref CWrong) (.ref CNotRight) = some false)
    (y_Wrong_TooMany : PySem.W.subIn K (.ref CWrong) (.ref CTooMany) = some false)
    (y_Wrong_Wrong : PySem.W.subIn K (.ref CWrong) (.ref CWrong) = some true)
    (y_Wrong_Nothing : PySem.W.subIn K (.ref CWrong) (.ref CNothing) = some false)
    (y_Wrong_MixedError : PySem.W.subIn K (.ref CWrong) (.ref CMixedError) = some true)
    (y_Nothing_NoCommand : PySem.W.subIn K (.ref CNothing) (.ref CNoCommand) = some false)
    (y_Nothing_NoName : PySem.W.subIn K (.ref CNothing) (.ref CNoName) = some false)
    (y_Nothing_NoText : PySem.W.subIn K (.ref CNothing) (.ref CNoText) = some false)
    (y_Nothing_NotRight : PySem.W.subIn K (.ref CNothing) (.ref CNotRight) = some false)
    (y_Nothing_TooMany : PySem.W.subIn K (.ref CNothing) (.ref CTooMany) = some false)
    (y_Nothing_Wrong : PySem.W.subIn K (.ref CNothing) (.ref CWrong) = some false)
    (y_Nothing_Nothing : PySem.W.subIn K (.ref CNothing) (.ref CNothing) = some true)
    (y_Nothing_MixedError : PySem.W.subIn K (.ref CNothing) (.ref CMixedError) = some true)
    (y_MixedError_NoCommand : PySem.W.subIn K (.ref CMixedError) (.ref CNoCommand) = some false)
    (y_MixedError_NoName : PySem.W.subIn K (.ref CMixedError) (.ref CNoName) = some false)
    (y_MixedError_NoText : PySem.W.subIn K (.ref CMixedError) (.ref CNoText) = some false)
    (y_MixedError_NotRight : PySem.W.subIn K (.ref CMixedError) (.ref CNotRight) = some false)
    (y_MixedError_TooMany : PySem.W.subIn K (.ref CMixedError) (.ref CTooMany) = some false)
    (y_MixedError_Wrong : PySem.W.subIn K (.ref CMixedError) (.ref CWrong) = some false)
    (y_MixedError_Nothing : PySem.W.subIn K (.ref CMixedError) (.ref CNothing) = some false)
    (y_MixedError_MixedError : PySem.W.subIn K (.ref CMixedError) (.ref CMixedError) = some true)
    (y_NoCommand_ValueError : PySem.W.subIn K (.ref CNoCommand) (.type "ValueError") = some true)
    (y_NoName_ValueError : PySem.W.subIn K (.ref CNoName) (.type "ValueError") = some true)
    (y_NoText_ValueError : PySem.W.subIn K (.ref CNoText) (.type "ValueError") = some true)
    (y_NotRight_ValueError : PySem.W.subIn K (.ref CNotRight) (.type "ValueError") = some true)
    (y_TooMany_ValueError : PySem.W.subIn K (.ref CTooMany) (.type "ValueError") = some true)
    (y_Wrong_ValueError : PySem.W.subIn K (.ref CWrong) (.type "ValueError") = some true)
    (y_Nothing_ValueError : PySem.W.subIn K (.ref CNothing) (.type "ValueError") = some true)
    (y_MixedError_ValueError : PySem.W.subIn K (.ref CMixedError) (.type "ValueError") = some true)
    (a0 : PySem.W.nsIn K mainGlobals "_law_bag" = some (some (.ref f0)))
    (l0 : K.lookup f0 = some ⟨oc0, od0, .func (PySem.W.fnOf "_law_bag" "_law_bag" (defArgs s__law_bag) (defBody s__law_bag) (defScope s__law_bag) .none kV0 dc0 pm0 an0 cd0 ct0), sl0⟩)
    (c0 : PySem.W.codeIn K cd0 "_law_bag" = true)
    (k0 : PySem.W.keepIn K (.ref f0) = true)
    (a1 : PySem.W.nsIn K mainGlobals "_law_take" = some (some (.ref f1)))
    (l1 : K.lookup f1 = some ⟨oc1, od1, .func (PySem.W.fnOf "_law_take" "_law_take" (defArgs s__law_take) (defBody s__law_take) (defScope s__law_take) .none kV1 dc1 pm1 an1 cd1 ct1), sl1⟩)
    (c1 : PySem.W.codeIn K cd1 "_law_take" = true)
    (k1 : PySem.W.keepIn K (.ref f1) = true)
    (a2 : PySem.W.nsIn K mainGlobals "_law_some" = some (some (.ref f2)))
    (l2 : K.lookup f2 = some ⟨oc2, od2, .func (PySem.W.fnOf "_law_some" "_law_some" (defArgs s__law_some) (defBody s__law_some) (defScope s__law_some) .none kV2 dc2 pm2 an2 cd2 ct2), sl2⟩)
    (c2 : PySem.W.codeIn K cd2 "_law_some" = true)
    (k2 : PySem.W.keepIn K (.ref f2) = true)
    (a3 : PySem.W.nsIn K mainGlobals "_law_alike" = some (some (.ref f3)))
    (l3 : K.lookup f3 = some ⟨oc3, od3, .func (PySem.W.fnOf "_law_alike" "_law_alike" (defArgs s__law_alike) (defBody s__law_alike) (defScope s__law_alike) .none kV3 dc3 pm3 an3 cd3 ct3), sl3⟩)
    (c3 : PySem.W.codeIn K cd3 "_law_alike" = true)
    (k3 : PySem.W.keepIn K (.ref f3) = true)
    (a4 : PySem.W.nsIn K mainGlobals "_law_odd" = some (some (.ref f4)))
    (l4 : K.lookup f4 = some ⟨oc4, od4, .func (PySem.W.fnOf "_law_odd" "_law_odd" (defArgs s__law_odd) (defBody s__law_odd) (defScope s__law_odd) .none kV4 dc4 pm4 an4 cd4 ct4), sl4⟩)
    (c4 : PySem.W.codeIn K cd4 "_law_odd" = true)
    (k4 : PySem.W.keepIn K (.ref f4) = true)
    (a5 : PySem.W.findIn K (.ref CNoCommand) "__init__" = some (some (.ref f5)))
    (t5 : PySem.W.typeIn K (.ref f5) = some (.type "function"))
    (l5 : K.lookup f5 = some ⟨oc5, od5, .func (PySem.W.fnOf "__init__" "NoCommand.__init__" (defArgs s_NoCommand___init__) (defBody s_NoCommand___init__) (defScope s_NoCommand___init__) .none kV5 dc5 pm5 an5 cd5 ct5), sl5⟩)
    (c5 : PySem.W.codeIn K cd5 "NoCommand.__init__" = true)
    (k5 : PySem.W.keepIn K (.ref f5) = true)
    (a6 : PySem.W.findIn K (.ref CNoName) "__init__" = some (some (.ref f6)))
    (t6 : PySem.W.typeIn K (.ref f6) = some (.type "function"))
    (l6 : K.lookup f6 = some ⟨oc6, od6, .func (PySem.W.fnOf "__init__" "NoName.__init__" (defArgs s_NoName___init__) (defBody s_NoName___init__) (defScope s_NoName___init__) .none kV6 dc6 pm6 an6 cd6 ct6), sl6⟩)
    (c6 : PySem.W.codeIn K cd6 "NoName.__init__" = true)
    (k6 : PySem.W.keepIn K (.ref f6) = true)
    (a7 : PySem.W.findIn K (.ref CNoText) "__init__" = some (some (.ref f7)))
    (t7 : PySem.W.typeIn K (.ref f7) = some (.type "function"))
    (l7 : K.lookup f7 = some ⟨oc7, od7, .func (PySem.W.fnOf "__init__" "NoText.__init__" (defArgs s_NoText___init__) (defBody s_NoText___init__) (defScope s_NoText___init__) .none kV7 dc7 pm7 an7 cd7 ct7), sl7⟩)
    (c7 : PySem.W.codeIn K cd7 "NoText.__init__" = true)
    (k7 : PySem.W.keepIn K (.ref f7) = true)
    (a8 : PySem.W.findIn K (.ref CNotRight) "__init__" = some (some (.ref f8)))
    (t8 : PySem.W.typeIn K (.ref f8) = some (.type "function"))
    (l8 : K.lookup f8 = some ⟨oc8, od8, .func (PySem.W.fnOf "__init__" "NotRight.__init__" (defArgs s_NotRight___init__) (defBody s_NotRight___init__) (defScope s_NotRight___init__) .none kV8 dc8 pm8 an8 cd8 ct8), sl8⟩)
    (c8 : PySem.W.codeIn K cd8 "NotRight.__init__" = true)
    (k8 : PySem.W.keepIn K (.ref f8) = true)
    (a9 : PySem.W.findIn K (.ref CTooMany) "__init__" = some (some (.ref f9)))
    (t9 : PySem.W.typeIn K (.ref f9) = some (.type "function"))
    (l9 : K.lookup f9 = some ⟨oc9, od9, .func (PySem.W.fnOf "__init__" "TooMany.__init__" (defArgs s_TooMany___init__) (defBody s_TooMany___init__) (defScope s_TooMany___init__) .none kV9 dc9 pm9 an9 cd9 ct9), sl9⟩)
    (c9 : PySem.W.codeIn K cd9 "TooMany.__init__" = true)
    (k9 : PySem.W.keepIn K (.ref f9) = true)
    (a10 : PySem.W.findIn K (.ref CWrong) "__init__" = some (some (.ref f10)))
    (t10 : PySem.W.typeIn K (.ref f10) = some (.type "function"))
    (l10 : K.lookup f10 = some ⟨oc10, od10, .func (PySem.W.fnOf "__init__" "Wrong.__init__" (defArgs s_Wrong___init__) (defBody s_Wrong___init__) (defScope s_Wrong___init__) .none kV10 dc10 pm10 an10 cd10 ct10), sl10⟩)
    (c10 : PySem.W.codeIn K cd10 "Wrong.__init__" = true)
    (k10 : PySem.W.keepIn K (.ref f10) = true)
    (a11 : PySem.W.nsIn K mainGlobals "_law_made" = some (some (.ref f11)))
    (l11 : K.lookup f11 = some ⟨oc11, od11, .func (PySem.W.fnOf "_law_made" "_law_made" (defArgs s__law_made) (defBody s__law_made) (defScope s__law_made) .none kV11 dc11 pm11 an11 cd11 ct11), sl11⟩)
    (c11 : PySem.W.codeIn K cd11 "_law_made" = true)
    (k11 : PySem.W.keepIn K (.ref f11) = true)
    (a12 : PySem.W.nsIn K mainGlobals "_law_kinds_of" = some (some (.ref f12)))
    (l12 : K.lookup f12 = some ⟨oc12, od12, .func (PySem.W.fnOf "_law_kinds_of" "_law_kinds_of" (defArgs s__law_kinds_of) (defBody s__law_kinds_of) (defScope s__law_kinds_of) .none kV12 dc12 pm12 an12 cd12 ct12), sl12⟩)
    (c12 : PySem.W.codeIn K cd12 "_law_kinds_of" = true)
    (k12 : PySem.W.keepIn K (.ref f12) = true)
    (a13 : PySem.W.nsIn K mainGlobals "law" = some (some (.ref f13)))
    (l13 : K.lookup f13 = some ⟨oc13, od13, .func (PySem.W.fnOf "law" "law" (defArgs s_law) (defBody s_law) (defScope s_law) .none kV13 dc13 pm13 an13 cd13 ct13), sl13⟩)
    (c13 : PySem.W.codeIn K cd13 "law" = true)
    (k13 : PySem.W.keepIn K (.ref f13) = true)
    (z_abs : PySem.W.nsIn K mainGlobals "abs" = some none)
    (z_int : PySem.W.nsIn K mainGlobals "int" = some none)
    (z_repr : PySem.W.nsIn K mainGlobals "repr" = some none)
    (z_len : PySem.W.nsIn K mainGlobals "len" = some none)
    (z_isinstance : PySem.W.nsIn K mainGlobals "isinstance" = some none)
    (z_range : PySem.W.nsIn K mainGlobals "range" = some none)
    (z_enumerate : PySem.W.nsIn K mainGlobals "enumerate" = some none)
    (z_list : PySem.W.nsIn K mainGlobals "list" = some none)
    (z_ValueError : PySem.W.nsIn K mainGlobals "ValueError" = some none)
    : ∃ fd : FuncData, (∀ (s : Shared) (v : Value), BindsTo s fd ⟨[v], []⟩ [("script", v)]) ∧ ∀ base : Heap, K.In base → base.Ns mainGlobals mg → FnG l.prog w K mg base CX0 4 fa fd ["script"] (spLaw K) := by
  have e := hfa.symm.trans (PySem.W.mg_of X G a13)
  cases e
  have F0 := fun_mk (st := s__law_bag) l0 c0 k0
  have b0 := F0.binds (ps := ["script"]) fun _ _ _ _ _ _ us hl => match us, hl with | [_], _ => rfl
  have F1 := fun_mk (st := s__law_take) l1 c1 k1
  have b1 := F1.binds (ps := ["bag", "many"]) fun _ _ _ _ _ _ us hl => match us, hl with | [_, _], _ => rfl
  have F2 := fun_mk (st := s__law_some) l2 c2 k2
  have b2 := F2.binds (ps := ["bag", "things"]) fun _ _ _ _ _ _ us hl => match us, hl with | [_, _], _ => rfl
  have F3 := fun_mk (st := s__law_alike) l3 c3 k3
  have b3 := F3.binds (ps := ["found", "due"]) fun _ _ _ _ _ _ us hl => match us, hl with | [_, _], _ => rfl
  have F4 := fun_mk (st := s__law_odd) l4 c4 k4
  have b4 := F4.binds (ps := ["bag"]) fun _ _ _ _ _ _ us hl => match us, hl with | [_], _ => rfl
  have F5 := fun_mk (st := s_NoCommand___init__) l5 c5 k5
  have b5 := F5.binds (ps := ["self", "line"]) fun _ _ _ _ _ _ us hl => match us, hl with | [_, _], _ => rfl
  have F6 := fun_mk (st := s_NoName___init__) l6 c6 k6
  have b6 := F6.binds (ps := ["self", "name"]) fun _ _ _ _ _ _ us hl => match us, hl with | [_, _], _ => rfl
  have F7 := fun_mk (st := s_NoText___init__) l7 c7 k7
  have b7 := F7.binds (ps := ["self", "line"]) fun _ _ _ _ _ _ us hl => match us, hl with | [_, _], _ => rfl
  have F8 := fun_mk (st := s_NotRight___init__) l8 c8 k8
  have b8 := F8.binds (ps := ["self", "faults"]) fun _ _ _ _ _ _ us hl => match us, hl with | [_, _], _ => rfl
  have F9 := fun_mk (st := s_TooMany___init__) l9 c9 k9
  have b9 := F9.binds (ps := ["self", "most"]) fun _ _ _ _ _ _ us hl => match us, hl with | [_, _], _ => rfl
  have F10 := fun_mk (st := s_Wrong___init__) l10 c10 k10
  have b10 := F10.binds (ps := ["self", "place"]) fun _ _ _ _ _ _ us hl => match us, hl with | [_, _], _ => rfl
  have F11 := fun_mk (st := s__law_made) l11 c11 k11
  have b11 := F11.binds (ps := ["one"]) fun _ _ _ _ _ _ us hl => match us, hl with | [_], _ => rfl
  have F12 := fun_mk (st := s__law_kinds_of) l12 c12 k12
  have b12 := F12.binds (ps := ["error"]) fun _ _ _ _ _ _ us hl => match us, hl with | [_], _ => rfl
  have F13 := fun_mk (st := s_law) l13 c13 k13
  have b13 := F13.binds (ps := ["script"]) fun _ _ _ _ _ _ us hl => match us, hl with | [_], _ => rfl
  let T : Tops K mg := { a__law_bag := _, d__law_bag := _, f__law_bag := F0, b__law_bag := b0, m__law_bag := PySem.W.mg_of X G a0, a__law_take := _, d__law_take := _, f__law_take := F1, b__law_take := b1, m__law_take := PySem.W.mg_of X G a1, a__law_some := _, d__law_some := _, f__law_some := F2, b__law_some := b2, m__law_some := PySem.W.mg_of X G a2, a__law_alike := _, d__law_alike := _, f__law_alike := F3, b__law_alike := b3, m__law_alike := PySem.W.mg_of X G a3, a__law_odd := _, d__law_odd := _, f__law_odd := F4, b__law_odd := b4, m__law_odd := PySem.W.mg_of X G a4, a_NoCommand___init__ := _, d_NoCommand___init__ := _, f_NoCommand___init__ := F5, b_NoCommand___init__ := b5, a_NoName___init__ := _, d_NoName___init__ := _, f_NoName___init__ := F6, b_NoName___init__ := b6, a_NoText___init__ := _, d_NoText___init__ := _, f_NoText___init__ := F7, b_NoText___init__ := b7, a_NotRight___init__ := _, d_NotRight___init__ := _, f_NotRight___init__ := F8, b_NotRight___init__ := b8, a_TooMany___init__ := _, d_TooMany___init__ := _, f_TooMany___init__ := F9, b_TooMany___init__ := b9, a_Wrong___init__ := _, d_Wrong___init__ := _, f_Wrong___init__ := F10, b_Wrong___init__ := b10, a__law_made := _, d__law_made := _, f__law_made := F11, b__law_made := b11, m__law_made := PySem.W.mg_of X G a11, a__law_kinds_of := _, d__law_kinds_of := _, f__law_kinds_of := F12, b__law_kinds_of := b12, m__law_kinds_of := PySem.W.mg_of X G a12, a_law := _, d_law := _, f_law := F13, b_law := b13, m_law := PySem.W.mg_of X G a13, C_NoCommand := CNoCommand, c_NoCommand := ⟨PySem.W.mg_of X G n_NoCommand, xk_NoCommand, ⟨xga_NoCommand, xgg_NoCommand, xe_NoCommand, xh_NoCommand⟩, ⟨xga_NoCommand, xgg_NoCommand, xe_NoCommand, xh_NoCommand, xc_NoCommand, xn, xtk, xo_NoCommand⟩⟩, C_NoName := CNoName, c_NoName := ⟨PySem.W.mg_of X G n_NoName, xk_NoName, ⟨xga_NoName, xgg_NoName, xe_NoName, xh_NoName⟩, ⟨xga_NoName, xgg_NoName, xe_NoName, xh_NoName, xc_NoName, xn, xtk, xo_NoName⟩⟩, C_NoText := CNoText, c_NoText := ⟨PySem.W.mg_of X G n_NoText, xk_NoText, ⟨xga_NoText, xgg_NoText, xe_NoText, xh_NoText⟩, ⟨xga_NoText, xgg_NoText, xe_NoText, xh_NoText, xc_NoText, xn, xtk, xo_NoText⟩⟩, C_NotRight := CNotRight, c_NotRight := ⟨PySem.W.mg_of X G n_NotRight, xk_NotRight, ⟨xga_NotRight, xgg_NotRight, xe_NotRight, xh_NotRight⟩, ⟨xga_NotRight, xgg_NotRight, xe_NotRight, xh_NotRight, xc_NotRight, xn, xtk, xo_NotRight⟩⟩, C_TooMany := CTooMany, c_TooMany := ⟨PySem.W.mg_of X G n_TooMany, xk_TooMany, ⟨xga_TooMany, xgg_TooMany, xe_TooMany, xh_TooMany⟩, ⟨xga_TooMany, xgg_TooMany, xe_TooMany, xh_TooMany, xc_TooMany, xn, xtk, xo_TooMany⟩⟩, C_Wrong := CWrong, c_Wrong := ⟨PySem.W.mg_of X G n_Wrong, xk_Wrong, ⟨xga_Wrong, xgg_Wrong, xe_Wrong, xh_Wrong⟩, ⟨xga_Wrong, xgg_Wrong, xe_Wrong, xh_Wrong, xc_Wrong, xn, xtk, xo_Wrong⟩⟩, C_Nothing := CNothing, c_Nothing := ⟨PySem.W.mg_of X G n_Nothing, xk_Nothing, ⟨xga_Nothing, xgg_Nothing, xe_Nothing, xh_Nothing⟩, ⟨xga_Nothing, xgg_Nothing, xe_Nothing, xh_Nothing, xc_Nothing, xn, xtk, xo_Nothing⟩⟩, C_MixedError := CMixedError, c_MixedError := ⟨PySem.W.mg_of X G n_MixedError, xk_MixedError, ⟨xga_MixedError, xgg_MixedError, xe_MixedError, xh_MixedError⟩, ⟨xga_MixedError, xgg_MixedError, xe_MixedError, xh_MixedError, xc_MixedError, xn, xtk, xo_MixedError⟩⟩, o_NoCommand := ⟨⟨_, _, _, _, _, _, _, _, _, _, _, _, _, _, _, xL_NoCommand, by rfl⟩, xsa_NoCommand, xe_NoCommand, xt_NoCommand, xk_NoCommand⟩, w_NoCommand := xw_NoCommand, i_NoCommand := a5, t_NoCommand := t5, o_NoName := ⟨⟨_, _, _, _, _, _, _, _, _, _, _, _, _, _, _, xL_NoName, by rfl⟩, xsa_NoName, xe_NoName, xt_NoName, xk_NoName⟩, w_NoName := xw_NoName, i_NoName := a6, t_NoName := t6, o_NoText := ⟨⟨_, _, _, _, _, _, _, _, _, _, _, _, _, _, _, xL_NoText, by rfl⟩, xsa_NoText, xe_NoText, xt_NoText, xk_NoText⟩, w_NoText := xw_NoText, i_NoText := a7, t_NoText := t7, o_NotRight := ⟨⟨_, _, _, _, _, _, _, _, _, _, _, _, _, _, _, xL_NotRight, by rfl⟩, xsa_NotRight, xe_NotRight, xt_NotRight, xk_NotRight⟩, w_NotRight := xw_NotRight, i_NotRight := a8, t_NotRight := t8, o_TooMany := ⟨⟨_, _, _, _, _, _, _, _, _, _, _, _, _, _, _, xL_TooMany, by rfl⟩, xsa_TooMany, xe_TooMany, xt_TooMany, xk_TooMany⟩, w_TooMany := xw_TooMany, i_TooMany := a9, t_TooMany := t9, o_Wrong := ⟨⟨_, _, _, _, _, _, _, _, _, _, _, _, _, _, _, xL_Wrong, by rfl⟩, xsa_Wrong, xe_Wrong, xt_Wrong, xk_Wrong⟩, w_Wrong := xw_Wrong, i_Wrong := a10, t_Wrong := t10, n_Nothing := xx_Nothing, n_MixedError := xx_MixedError, bc_MixedError := ⟨bga, brd, bfi⟩, y_NoCommand_NoCommand := kit_own y_NoCommand_NoCommand (by obtain ⟨cd, hc, _⟩ := PySem.W.any_some xh_NoCommand; rw [hc]; rfl) xt_NoCommand y_NoCommand_NoCommand, y_NoCommand_NoName := kit_own y_NoCommand_NoCommand (by obtain ⟨cd, hc, _⟩ := PySem.W.any_some xh_NoName; rw [hc]; rfl) xt_NoName y_NoCommand_NoName, y_NoCommand_NoText := kit_own y_NoCommand_NoCommand (by obtain ⟨cd, hc, _⟩ := PySem.W.any_some xh_NoText; rw [hc]; rfl) xt_NoText y_NoCommand_NoText, y_NoCommand_NotRight := kit_own y_NoCommand_NoCommand (by obtain ⟨cd, hc, _⟩ := PySem.W.any_some xh_NotRight; rw [hc]; rfl) xt_NotRight y_NoCommand_NotRight, y_NoCommand_TooMany := kit_own y_NoCommand_NoCommand (by obtain ⟨cd, hc, _⟩ := PySem.W.any_some xh_TooMany; rw [hc]; rfl) xt_TooMany y_NoCommand_TooMany, y_NoCommand_Wrong := kit_own y_NoCommand_NoCommand (by obtain ⟨cd, hc, _⟩ := PySem.W.any_some xh_Wrong; rw [hc]; rfl) xt_Wrong y_NoCommand_Wrong, y_NoCommand_Nothing := kit_own y_NoCommand_NoCommand (by obtain ⟨cd, hc, _⟩ := PySem.W.any_some xh_Nothing; rw [hc]; rfl) xt_Nothing y_NoCommand_Nothing, y_NoCommand_MixedError := kit_own y_NoCommand_NoCommand (by obtain ⟨cd, hc, _⟩ := PySem.W.any_some xh_MixedError; rw [hc]; rfl) xt_MixedError y_NoCommand_MixedError, y_NoName_NoCommand := kit_own y_NoName_NoName (by obtain ⟨cd, hc, _⟩ := PySem.W.any_some xh_NoCommand; rw [hc]; rfl) xt_NoCommand y_NoName_NoCommand, y_NoName_NoName := kit_own y_NoName_NoName (by obtain ⟨cd, hc, _⟩ := PySem.W.any_some xh_NoName; rw [hc]; rfl) xt_NoName y_NoName_NoName, y_NoName_NoText := kit_own y_NoName_NoName (by obtain ⟨cd, hc, _⟩ := PySem.W.any_some xh_NoText; rw [hc]; rfl) xt_NoText y_NoName_NoText, y_NoName_NotRight := kit_own y_NoName_NoName (by obtain ⟨cd, hc, _⟩ := PySem.W.any_some xh_NotRight; rw [hc]; rfl) xt_NotRight y_NoName_NotRight, y_NoName_TooMany := kit_own y_NoName_NoName (by obtain ⟨cd, hc, _⟩ := PySem.W.any_some xh_TooMany; rw [hc]; rfl) xt_TooMany y_NoName_TooMany, y_NoName_Wrong := kit_own y_NoName_NoName (by obtain ⟨cd, hc, _⟩ := PySem.W.any_some xh_Wrong; rw [hc]; rfl) xt_Wrong y_NoName_Wrong, y_NoName_Nothing := kit_own y_NoName_NoName (by obtain ⟨cd, hc, _⟩ := PySem.W.any_some xh_Nothing; rw [hc]; rfl) xt_Nothing y_NoName_Nothing, y_NoName_MixedError := kit_own y_NoName_NoName (by obtain ⟨cd, hc, _⟩ := PySem.W.any_some xh_MixedError; rw [hc]; rfl) xt_MixedError y_NoName_MixedError, y_NoText_NoCommand := kit_own y_NoText_NoText (by obtain ⟨cd, hc, _⟩ := PySem.W.any_some xh_NoCommand; rw [hc]; rfl) xt_NoCommand y_NoText_NoCommand, y_NoText_NoName := kit_own y_NoText_NoText (by obtain ⟨cd, hc, _⟩ := PySem.W.any_some xh_NoName; rw [hc]; rfl) xt_NoName y_NoText_NoName, y_NoText_NoText := kit_own y_NoText_NoText (by obtain ⟨cd, hc, _⟩ := PySem.W.any_some xh_NoText; rw [hc]; rfl) xt_NoText y_NoText_NoText, y_NoText_NotRight := kit_own y_NoText_NoText (by obtain ⟨cd, hc, _⟩ := PySem.W.any_some xh_NotRight; rw [hc]; rfl) xt_NotRight y_NoText_NotRight, y_NoText_TooMany := kit_own y_NoText_NoText (by obtain ⟨cd, hc, _⟩ := PySem.W.any_some xh_TooMany; rw [hc]; rfl) xt_TooMany y_NoText_TooMany, y_NoText_Wrong := kit_own y_NoText_NoText (by obtain ⟨cd, hc, _⟩ := PySem.W.any_some xh_Wrong; rw [hc]; rfl) xt_Wrong y_NoText_Wrong, y_NoText_Nothing := kit_own y_NoText_NoText (by obtain ⟨cd, hc, _⟩ := PySem.W.any_some xh_Nothing; rw [hc]; rfl) xt_Nothing y_NoText_Nothing, y_NoText_MixedError := kit_own y_NoText_NoText (by obtain ⟨cd, hc, _⟩ := PySem.W.any_some xh_MixedError; rw [hc]; rfl) xt_MixedError y_NoText_MixedError, y_NotRight_NoCommand := kit_own y_NotRight_NotRight (by obtain ⟨cd, hc, _⟩ := PySem.W.any_some xh_NoCommand; rw [hc]; rfl) xt_NoCommand y_NotRight_NoCommand, y_NotRight_NoName := kit_own y_NotRight_NotRight (by obtain ⟨cd, hc, _⟩ := PySem.W.any_some xh_NoName; rw [hc]; rfl) xt_NoName y_NotRight_NoName, y_NotRight_NoText := kit_own y_NotRight_NotRight (by obtain ⟨cd, hc, _⟩ := PySem.W.any_some xh_NoText; rw [hc]; rfl) xt_NoText y_NotRight_NoText, y_NotRight_NotRight := kit_own y_NotRight_NotRight (by obtain ⟨cd, hc, _⟩ := PySem.W.any_some xh_NotRight; rw [hc]; rfl) xt_NotRight y_NotRight_NotRight, y_NotRight_TooMany := kit_own y_NotRight_NotRight (by obtain ⟨cd, hc, _⟩ := PySem.W.any_some xh_TooMany; rw [hc]; rfl) xt_TooMany y_NotRight_TooMany, y_NotRight_Wrong := kit_own y_NotRight_NotRight (by obtain ⟨cd, hc, _⟩ := PySem.W.any_some xh_Wrong; rw [hc]; rfl) xt_Wrong y_NotRight_Wrong, y_NotRight_Nothing := kit_own y_NotRight_NotRight (by obtain ⟨cd, hc, _⟩ := PySem.W.any_some xh_Nothing; rw [hc]; rfl) xt_Nothing y_NotRight_Nothing, y_NotRight_MixedError := kit_own y_NotRight_NotRight (by obtain ⟨cd, hc, _⟩ := PySem.W.any_some xh_MixedError; rw [hc]; rfl) xt_MixedError y_NotRight_MixedError, y_TooMany_NoCommand := kit_own y_TooMany_TooMany (by obtain ⟨cd, hc, _⟩ := PySem.W.any_some xh_NoCommand; rw [hc]; rfl) xt_NoCommand y_TooMany_NoCommand, y_TooMany_NoName := kit_own y_TooMany_TooMany (by obtain ⟨cd, hc, _⟩ := PySem.W.any_some xh_NoName; rw [hc]; rfl) xt_NoName y_TooMany_NoName, y_TooMany_NoText := kit_own y_TooMany_TooMany (by obtain ⟨cd, hc, _⟩ := PySem.W.any_some xh_NoText; rw [hc]; rfl) xt_NoText y_TooMany_NoText, y_TooMany_NotRight := kit_own y_TooMany_TooMany (by obtain ⟨cd, hc, _⟩ := PySem.W.any_some xh_NotRight; rw [hc]; rfl) xt_NotRight y_TooMany_NotRight, y_TooMany_TooMany := kit_own y_TooMany_TooMany (by obtain ⟨cd, hc, _⟩ := PySem.W.any_some xh_TooMany; rw [hc]; rfl) xt_TooMany y_TooMany_TooMany, y_TooMany_Wrong := kit_own y_TooMany_TooMany (by obtain ⟨cd, hc, _⟩ := PySem.W.any_some xh_Wrong; rw [hc]; rfl) xt_Wrong y_TooMany_Wrong, y_TooMany_Nothing := kit_own y_TooMany_TooMany (by obtain ⟨cd, hc, _⟩ := PySem.W.any_some xh_Nothing; rw [hc]; rfl) xt_Nothing y_TooMany_Nothing, y_TooMany_MixedError := kit_own y_TooMany_TooMany (by obtain ⟨cd, hc, _⟩ := PySem.W.any_some xh_MixedError; rw [hc]; rfl) xt_MixedError y_TooMany_MixedError, y_Wrong_NoCommand := kit_own y_Wrong_Wrong (by obtain ⟨cd, hc, _⟩ := PySem.W.any_some xh_NoCommand; rw [hc]; rfl) xt_NoCommand y_Wrong_NoCommand, y_Wrong_NoName := kit_own y_Wrong_Wrong (by obtain ⟨cd, hc, _⟩ := PySem.W.any_some xh_NoName; rw [hc]; rfl) xt_NoName y_Wrong_NoName, y_Wrong_NoText := kit_own y_Wrong_Wrong (by obtain ⟨cd, hc, _⟩ := PySem.W.any_some xh_NoText; rw [hc]; rfl) xt_NoText y_Wrong_NoText, y_Wrong_NotRight := kit_own y_Wrong_Wrong (by obtain ⟨cd, hc, _⟩ := PySem.W.any_some xh_NotRight; rw [hc]; rfl) xt_NotRight y_Wrong_NotRight, y_Wrong_TooMany := kit_own y_Wrong_Wrong (by obtain ⟨cd, hc, _⟩ := PySem.W.any_some xh_TooMany; rw [hc]; rfl) xt_TooMany y_Wrong_TooMany, y_Wrong_Wrong := kit_own y_Wrong_Wrong (by obtain ⟨cd, hc, _⟩ := PySem.W.any_some xh_Wrong; rw [hc]; rfl) xt_Wrong y_Wrong_Wrong, y_Wrong_Nothing := kit_own y_Wrong_Wrong (by obtain ⟨cd, hc, _⟩ := PySem.W.any_some xh_Nothing; rw [hc]; rfl) xt_Nothing y_Wrong_Nothing, y_Wrong_MixedError := kit_own y_Wrong_Wrong (by obtain ⟨cd, hc, _⟩ := PySem.W.any_some xh_MixedError; rw [hc]; rfl) xt_MixedError y_Wrong_MixedError, y_Nothing_NoCommand := kit_own y_Nothing_Nothing (by obtain ⟨cd, hc, _⟩ := PySem.W.any_some xh_NoCommand; rw [hc]; rfl) xt_NoCommand y_Nothing_NoCommand, y_Nothing_NoName := kit_own y_Nothing_Nothing (by obtain ⟨cd, hc, _⟩ := PySem.W.any_some xh_NoName; rw [hc]; rfl) xt_NoName y_Nothing_NoName, y_Nothing_NoText := kit_own y_Nothing_Nothing (by obtain ⟨cd, hc, _⟩ := PySem.W.any_some xh_NoText; rw [hc]; rfl) xt_NoText y_Nothing_NoText, y_Nothing_NotRight := kit_own y_Nothing_Nothing (by obtain ⟨cd, hc, _⟩ := PySem.W.any_some xh_NotRight; rw [hc]; rfl) xt_NotRight y_Nothing_NotRight, y_Nothing_TooMany := kit_own y_Nothing_Nothing (by obtain ⟨cd, hc, _⟩ := PySem.W.any_some xh_TooMany; rw [hc]; rfl) xt_TooMany y_Nothing_TooMany, y_Nothing_Wrong := kit_own y_Nothing_Nothing (by obtain ⟨cd, hc, _⟩ := PySem.W.any_some xh_Wrong; rw [hc]; rfl) xt_Wrong y_Nothing_Wrong, y_Nothing_Nothing := kit_own y_Nothing_Nothing (by obtain ⟨cd, hc, _⟩ := PySem.W.any_some xh_Nothing; rw [hc]; rfl) xt_Nothing y_Nothing_Nothing, y_Nothing_MixedError := kit_own y_Nothing_Nothing (by obtain ⟨cd, hc, _⟩ := PySem.W.any_some xh_MixedError; rw [hc]; rfl) xt_MixedError y_Nothing_MixedError, y_MixedError_NoCommand := kit_own y_MixedError_MixedError (by obtain ⟨cd, hc, _⟩ := PySem.W.any_some xh_NoCommand; rw [hc]; rfl) xt_NoCommand y_MixedError_NoCommand, y_MixedError_NoName := kit_own y_MixedError_MixedError (by obtain ⟨cd, hc, _⟩ := PySem.W.any_some xh_NoName; rw [hc]; rfl) xt_NoName y_MixedError_NoName, y_MixedError_NoText := kit_own y_MixedError_MixedError (by obtain ⟨cd, hc, _⟩ := PySem.W.any_some xh_NoText; rw [hc]; rfl) xt_NoText y_MixedError_NoText, y_MixedError_NotRight := kit_own y_MixedError_MixedError (by obtain ⟨cd, hc, _⟩ := PySem.W.any_some xh_NotRight; rw [hc]; rfl) xt_NotRight y_MixedError_NotRight, y_MixedError_TooMany := kit_own y_MixedError_MixedError (by obtain ⟨cd, hc, _⟩ := PySem.W.any_some xh_TooMany; rw [hc]; rfl) xt_TooMany y_MixedError_TooMany, y_MixedError_Wrong := kit_own y_MixedError_MixedError (by obtain ⟨cd, hc, _⟩ := PySem.W.any_some xh_Wrong; rw [hc]; rfl) xt_Wrong y_MixedError_Wrong, y_MixedError_Nothing := kit_own y_MixedError_MixedError (by obtain ⟨cd, hc, _⟩ := PySem.W.any_some xh_Nothing; rw [hc]; rfl) xt_Nothing y_MixedError_Nothing, y_MixedError_MixedError := kit_own y_MixedError_MixedError (by obtain ⟨cd, hc, _⟩ := PySem.W.any_some xh_MixedError; rw [hc]; rfl) xt_MixedError y_MixedError_MixedError, y_NoCommand_ValueError := kit_bi (by decide +kernel) y_NoCommand_ValueError, y_NoName_ValueError := kit_bi (by decide +kernel) y_NoName_ValueError, y_NoText_ValueError := kit_bi (by decide +kernel) y_NoText_ValueError, y_NotRight_ValueError := kit_bi (by decide +kernel) y_NotRight_ValueError, y_TooMany_ValueError := kit_bi (by decide +kernel) y_TooMany_ValueError, y_Wrong_ValueError := kit_bi (by decide +kernel) y_Wrong_ValueError, y_Nothing_ValueError := kit_bi (by decide +kernel) y_Nothing_ValueError, y_MixedError_ValueError := kit_bi (by decide +kernel) y_MixedError_ValueError, z_abs := PySem.W.mg_none_of X G z_abs, z_int := PySem.W.mg_none_of X G z_int, z_repr := PySem.W.mg_none_of X G z_repr, z_len := PySem.W.mg_none_of X G z_len, z_isinstance := PySem.W.mg_none_of X G z_isinstance, z_range := PySem.W.mg_none_of X G z_range, z_enumerate := PySem.W.mg_none_of X G z_enumerate, z_list := PySem.W.mg_none_of X G z_list, z_ValueError := PySem.W.mg_none_of X G z_ValueError }
  exact ⟨_, fun s v => .of_eq rfl, fun base _ _ => ok_law T⟩
end LW
open PySem PySem.W PyProof.Rows
set_option maxRecDepth 100000 in
set_option maxHeartbeats 0 in
theorem PySem.Challenge.cw_besidealone_k00_errors_of_any_values_holds : PySem.Challenge.rw_besidealone_k00_errors_of_any_values.Holds := by
  w_on; o_law; k_head; (case hw => w_witness2)
  k_fill
  refine DL.walk_g (k := 4) (x := "script") (l := PySem.Challenge.rw_besidealone_k00_errors_of_any_values) rfl rfl ⟨⟨rfl, by decide, by decide⟩, rfl⟩ (fun w h Y => PySem.W.kIn_of Y) ?F
  case F =>
    intro w mg fa h KX G hmg
    refine' LW.all_mk KX G hmg ?n_NoCommand ?xk_NoCommand ?xga_NoCommand ?xgg_NoCommand ?xe_NoCommand ?xh_NoCommand ?xc_NoCommand ?xo_NoCommand ?xt_NoCommand ?n_NoName ?xk_NoName ?xga_NoName ?xgg_NoName ?xe_NoName ?xh_NoName ?xc_NoName ?xo_NoName ?xt_NoName ?n_NoText ?xk_NoText ?xga_NoText ?xgg_NoText ?xe_NoText ?xh_NoText ?xc_NoText ?xo_NoText ?xt_NoText ?n_NotRight ?xk_NotRight ?xga_NotRight ?xgg_NotRight ?xe_NotRight ?xh_NotRight ?xc_NotRight ?xo_NotRight ?xt_NotRight ?n_TooMany ?xk_TooMany ?xga_TooMany ?xgg_TooMany ?xe_TooMany ?xh_TooMany ?xc_TooMany ?xo_TooMany ?xt_TooMany ?n_Wrong ?xk_Wrong ?xga_Wrong ?xgg_Wrong ?xe_Wrong ?xh_Wrong ?xc_Wrong ?xo_Wrong ?xt_Wrong ?n_Nothing ?xk_Nothing ?xga_Nothing ?xgg_Nothing ?xe_Nothing ?xh_Nothing ?xc_Nothing ?xo_Nothing ?xt_Nothing ?n_MixedError ?xk_MixedError ?xga_MixedError ?xgg_MixedError ?xe_MixedError ?xh_MixedError ?xc_MixedError ?xo_MixedError ?xt_MixedError ?xn ?xtk ?xL_NoCommand ?xsa_NoCommand ?xw_NoCommand ?xL_NoName ?xsa_NoName ?xw_NoName ?xL_NoText ?xsa_NoText ?xw_NoText ?xL_NotRight ?xsa_NotRight ?xw_NotRight ?xL_TooMany ?xsa_TooMany ?xw_TooMany ?xL_Wrong ?xsa_Wrong ?xw_Wrong ?xx_Nothing ?xx_MixedError ?bga ?brd ?bfi ?y_NoCommand_NoCommand ?y_NoCommand_NoName ?y_NoCommand_NoText ?y_NoCommand_NotRight ?y_NoCommand_TooMany ?y_NoCommand_Wrong ?y_NoCommand_Nothing ?y_NoCommand_MixedError ?y_NoName_NoCommand ?y_NoName_NoName ?y_NoName_NoText ?y_NoName_NotRight ?y_NoName_TooMany ?y_NoName_Wrong ?y_NoName_Nothing ?y_NoName_MixedError ?y_NoText_NoCommand ?y_NoText_NoName ?y_NoText_NoText ?y_NoText_NotRight ?y_NoText_TooMany ?y_NoText_Wrong ?y_NoText_Nothing ?y_NoText_MixedError ?y_NotRight_NoCommand ?y_NotRight_NoName ?y_NotRight_NoText ?y_NotRight_NotRight ?y_NotRight_TooMany ?y_NotRight_Wrong ?y_NotRight_Nothing ?y_NotRight_MixedError ?y_TooMany_NoCommand ?y_TooMany_NoName ?y_TooMany_NoText ?y_TooMany_NotRight ?y_TooMany_TooMany ?y_TooMany_Wrong ?y_TooMany_Nothing ?y_TooMany_MixedError ?y_Wrong_NoCommand ?y_Wrong_NoName ?y_Wrong_NoText ?y_Wrong_NotRight ?y_Wrong_TooMany ?y_Wrong_Wrong ?y_Wrong_Nothing ?y_Wrong_MixedError ?y_Nothing_NoCommand ?y_Nothing_NoName ?y_Nothing_NoText ?y_Nothing_NotRight ?y_Nothing_TooMany ?y_Nothing_Wrong ?y_Nothing_Nothing ?y_Nothing_MixedError ?y_MixedError_NoCommand ?y_MixedError_NoName ?y_MixedError_NoText ?y_MixedError_NotRight ?y_MixedError_TooMany ?y_MixedError_Wrong ?y_MixedError_Nothing ?y_MixedError_MixedError ?y_NoCommand_ValueError ?y_NoName_ValueError ?y_NoText_ValueError ?y_NotRight_ValueError ?y_TooMany_ValueError ?y_Wrong_ValueError ?y_Nothing_ValueError ?y_MixedError_ValueError ?a0 ?l0 ?c0 ?k0 ?a1 ?l1 ?c1 ?k1 ?a2 ?l2 ?c2 ?k2 ?a3 ?l3 ?c3 ?k3 ?a4 ?l4 ?c4 ?k4 ?a5 ?t5 ?l5 ?c5 ?k5 ?a6 ?t6 ?l6 ?c6 ?k6 ?a7 ?t7 ?l7 ?c7 ?k7 ?a8 ?t8 ?l8 ?c8 ?k8 ?a9 ?t9 ?l9 ?c9 ?k9 ?a10 ?t10 ?l10 ?c10 ?k10 ?a11 ?l11 ?c11 ?k11 ?a12 ?l12 ?c12 ?k12 ?a13 ?l13 ?c13 ?k13 ?z_abs ?z_int ?z_repr ?z_len ?z_isinstance ?z_range ?z_enumerate ?z_list ?z_ValueError
    (case n_NoCommand => k_is)
    (case xk_NoCommand => k_is)
    (case xga_NoCommand => k_is)
    (case xgg_NoCommand => k_is)
    (case xe_NoCommand => k_is)
    (case xh_NoCommand => k_is)
    (case xc_NoCommand => k_is)
    (case xo_NoCommand => k_is)
    (case xt_NoCommand => k_is)
    (case n_NoName => k_is)
    (case xk_NoName => k_is)
    (case xga_NoName => k_is)
    (case xgg_NoName => k_is)
    (case xe_NoName => k_is)
    (case xh_NoName => k_is)
    (case xc_NoName => k_is)
    (case xo_NoName => k_is)
    (case xt_NoName => k_is)
    (case n_NoText => k_is)
    (case xk_NoText => k_is)
    (case xga_NoText => k_is)
    (case xgg_NoText => k_is)
    (case xe_NoText => k_is)
    (case xh_NoText => k_is)
    (case xc_NoText => k_is)
    (case xo_NoText => k_is)
    (case xt_NoText => k_is)
    (case n_NotRight => k_is)
    (case xk_NotRight => k_is)
    (case xga_NotRight => k_is)
    (case xgg_NotRight => k_is)
    (case xe_NotRight => k_is)
    (case xh_NotRight => k_is)
    (case xc_NotRight => k_is)
    (case xo_NotRight => k_is)
    (case xt_NotRight => k_is)
    (case n_TooMany => k_is)
    (case xk_TooMany => k_is)
    (case xga_TooMany => k_is)
    (case xgg_TooMany => k_is)
    (case xe_TooMany => k_is)
    (case xh_TooMany => k_is)
    (case xc_TooMany => k_is)
    (case xo_TooMany => k_is)
    (case xt_TooMany => k_is)
    (case n_Wrong => k_is)
    (case xk_Wrong => k_is)
    (case xga_Wrong => k_is)
    (case xgg_Wrong => k_is)
    (case xe_Wrong => k_is)
    (case xh_Wrong => k_is)
    (case xc_Wrong => k_is)
    (case xo_Wrong => k_is)
    (case xt_Wrong => k_is)
    (case n_Nothing => k_is)
    (case xk_Nothing => k_is)
    (case xga_Nothing => k_is)
    (case xgg_Nothing => k_is)
    (case xe_Nothing => k_is)
    (case xh_Nothing => k_is)
    (case xc_Nothing => k_is)
    (case xo_Nothing => k_is)
    (case xt_Nothing => k_is)
    (case n_MixedError => k_is)
    (case xk_MixedError => k_is)
    (case xga_MixedError => k_is)
    (case xgg_MixedError => k_is)
    (case xe_MixedError => k_is)
    (case xh_MixedError => k_is)
    (case xc_MixedError => k_is)
    (case xo_MixedError => k_is)
    (case xt_MixedError => k_is)
    (case xn => k_is)
    (case xtk => k_is)
    (case xL_NoCommand => k_is)
    (case xsa_NoCommand => k_is)
    (case xw_NoCommand => k_is)
    (case xL_NoName => k_is)
    (case xsa_NoName => k_is)
    (case xw_NoName => k_is)
    (case xL_NoText => k_is)
    (case xsa_NoText => k_is)
    (case xw_NoText => k_is)
    (case xL_NotRight => k_is)
    (case xsa_NotRight => k_is)
    (case xw_NotRight => k_is)
    (case xL_TooMany => k_is)
    (case xsa_TooMany => k_is)
    (case xw_TooMany => k_is)
    (case xL_Wrong => k_is)
    (case xsa_Wrong => k_is)
    (case xw_Wrong => k_is)
    (case xx_Nothing => k_exc)
    (case xx_MixedError => k_exc)
    (case bga => k_is)
    (case brd => k_is)
    (case bfi => k_is)
    (case y_NoCommand_NoCommand => k_is)
    (case y_NoCommand_NoName => k_is)
    (case y_NoCommand_NoText => k_is)
    (case y_NoCommand_NotRight => k_is)
    (case y_NoCommand_TooMany => k_is)
    (case y_NoCommand_Wrong => k_is)
    (case y_NoCommand_Nothing => k_is)
    (case y_NoCommand_MixedError => k_is)
    (case y_NoName_NoCommand => k_is)
    (case y_NoName_NoName => k_is)
    (case y_NoName_NoText => k_is)
    (case y_NoName_NotRight => k_is)
    (case y_NoName_TooMany => k_is)
    (case y_NoName_Wrong => k_is)
    (case y_NoName_Nothing => k_is)
    (case y_NoName_MixedError => k_is)
    (case y_NoText_NoCommand => k_is)
    (case y_NoText_NoName => k_is)
    (case y_NoText_NoText => k_is)
    (case y_NoText_NotRight => k_is)
    (case y_NoText_TooMany => k_is)
    (case y_NoText_Wrong => k_is)
    (case y_NoText_Nothing => k_is)
    (case y_NoText_MixedError => k_is)
    (case y_NotRight_NoCommand => k_is)
    (case y_NotRight_NoName => k_is)
    (case y_NotRight_NoText => k_is)
    (case y_NotRight_NotRight => k_is)
    (case y_NotRight_TooMany => k_is)
    (case y_NotRight_Wrong => k_is)
    (case y_NotRight_Nothing => k_is)
    (case y_NotRight_MixedError => k_is)
    (case y_TooMany_NoCommand => k_is)
    (case y_TooMany_NoName => k_is)
    (case y_TooMany_NoText => k_is)
    (case y_TooMany_NotRight => k_is)
    (case y_TooMany_TooMany => k_is)
    (case y_TooMany_Wrong => k_is)
    (case y_TooMany_Nothing => k_is)
    (case y_TooMany_MixedError => k_is)
    (case y_Wrong_NoCommand => k_is)
    (case y_Wrong_NoName => k_is)
    (case y_Wrong_NoText => k_is)
    (case y_Wrong_NotRight => k_is)
    (case y_Wrong_TooMany => k_is)
    (case y_Wrong_Wrong => k_is)
    (case y_Wrong_Nothing => k_is)
    (case y_Wrong_MixedError => k_is)
    (case y_Nothing_NoCommand => k_is)
    (case y_Nothing_NoName => k_is)
    (case y_Nothing_NoText => k_is)
    (case y_Nothing_NotRight => k_is)
    (case y_Nothing_TooMany => k_is)
    (case y_Nothing_Wrong => k_is)
    (case y_Nothing_Nothing => k_is)
    (case y_Nothing_MixedError => k_is)
    (case y_MixedError_NoCommand => k_is)
    (case y_MixedError_NoName => k_is)
    (case y_MixedError_NoText => k_is)
    (case y_MixedError_NotRight => k_is)
    (case y_MixedError_TooMany => k_is)
    (case y_MixedError_Wrong => k_is)
    (case y_MixedError_Nothing => k_is)
    (case y_MixedError_MixedError => k_is)
    (case y_NoCommand_ValueError => k_is)
    (case y_NoName_ValueError => k_is)
    (case y_NoText_ValueError => k_is)
    (case y_NotRight_ValueError => k_is)
    (case y_TooMany_ValueError => k_is)
    (case y_Wrong_ValueError => k_is)
    (case y_Nothing_ValueError => k_is)
    (case y_MixedError_ValueError => k_is)
    (case a0 => k_is)
    (case l0 => k_is)
    (case c0 => k_is)
    (case k0 => k_is)
    (case a1 => k_is)
    (case l1 => k_is)
    (case c1 => k_is)
    (case k1 => k_is)
    (case a2 => k_is)
    (case l2 => k_is)
    (case c2 => k_is)
    (case k2 => k_is)
    (case a3 => k_is)
    (case l3 => k_is)
    (case c3 => k_is)
    (case k3 => k_is)
    (case a4 => k_is)
    (case l4 => k_is)
    (case c4 => k_is)
    (case k4 => k_is)
    (case a5 => k_is)
    (case t5 => k_is)
    (case l5 => k_is)
    (case c5 => k_is)
    (case k5 => k_is)
    (case a6 => k_is)
    (case t6 => k_is)
    (case l6 => k_is)
    (case c6 => k_is)
    (case k6 => k_is)
    (case a7 => k_is)
    (case t7 => k_is)
    (case l7 => k_is)
    (case c7 => k_is)
    (case k7 => k_is)
    (case a8 => k_is)
    (case t8 => k_is)
    (case l8 => k_is)
    (case c8 => k_is)
    (case k8 => k_is)
    (case a9 => k_is)
    (case t9 => k_is)
    (case l9 => k_is)
    (case c9 => k_is)
    (case k9 => k_is)
    (case a10 => k_is)
    (case t10 => k_is)
    (case l10 => k_is)
    (case c10 => k_is)
    (case k10 => k_is)
    (case a11 => k_is)
    (case l11 => k_is)
    (case c11 => k_is)
    (case k11 => k_is)
    (case a12 => k_is)
    (case l12 => k_is)
    (case c12 => k_is)
    (case k12 => k_is)
    (case a13 => k_is)
    (case l13 => k_is)
    (case c13 => k_is)
    (case k13 => k_is)
    (case z_abs => k_is)
    (case z_int => k_is)
    (case z_repr => k_is)
    (case z_len => k_is)
    (case z_isinstance => k_is)
    (case z_range => k_is)
    (case z_enumerate => k_is)
    (case z_list => k_is)
    (case z_ValueError => k_is)
#print axioms PySem.Challenge.cw_besidealone_k00_errors_of_any_values_holds
