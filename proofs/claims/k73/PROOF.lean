import PyProof.Rows.All
import HandS.ForMost
import HandS.DictComp
import HandS.CallLocal
import HandS.TupAny
import HandS.Conv
import KE.KDictKeyed
import KE.SortData
import HandS.Deep
import HandS.Flow
import HandS.Style
import PyProof.TupleOfSeq
import KE.KDictPairs
import HandS.SetFor
import PySem.Challenge.RW_boneways_k73_whole_pieces_by_themselves
set_option Elab.async false
set_option linter.all false
set_option maxRecDepth 100000
set_option maxHeartbeats 4000003
namespace Ab
open PySem PySem.Spec PyProof.Rows L2

/-! ### owners, data in the heap -/
/-- who owns an address: nobody, a temporary (0), a slot (i + 1) -/
abbrev Own := Addr → Option Nat
def Fre (w : Own) (b : Addr) : Prop := ∀ i, w b ≠ some (i + 1)
theorem Fre.of_none {w : Own} {b : Addr} (h : w b = none) : Fre w b := fun i e => by rw [h] at e; cases e
theorem Fre.of_tmp {w : Own} {b : Addr} (h : w b = some 0) : Fre w b := fun i e => by rw [h] at e; cases e
/-- a list that nobody changes: shared, or the module's own -/
def ShL (K : PySem.W.Frag) (H : Hp) (w : Own) (a : Addr) (xs : List V) : Prop :=
  (Rd H a (.lst xs) ∧ w a = none) ∨ ∃ (o : Obj) (its : Array Value) (n : Nat), K.lookup a = some o ∧ o.cls = .type "list" ∧ o.dict = none ∧ o.data = .seq its n ∧ its.size ≤ sizeLine ∧ Vals xs its.toList
theorem ShL.sq {K : PySem.W.Frag} {H : Hp} {w : Own} {a : Addr} {xs : List V} (h : ShL K H w a xs) : SqL K H a xs := h.imp (fun z => z.1) id

mutual
inductive DR (K : PySem.W.Frag) (H : Hp) (w : Own) : V → PyData → Prop
  | non : DR K H w .non .none
  | bl (b : Bool) : DR K H w (.bl b) (.bool b)
  | int (i : Int) : DR K H w (.int i) (.int i)
  | str (x : Str) : DR K H w (.str x) (.str x)
  | lst {a : Addr} {xs : List V} {ds : List PyData} : ShL K H w a xs → DRs K H w xs ds → DR K H w (.ref a) (.list ds)
  | tup {a : Addr} {xs : List V} {ds : List PyData} : SqT K H a xs → DRs K H w xs ds → DR K H w (.ref a) (.tuple ds)
inductive DRs (K : PySem.W.Frag) (H : Hp) (w : Own) : List V → List PyData → Prop
  | nil : DRs K H w [] []
  | cons {v : V} {vs : List V} {d : PyData} {ds : List PyData} : DR K H w v d → DRs K H w vs ds → DRs K H w (v :: vs) (d :: ds)
end

/-- shared and unchanging things stay -/
structure Mv (w : Own) (H : Hp) (w' : Own) (H' : Hp) : Prop where
  k : ∀ b o, H b = some o → (w b = none ∨ ¬ Mut (some o)) → H' b = some o
  n : ∀ b, H b ≠ none → w b = none → w' b = none

theorem rd_ne {H : Hp} {a : Addr} {u : HO} (h : Rd H a u) : H a ≠ none := by
  rcases h with h | ⟨o, h⟩ <;> rw [h] <;> exact fun e => nomatch e

section
variable {K : PySem.W.Frag} {H H' : Hp} {w w' : Own}
theorem Mv.rdL (m : Mv w H w' H') {a : Addr} {xs : List V} (h : Rd H a (.lst xs)) (f : w a = none) : Rd H' a (.lst xs) := by
  rcases h with h | ⟨o, h⟩
  · exact .inl (m.k _ _ h (.inl f))
  · exact .inr ⟨o, m.k _ _ h (.inl f)⟩
theorem ShL.mv (m : Mv w H w' H') {a : Addr} {xs : List V} (h : ShL K H w a xs) : ShL K H' w' a xs := h.imp (fun z => ⟨m.rdL z.1 z.2, m.n _ (rd_ne z.1) z.2⟩) id
theorem Mv.sqT (m : Mv w H w' H') {a : Addr} {xs : List V} (h : SqT K H a xs) : SqT K H' a xs := by
  rcases h with (h | ⟨o, h⟩) | h
  · exact .inl (.inl (m.k _ _ h (.inr fun z => z)))
  · exact .inl (.inr ⟨o, m.k _ _ h (.inr fun z => z)⟩)
  · exact .inr h
mutual
theorem DR.mv (m : Mv w H w' H') : ∀ (d : PyData) (v : V), DR K H w v d → DR K H' w' v d
  | .none, _, h => by cases h; exact .non
  | .bool b, _, h => by cases h; exact .bl b
  | .int i, _, h => by cases h; exact .int i
  | .str x, _, h => by cases h; exact .str x
  | .list ds, _, h => by
    cases h with
    | lst h1 h3 => exact .lst (h1.mv m) (DRs.mv m ds _ h3)
  | .tuple ds, _, h => by
    cases h with
    | tup h1 h2 => exact .tup (m.sqT h1) (DRs.mv m ds _ h2)
  | .dict _, _, h => by cases h
theorem DRs.mv (m : Mv w H w' H') : ∀ (ds : List PyData) (vs : List V), DRs K H w vs ds → DRs K H' w' vs ds
  | [], _, h => by cases h; exact .nil
  | d :: ds, _, h => by
    cases h with
    | cons h1 h2 => exact .cons (DR.mv m d _ h1) (DRs.mv m ds _ h2)
end
mutual
theorem DR.dp : ∀ (d : PyData) (v : V), DR K H w v d → Dp K H v d
  | .none, _, h => by cases h; exact .non
  | .bool b, _, h => by cases h; exact .bl b
  | .int i, _, h => by cases h; exact .int i
  | .str x, _, h => by cases h; exact .str x
  | .list ds, _, h => by
    cases h with
    | lst h1 h3 => exact .lst h1.sq (DRs.dp ds _ h3)
  | .tuple ds, _, h => by
    cases h with
    | tup h1 h2 => exact .tup h1 (DRs.dp ds _ h2)
  | .dict _, _, h => by cases h
theorem DRs.dp : ∀ (ds : List PyData) (vs : List V), DRs K H w vs ds → DpAll K H vs ds
  | [], _, h => by cases h; exact .nil
  | d :: ds, _, h => by
    cases h with
    | cons h1 h2 => exact .cons (DR.dp d _ h1) (DRs.dp ds _ h2)
end
theorem DRs.length : ∀ {ds : List PyData} {vs : List V}, DRs K H w vs ds → vs.length = ds.length
  | [], _, h => by cases h; rfl
  | d :: ds, _, h => by
    cases h with
    | cons h1 h2 => simp [DRs.length h2]
theorem DRs.get : ∀ {ds : List PyData} {vs : List V} {i : Nat} {d : PyData}, DRs K H w vs ds → ds[i]? = some d → ∃ v, vs[i]? = some v ∧ DR K H w v d
  | [], _, _, _, h, e => by simp at e
  | d :: ds, _, 0, x, h, e => by
    cases h with
    | cons h1 h2 => simp at e; subst e; exact ⟨_, rfl, h1⟩
  | d :: ds, _, i + 1, x, h, e => by
    cases h with
    | cons h1 h2 =>
      obtain ⟨v, q1, q2⟩ := DRs.get h2 (i := i) (d := x) (by simpa using e)
      exact ⟨v, by simpa using q1, q2⟩
theorem DRs.getV : ∀ {ds : List PyData} {vs : List V} {i : Nat} {v : V}, DRs K H w vs ds → vs[i]? = some v → ∃ d, ds[i]? = some d ∧ DR K H w v d
  | [], _, _, _, h, e => by cases h; simp at e
  | d :: ds, _, 0, x, h, e => by
    cases h with
    | cons h1 h2 => simp at e; subst e; exact ⟨_, rfl, h1⟩
  | d :: ds, _, i + 1, x, h, e => by
    cases h with
    | cons h1 h2 =>
      obtain ⟨v, q1, q2⟩ := DRs.getV h2 (i := i) (v := x) (by simpa using e)
      exact ⟨v, by simpa using q1, q2⟩
theorem DRs.append : ∀ {ds es : List PyData} {vs us : List V}, DRs K H w vs ds → DRs K H w us es → DRs K H w (vs ++ us) (ds ++ es)
  | [], _, _, _, h, g => by cases h; exact g
  | d :: ds, _, _, _, h, g => by
    cases h with
    | cons h1 h2 => exact .cons h1 (DRs.append h2 g)
theorem DRs.snoc {ds : List PyData} {vs : List V} {v : V} {d : PyData} (h : DRs K H w vs ds) (g : DR K H w v d) : DRs K H w (vs ++ [v]) (ds ++ [d]) := h.append (.cons g .nil)
theorem DRs.take : ∀ {ds : List PyData} {vs : List V} (n : Nat), DRs K H w vs ds → DRs K H w (vs.take n) (ds.take n)
  | _, _, 0, _ => by simp; exact .nil
  | [], _, n + 1, h => by cases h; simp; exact .nil
  | d :: ds, _, n + 1, h => by
    cases h with
    | cons h1 h2 => simp only [List.take_succ_cons]; exact .cons h1 (DRs.take n h2)
theorem DRs.drop : ∀ {ds : List PyData} {vs : List V} (n : Nat), DRs K H w vs ds → DRs K H w (vs.drop n) (ds.drop n)
  | _, _, 0, h => by simpa using h
  | [], _, n + 1, h => by cases h; simp; exact .nil
  | d :: ds, _, n + 1, h => by
    cases h with
    | cons h1 h2 => simp only [List.drop_succ_cons]; exact DRs.drop n h2
theorem DRs.dropLast {ds : List PyData} {vs : List V} (h : DRs K H w vs ds) : DRs K H w vs.dropLast ds.dropLast := by
  rw [List.dropLast_eq_take, List.dropLast_eq_take, h.length]
  exact h.take _
theorem DRs.eraseIdx {ds : List PyData} {vs : List V} (n : Nat) (h : DRs K H w vs ds) : DRs K H w (vs.eraseIdx n) (ds.eraseIdx n) := by
  rw [List.eraseIdx_eq_take_drop_succ, List.eraseIdx_eq_take_drop_succ]
  exact (h.take _).append (h.drop _)
theorem DRs.reverse : ∀ {ds : List PyData} {vs : List V}, DRs K H w vs ds → DRs K H w vs.reverse ds.reverse
  | [], _, h => by cases h; exact .nil
  | d :: ds, _, h => by
    cases h with
    | cons h1 h2 => rw [List.reverse_cons, List.reverse_cons]; exact (DRs.reverse h2).snoc h1
theorem DRs.ints : ∀ ns : List Int, DRs K H w (ns.map V.int) (ns.map PyData.int)
  | [] => .nil
  | n :: ns => .cons (.int n) (DRs.ints ns)
theorem DRs.ints_inv : ∀ {ns : List Int} {vs : List V}, DRs K H w vs (ns.map PyData.int) → vs = ns.map V.int
  | [], vs, h => by rw [List.map_nil] at h; cases h; rfl
  | n :: ns, vs, h => by
    rw [List.map_cons] at h
    cases h with
    | cons h1 h2 => cases h1; rw [DRs.ints_inv h2]; rfl
theorem DRs.bools_inv : ∀ {ns : List Bool} {vs : List V}, DRs K H w vs (ns.map PyData.bool) → vs = ns.map V.bl
  | [], vs, h => by rw [List.map_nil] at h; cases h; rfl
  | n :: ns, vs, h => by
    rw [List.map_cons] at h
    cases h with
    | cons h1 h2 => cases h1; rw [DRs.bools_inv h2]; rfl
end

/-! data without lists: they never change -/
mutual
def imm : PyData → Bool
  | .none => true
  | .bool _ => true
  | .int _ => true
  | .str _ => true
  | .list _ => false
  | .tuple xs => imms xs
  | .dict _ => false
def imms : List PyData → Bool
  | [] => true
  | x :: xs => imm x && imms xs
end
/-- what an immutable tree asks of the heaps -/
structure Mt (H H' : Hp) : Prop where
  k : ∀ b o, H b = some o → ¬ Mut (some o) → H' b = some o
theorem Same.mt {H H' : Hp} (s : Same H H') : Mt H H' := ⟨fun b o h _ => s b o h⟩
theorem Mv.mt {w w' : Own} {H H' : Hp} (s : Mv w H w' H') : Mt H H' := ⟨fun b o h m => s.k b o h (.inr m)⟩
section
variable {K : PySem.W.Frag} {H H' : Hp} {w w' : Own}
theorem Mt.sqT (m : Mt H H') {a : Addr} {xs : List V} (h : SqT K H a xs) : SqT K H' a xs := by
  rcases h with (h | ⟨o, h⟩) | h
  · exact .inl (.inl (m.k _ _ h fun z => z))
  · exact .inl (.inr ⟨o, m.k _ _ h fun z => z⟩)
  · exact .inr h
mutual
theorem DR.im (m : Mt H H') : ∀ (d : PyData) (v : V), imm d = true → DR K H w v d → DR K H' w' v d
  | .none, _, _, h => by cases h; exact .non
  | .bool b, _, _, h => by cases h; exact .bl b
  | .int i, _, _, h => by cases h; exact .int i
  | .str x, _, _, h => by cases h; exact .str x
  | .list ds, _, i, h => by simp [imm] at i
  | .tuple ds, _, i, h => by
    cases h with
    | tup h1 h2 => exact .tup (m.sqT h1) (DRs.im m ds _ (by simpa [imm] using i) h2)
  | .dict _, _, _, h => by cases h
theorem DRs.im (m : Mt H H') : ∀ (ds : List PyData) (vs : List V), imms ds = true → DRs K H w vs ds → DRs K H' w' vs ds
  | [], _, _, h => by cases h; exact .nil
  | d :: ds, _, i, h => by
    rw [imms, Bool.and_eq_true] at i
    cases h with
    | cons h1 h2 => exact .cons (DR.im m d _ i.1 h1) (DRs.im m ds _ i.2 h2)
end
end
theorem imms_map {α : Type} {f : α → PyData} {l : List α} (h : ∀ x ∈ l, imm (f x) = true) : imms (l.map f) = true := by
  induction l with
  | nil => rfl
  | cons a r ih => rw [List.map_cons, imms, h a List.mem_cons_self, ih fun x hx => h x (List.mem_cons_of_mem _ hx)]; rfl
theorem imms_append {xs ys : List PyData} : imms (xs ++ ys) = (imms xs && imms ys) := by
  induction xs with
  | nil => simp [imms]
  | cons a r ih => rw [List.cons_append, imms, imms, ih, Bool.and_assoc]
theorem imms_all {xs : List PyData} : imms xs = true ↔ ∀ x ∈ xs, imm x = true := by
  induction xs with
  | nil => simp [imms]
  | cons a r ih => simp [imms, ih]

/-! ### keys of dicts -/
mutual
def keyOf : PyData → NestedKey
  | .none => .none
  | .bool b => .num (if b = true then 1 else 0)
  | .int i => .num i
  | .str x => .text x
  | .list _ => .none
  | .tuple xs => .tup (keysOf xs)
  | .dict _ => .none
def keysOf : List PyData → List NestedKey
  | [] => []
  | x :: xs => keyOf x :: keysOf xs
end
section
variable {X : Cx} {pins : List (Addr × Obj)} {σ : L2.St} {H : Hp} {s : Shared} {w : Own}
mutual
theorem DR.nested (I : Inv X pins σ H s) : ∀ (d : PyData) (v : V) (u : Value), imm d = true → DR X.K H w v d → RelV v u → NestedIs s.heap (keyOf d) u
  | .none, _, _, _, h, r => by cases h; cases r; exact .none
  | .bool b, _, _, _, h, r => by cases h; cases r; exact .bool rfl
  | .int i, _, _, _, h, r => by cases h; obtain ⟨t, rfl⟩ := r; exact .int i t
  | .str x, _, _, _, h, r => by cases h; obtain ⟨t, rfl⟩ := r; exact .text x t
  | .list ds, _, _, i, h, r => by simp [imm] at i
  | .tuple ds, _, _, i, h, r => by
    cases h with
    | tup hs ha =>
      cases r
      obtain ⟨its, rv, ⟨o, ho, hc, n, hd⟩, _⟩ := I.tuple hs
      exact .tup ho hc hd (DRs.nested I ds _ _ (by simpa [imm] using i) ha (by simpa using rv))
  | .dict _, _, _, _, h, _ => by cases h
theorem DRs.nested (I : Inv X pins σ H s) : ∀ (ds : List PyData) (vs : List V) (us : List Value), imms ds = true → DRs X.K H w vs ds → Vals vs us → NestedAll s.heap (keysOf ds) us
  | [], _, _, _, h, r => by cases h; cases r; exact .nil
  | d :: ds, _, _, i, h, r => by
    rw [imms, Bool.and_eq_true] at i
    cases h with
    | cons h1 h2 =>
      cases r with
      | cons r1 r2 => exact .cons (DR.nested I d _ _ i.1 h1 r1) (DRs.nested I ds _ _ i.2 h2 r2)
end
end
end Ab

namespace Ab
open PySem PySem.Spec PyProof.Rows L2

abbrev Sl := List (Option V)

/-! ### dicts keyed by tuples -/
def DO (p : Addr) (o : Obj) : HO := .ext fun h => h.get? p = some o
theorem do_ok {P : Program} {W : World} {H : Hp} {h : Heap} {p : Addr} {o : Obj} (e : h.get? p = some o) : ObjOk P W H h p (DO p o) := ⟨e, ⟨o, e⟩, fun _ _ a k => k _ a⟩
theorem do_get {P : Program} {W : World} {H : Hp} {h : Heap} {p : Addr} {o : Obj} (ok : HOk P W H h) (e : H p = some (DO p o)) : h.get? p = some o := (ok p _ e).1

def EntR (K : PySem.W.Frag) (H : Hp) (w : Own) (x : NestedKey × Addr × Value) (kv : PyData × PyData) : Prop :=
  x.1 = keyOf kv.1 ∧ imm kv.1 = true ∧ (keyOf kv.1).depth ≤ 8 ∧ DR K H w (.ref x.2.1) kv.1 ∧ ∃ v, RelV v x.2.2 ∧ DR K H w v kv.2
structure DE (P : Program) (W : World) (K : PySem.W.Frag) (H : Hp) (w : Own) (p : Addr) (o : Obj) (kvs : List (PyData × PyData)) : Prop where
  sys : (p == sysModules) = false
  len : kvs.length ≤ sizeLine
  ent : ∃ xs es ep, o.ExactDict ∧ o.data = .dict es ep ∧ es.toList = xs.map (entryOfKey (nestedKind P W)) ∧ (xs.map (·.1)).Nodup ∧ Paired (EntR K H w) xs kvs

def dget (kvs : List (PyData × PyData)) (k : PyData) : Option PyData := (kvs.find? fun kv => decide (keyOf kv.1 = keyOf k)).map (·.2)
def dput (kvs : List (PyData × PyData)) (k v : PyData) : List (PyData × PyData) :=
  if (dget kvs k).isSome = true then kvs.map (fun kv => if keyOf kv.1 = keyOf k then (kv.1, v) else kv) else kvs ++ [(k, v)]
def ddel (kvs : List (PyData × PyData)) (k : PyData) : List (PyData × PyData) := kvs.filter fun kv => decide (keyOf kv.1 ≠ keyOf k)

section
variable {P : Program} {W : World} {K : PySem.W.Frag} {H H' : Hp} {w w' : Own} {p : Addr} {o : Obj} {kvs : List (PyData × PyData)}
theorem EntR.mv (m : Mv w H w' H') {x : NestedKey × Addr × Value} {kv : PyData × PyData} (h : EntR K H w x kv) : EntR K H' w' x kv := by
  obtain ⟨h1, h2, h3, h4, v, h5, h6⟩ := h
  exact ⟨h1, h2, h3, h4.mv m, v, h5, h6.mv m⟩
theorem DE.mv (m : Mv w H w' H') (h : DE P W K H w p o kvs) : DE P W K H' w' p o kvs := by
  obtain ⟨h1, h2, xs, es, ep, h3, h4, h5, h6, h7⟩ := h
  exact ⟨h1, h2, xs, es, ep, h3, h4, h5, h6, L2.Paired.mapP h7 fun _ _ q => q.mv m⟩
theorem atKey_dget {xs : List (NestedKey × Addr × Value)} (h : Paired (EntR K H w) xs kvs) (k : PyData) :
    (atKey xs (keyOf k) = none ∧ dget kvs k = none) ∨ ∃ a u v d, atKey xs (keyOf k) = some (a, u) ∧ dget kvs k = some d ∧ RelV v u ∧ DR K H w v d := by
  induction h with
  | nil => exact .inl ⟨rfl, rfl⟩
  | @cons x kv xs kvs hx hr ih =>
    obtain ⟨h1, h2, h3, h4, v, h5, h6⟩ := hx
    by_cases e : keyOf kv.1 = keyOf k
    · refine .inr ⟨x.2.1, x.2.2, v, kv.2, ?_, ?_, h5, h6⟩
      · simp [atKey, List.find?_cons, h1, e]
      · simp [dget, List.find?_cons, e]
    · have e1 : atKey (x :: xs) (keyOf k) = atKey xs (keyOf k) := by simp [atKey, List.find?_cons, h1, e]
      have e2 : dget (kv :: kvs) k = dget kvs k := by simp [dget, List.find?_cons, e]
      rw [e1, e2]
      exact ih
theorem dget_isSome {xs : List (NestedKey × Addr × Value)} (h : Paired (EntR K H w) xs kvs) (k : PyData) : (dget kvs k).isSome = (atKey xs (keyOf k)).isSome := by
  rcases atKey_dget h k with ⟨h1, h2⟩ | ⟨a, u, v, d, h1, h2, _⟩ <;> rw [h1, h2] <;> rfl
theorem Paired.mapMap {α β γ δ : Type} {F : α → β → Prop} {G : γ → δ → Prop} {f : α → γ} {g : β → δ} : ∀ {l₁ : List α} {l₂ : List β}, Paired F l₁ l₂ → (∀ a b, F a b → G (f a) (g b)) → Paired G (l₁.map f) (l₂.map g)
  | _, _, .nil, _ => .nil
  | _, _, .cons r t, k => .cons (k _ _ r) (Paired.mapMap t k)
theorem Paired.snoc {α β : Type} {F : α → β → Prop} {a : α} {b : β} : ∀ {l₁ : List α} {l₂ : List β}, Paired F l₁ l₂ → F a b → Paired F (l₁ ++ [a]) (l₂ ++ [b])
  | _, _, .nil, k => .cons k .nil
  | _, _, .cons r t, k => .cons r (Paired.snoc t k)
theorem storedH_dput {xs : List (NestedKey × Addr × Value)} (h : Paired (EntR K H w) xs kvs) {k d : PyData} {b : Addr} {v : V} {u : Value} (ik : imm k = true) (dk : (keyOf k).depth ≤ 8) (hk : DR K H w (.ref b) k) (hv : RelV v u) (hd : DR K H w v d) :
    Paired (EntR K H w) (storedH xs (keyOf k) b u) (dput kvs k d) := by
  unfold storedH dput
  rw [dget_isSome h]
  by_cases e : (atKey xs (keyOf k)).isSome = true
  · rw [if_pos e, if_pos e]
    refine Paired.mapMap h fun x kv q => ?_
    obtain ⟨h1, h2, h3, h4, v', h5, h6⟩ := q
    by_cases e : keyOf kv.1 = keyOf k
    · rw [if_pos e]
      have : putAt (keyOf k) u x = (x.1, x.2.1, u) := by unfold putAt; rw [if_pos (h1.trans e)]
      rw [this]
      exact ⟨h1, h2, h3, h4, v, hv, hd⟩
    · rw [if_neg e]
      have : putAt (keyOf k) u x = x := by unfold putAt; rw [if_neg (fun z => e (h1.symm.trans z))]
      rw [this]
      exact ⟨h1, h2, h3, h4, v', h5, h6⟩
  · rw [if_neg e, if_neg e]
    exact Paired.snoc h ⟨rfl, ik, dk, hk, v, hv, hd⟩
theorem withoutH_ddel {xs : List (NestedKey × Addr × Value)} (h : Paired (EntR K H w) xs kvs) (k : PyData) : Paired (EntR K H w) (withoutH xs (keyOf k)) (ddel kvs k) := by
  induction h with
  | nil => exact .nil
  | @cons x kv xs kvs hx hr ih =>
    have h1 := hx.1
    by_cases e : keyOf kv.1 = keyOf k
    · have e1 : withoutH (x :: xs) (keyOf k) = withoutH xs (keyOf k) := by simp [withoutH, List.filter_cons, h1, e]
      have e2 : ddel (kv :: kvs) k = ddel kvs k := by simp [ddel, List.filter_cons, e]
      rw [e1, e2]; exact ih
    · have e1 : withoutH (x :: xs) (keyOf k) = x :: withoutH xs (keyOf k) := by simp [withoutH, List.filter_cons, h1, e]
      have e2 : ddel (kv :: kvs) k = kv :: ddel kvs k := by simp [ddel, List.filter_cons, e]
      rw [e1, e2]; exact .cons hx ih
theorem dput_length (kvs : List (PyData × PyData)) (k v : PyData) : (dput kvs k v).length ≤ kvs.length + 1 := by
  unfold dput
  split
  · rw [List.length_map]; omega
  · rw [List.length_append]; exact Nat.le_refl _
theorem ddel_length (kvs : List (PyData × PyData)) (k : PyData) : (ddel kvs k).length ≤ kvs.length := List.length_filter_le _ _
/-- the dict at p, as the library says it -/
theorem DE.dict {X : Cx} {pins : List (Addr × Obj)} {σ : Sl} {s : Shared} (I : Inv X pins σ H s) (hp : s.heap.get? p = some o) (h : DE X.prog X.w X.K H w p o kvs) :
    ∃ xs, s.heap.DictOfH (nestedKind X.prog X.w) p xs ∧ Paired (EntR X.K H w) xs kvs ∧ xs.length ≤ sizeLine := by
  obtain ⟨h1, h2, xs, es, ep, h3, h4, h5, h6, h7⟩ := h
  refine ⟨xs, ⟨o, es, ep, hp, h3, h4, h5, ?_, h6⟩, h7, by rw [Paired.length h7]; exact h2⟩
  intro x hx
  have key : ∀ {xs kvs}, Paired (EntR X.K H w) xs kvs → x ∈ xs → (nestedKind X.prog X.w).is s.heap x.1 x.2.1 := by
    intro xs kvs h7
    induction h7 with
    | nil => intro hx; cases hx
    | @cons y kv xs kvs hy hr ih =>
      intro hx
      rcases List.mem_cons.mp hx with rfl | hx
      · obtain ⟨e1, e2, e3, e4, _⟩ := hy
        rw [e1]
        exact ⟨DR.nested I _ _ _ e2 e4 rfl, e3⟩
      · exact ih hx
  exact key h7 hx
end

/-! ### what a slot, or a value, is -/
structure Src where
  cells : List Int
  left : Int
  mixed : Int
  turn : Int
/-- the law's source of numbers: a dict at p, its list at q -/
structure SrcAt (H : Hp) (p q : Addr) (s : Src) : Prop where
  d : H p = some (.dK [(.inr "cells", .ref q), (.inr "left", .int s.left), (.inr "mixed", .int s.mixed), (.inr "turn", .int s.turn)])
  l : H q = some (.lst (s.cells.map V.int))

inductive R where
  /-- nothing is known -/
  | un
  /-- data that nobody changes -/
  | d (x : PyData)
  /-- an owned list, an owned dict with tuples as keys -/
  | ls (xs : List PyData) | dc (kvs : List (PyData × PyData))
  /-- the same, seen through a name -/
  | vl (i : Nat) (xs : List PyData) | vd (i : Nat) (kvs : List (PyData × PyData))
  | src (p q : Addr) (s : Src)
  | fn (f : Addr)

section
variable (P : Program) (W : World) (K : PySem.W.Frag)
/-- i: the owner's number -/
def RO (H : Hp) (w : Own) (i : Nat) (ov : Option V) : R → Prop
  | .un => True
  | .d x => ∃ v, ov = some v ∧ DR K H w v x
  | .ls xs => ∃ p vs, ov = some (.ref p) ∧ w p = some i ∧ H p = some (.lst vs) ∧ DRs K H w vs xs
  | .dc kvs => ∃ p o, ov = some (.ref p) ∧ w p = some i ∧ H p = some (DO p o) ∧ DE P W K H w p o kvs
  | .vl _ _ => False
  | .vd _ _ => False
  | .src p q s => ov = some (.ref p) ∧ w p = some i ∧ w q = some i ∧ SrcAt H p q s
  | .fn f => ov = some (.ref f)
structure RS (H : Hp) (w : Own) (σ : Sl) (rs : List R) : Prop where
  len : rs.length = σ.length
  tr : ∀ b, w b ≠ none → H b ≠ none
  at_ : ∀ i r, rs[i]? = some r → RO P W K H w (i + 1) (σ[i]?).join r
/-- what an expression gives: H0 the heap ahead of it -/
def RT (H0 H : Hp) (w : Own) (v : V) : R → Prop
  | .un => True
  | .d x => DR K H w v x
  | .ls xs => ∃ p vs, v = .ref p ∧ H0 p = none ∧ w p = some 0 ∧ H p = some (.lst vs) ∧ DRs K H w vs xs
  | .dc kvs => ∃ p o, v = .ref p ∧ H0 p = none ∧ w p = some 0 ∧ H p = some (DO p o) ∧ DE P W K H w p o kvs
  | .vl i xs => ∃ p vs, v = .ref p ∧ w p = some (i + 1) ∧ H p = some (.lst vs) ∧ DRs K H w vs xs
  | .vd i kvs => ∃ p o, v = .ref p ∧ w p = some (i + 1) ∧ H p = some (DO p o) ∧ DE P W K H w p o kvs
  | .src p q s => v = .ref p ∧ w p ≠ none ∧ w q ≠ none ∧ SrcAt H p q s
  | .fn f => v = .ref f
/-- what a def hands back -/
def RR (rs : List R) (H : Hp) (w : Own) (v : V) : R → Prop
  | .un => True
  | .d x => DR K H w v x
  | .ls xs => ∃ p vs, v = .ref p ∧ (w p = some 0 ∨ ∃ j ys, w p = some (j + 1) ∧ rs[j]? = some (.ls ys)) ∧ H p = some (.lst vs) ∧ DRs K H w vs xs
  | .dc kvs => ∃ p o, v = .ref p ∧ (w p = some 0 ∨ ∃ j ys, w p = some (j + 1) ∧ rs[j]? = some (.dc ys)) ∧ H p = some (DO p o) ∧ DE P W K H w p o kvs
  | .vl _ _ => False
  | .vd _ _ => False
  | .src _ _ _ => False
  | .fn f => v = .ref f
end

/-- the heap's way through a statement: what no slot owns stays -/
structure Step (w : Own) (H : Hp) (w' : Own) (H' : Hp) : Prop where
  k : ∀ b o, H b = some o → (Fre w b ∨ ¬ Mut (some o)) → H' b = some o
  n : ∀ b, H b ≠ none → w b = none → w' b = none
  s : ∀ b, H b ≠ none → Fre w b → Fre w' b
  g : ∀ b, H b ≠ none → H' b ≠ none
/-- through an expression: no owner changes -/
structure StepE (w : Own) (H : Hp) (w' : Own) (H' : Hp) : Prop where
  k : ∀ b o, H b = some o → (Fre w b ∨ ¬ Mut (some o)) → H' b = some o
  o : ∀ b, H b ≠ none → w' b = w b
  g : ∀ b, H b ≠ none → H' b ≠ none
section
variable {w w1 w2 : Own} {H H1 H2 : Hp}
theorem some_ne {H : Hp} {b : Addr} {o : HO} (h : H b = some o) : H b ≠ none := by rw [h]; exact fun e => nomatch e
theorem ne_some {H : Hp} {b : Addr} (h : H b ≠ none) : ∃ o, H b = some o := by
  cases q : H b with
  | none => exact absurd q h
  | some o => exact ⟨o, rfl⟩
theorem StepE.step (a : StepE w H w1 H1) : Step w H w1 H1 := ⟨a.k, fun b h e => by rw [a.o b h]; exact e, fun b h e i => by rw [a.o b h]; exact e i, a.g⟩
theorem Step.mv (a : Step w H w1 H1) : Mv w H w1 H1 := ⟨fun b o h c => a.k b o h (c.imp (fun z => .of_none z) id), a.n⟩
theorem StepE.mv (a : StepE w H w1 H1) : Mv w H w1 H1 := a.step.mv
theorem Step.refl : Step w H w H := ⟨fun _ _ h _ => h, fun _ _ e => e, fun _ _ e => e, fun _ h => h⟩
theorem StepE.refl : StepE w H w H := ⟨fun _ _ h _ => h, fun _ _ => rfl, fun _ h => h⟩
theorem Step.trans (a : Step w H w1 H1) (b : Step w1 H1 w2 H2) : Step w H w2 H2 :=
  ⟨fun c o h q => b.k c o (a.k c o h q) (q.imp (fun z => a.s c (some_ne h) z) id), fun c h e => b.n c (a.g c h) (a.n c h e), fun c h e => b.s c (a.g c h) (a.s c h e), fun c h => b.g c (a.g c h)⟩
theorem StepE.trans (a : StepE w H w1 H1) (b : StepE w1 H1 w2 H2) : StepE w H w2 H2 :=
  ⟨fun c o h q => b.k c o (a.k c o h q) (q.imp (fun z i => by rw [a.o c (some_ne h)]; exact z i) id), fun c h => by rw [b.o c (a.g c h), a.o c h], fun c h => b.g c (a.g c h)⟩
theorem sstep (a : Same H H1) (o : ∀ b, H b ≠ none → w1 b = w b) : StepE w H w1 H1 := ⟨fun b o h _ => a b o h, o, fun b h => by obtain ⟨o, e⟩ := ne_some h; rw [a b o e]; exact fun z => nomatch z⟩
theorem same_upd {H : Hp} {p : Addr} {o : HO} (h : H p = none) : Same H (upd H p o) := fun b x e => by rw [upd_ne (ne_of_none e h)]; exact e
end

section
variable {P : Program} {W : World} {K : PySem.W.Frag} {H H1 H2 H0 : Hp} {w w1 w2 : Own} {σ : Sl} {rs : List R}
theorem SrcAt.to {p q : Addr} {s : Src} (h : SrcAt H p q s) (e1 : ∀ o, H p = some o → H1 p = some o) (e2 : ∀ o, H q = some o → H1 q = some o) : SrcAt H1 p q s := ⟨e1 _ h.d, e2 _ h.l⟩
/-- a slot stays where its owner's things do -/
theorem RO.keep {i : Nat} {ov : Option V} {r : R} (h : RO P W K H w i ov r) (m : Mv w H w1 H1) (k : ∀ b o, w b = some i → H b = some o → H1 b = some o ∧ w1 b = some i) : RO P W K H1 w1 i ov r := by
  cases r with
  | un => trivial
  | d x => obtain ⟨v, e, h⟩ := h; exact ⟨v, e, h.mv m⟩
  | ls xs =>
    obtain ⟨p, vs, e, o, hp, h⟩ := h
    obtain ⟨k1, k2⟩ := k p _ o hp
    exact ⟨p, vs, e, k2, k1, DRs.mv m _ _ h⟩
  | dc kvs =>
    obtain ⟨p, ob, e, o, hp, h⟩ := h
    obtain ⟨k1, k2⟩ := k p _ o hp
    exact ⟨p, ob, e, k2, k1, h.mv m⟩
  | vl _ _ => exact h.elim
  | vd _ _ => exact h.elim
  | src p q s =>
    obtain ⟨e, o1, o2, h⟩ := h
    exact ⟨e, (k p _ o1 h.d).2, (k q _ o2 h.l).2, h.to (fun o e => (k p o o1 e).1) fun o e => (k q o o2 e).1⟩
  | fn f => exact h
theorem RS.keep (h : RS P W K H w σ rs) (a : StepE w H w1 H1) (s : Same H H1) (tr : ∀ b, w1 b ≠ none → H1 b ≠ none) : RS P W K H1 w1 σ rs :=
  ⟨h.len, tr, fun i r e => (h.at_ i r e).keep a.mv fun b o _ hb => ⟨s b o hb, by rw [a.o b (some_ne hb)]; assumption⟩⟩
/-- a value stays -/
def stab : R → Bool
  | .vl _ _ => false
  | .vd _ _ => false
  | .src _ _ _ => false
  | _ => true
theorem RT.keep {v : V} {r : R} (h : RT P W K H0 H w v r) (a : StepE w H w1 H1) (st : stab r = true ∨ Same H H1) : RT P W K H0 H1 w1 v r := by
  cases r with
  | un => trivial
  | d x => exact DR.mv a.mv _ _ h
  | ls xs =>
    obtain ⟨p, vs, e, f, o, hp, h⟩ := h
    exact ⟨p, vs, e, f, by rw [a.o p (some_ne hp)]; exact o, a.k _ _ hp (.inl (.of_tmp o)), DRs.mv a.mv _ _ h⟩
  | dc kvs =>
    obtain ⟨p, ob, e, f, o, hp, h⟩ := h
    exact ⟨p, ob, e, f, by rw [a.o p (some_ne hp)]; exact o, a.k _ _ hp (.inl (.of_tmp o)), h.mv a.mv⟩
  | vl i xs =>
    obtain ⟨p, vs, e, o, hp, h⟩ := h
    rcases st with st | st
    · cases st
    · exact ⟨p, vs, e, by rw [a.o p (some_ne hp)]; exact o, st _ _ hp, DRs.mv a.mv _ _ h⟩
  | vd i kvs =>
    obtain ⟨p, ob, e, o, hp, h⟩ := h
    rcases st with st | st
    · cases st
    · exact ⟨p, ob, e, by rw [a.o p (some_ne hp)]; exact o, st _ _ hp, h.mv a.mv⟩
  | src p q s =>
    obtain ⟨e, o1, o2, h⟩ := h
    rcases st with st | st
    · cases st
    · exact ⟨e, by rw [a.o p (some_ne h.d)]; exact o1, by rw [a.o q (some_ne h.l)]; exact o2, h.to (fun o e => st _ _ e) fun o e => st _ _ e⟩
  | fn f => exact h
theorem RT.from {v : V} {r : R} (h : RT P W K H1 H w v r) (g : ∀ b, H0 b ≠ none → H1 b ≠ none) : RT P W K H0 H w v r := by
  cases r with
  | ls xs => obtain ⟨p, vs, e, f, r⟩ := h; exact ⟨p, vs, e, by cases q : H0 p with | none => rfl | some o => exact absurd f (g p (some_ne q)), r⟩
  | dc kvs => obtain ⟨p, ob, e, f, r⟩ := h; exact ⟨p, ob, e, by cases q : H0 p with | none => rfl | some o => exact absurd f (g p (some_ne q)), r⟩
  | _ => exact h
/-- what may be handed back -/
def backOf (rs : List R) : R → Option R
  | .un => some .un
  | .d x => some (.d x)
  | .ls xs => some (.ls xs)
  | .dc xs => some (.dc xs)
  | .vl i xs => (match rs[i]? with | some (.ls _) => some (.ls xs) | _ => none)
  | .vd i xs => (match rs[i]? with | some (.dc _) => some (.dc xs) | _ => none)
  | .src _ _ _ => none
  | .fn f => some (.fn f)
theorem RT.rr {v : V} {r r' : R} {rs : List R} (h : RT P W K H0 H w v r) (e : backOf rs r = some r') : RR P W K rs H w v r' := by
  cases r with
  | un => cases e; trivial
  | d x => cases e; exact h
  | ls xs => cases e; obtain ⟨p, vs, e, f, o, hp, h⟩ := h; exact ⟨p, vs, e, .inl o, hp, h⟩
  | dc kvs => cases e; obtain ⟨p, ob, e, f, o, hp, h⟩ := h; exact ⟨p, ob, e, .inl o, hp, h⟩
  | vl i xs =>
    obtain ⟨p, vs, ev, o, hp, h⟩ := h
    simp only [backOf] at e
    cases q : rs[i]? with
    | none => rw [q] at e; cases e
    | some z =>
      rw [q] at e
      cases z with
      | ls ys => cases e; exact ⟨p, vs, ev, .inr ⟨i, ys, o, q⟩, hp, h⟩
      | _ => cases e
  | vd i xs =>
    obtain ⟨p, vs, ev, o, hp, h⟩ := h
    simp only [backOf] at e
    cases q : rs[i]? with
    | none => rw [q] at e; cases e
    | some z =>
      rw [q] at e
      cases z with
      | dc ys => cases e; exact ⟨p, vs, ev, .inr ⟨i, ys, o, q⟩, hp, h⟩
      | _ => cases e
  | src _ _ _ => cases e
  | fn f => cases e; exact h
end
end Ab

namespace Ab
open PySem PySem.Spec PyProof.Rows L2

/-! ### readings by the weakest precondition -/
def cT (X : Cx) (e : Expr) : TE := fun σ H Q => ∀ pins s, Inv X pins σ H s → wpAny (model X.prog X.w) X.A (eval e X.env) (EP X pins σ Q) X.xe s
theorem cT_ok {X : Cx} {e : Expr} : PE X e (cT X e) := ⟨fun pins s σ H Q I h => h pins s I⟩
theorem PEc {X : Cx} {e : Expr} {t : TE} (h : PE X e t) {σ : Sl} {H : Hp} {Q : VK} (q : t σ H Q) : cT X e σ H Q := fun pins s I => h.run pins s σ H Q I q
def cA (X : Cx) (es : List Expr) : TA := fun σ H Q => ∀ pos pins s, Inv X pins σ H s → wpAny (model X.prog X.w) X.A (spliced (backTo pos (starEach es X.env))) (AP X pins σ Q) X.xe s
theorem cA_ok {X : Cx} {es : List Expr} : PA X es (cA X es) := ⟨fun pos pins s σ H Q I h => h pos pins s I⟩
theorem PAc {X : Cx} {es : List Expr} {t : TA} (h : PA X es t) {σ : Sl} {H : Hp} {Q : List V → Hp → Prop} (q : t σ H Q) : cA X es σ H Q := fun pos pins s I => h.run pos pins s σ H Q I q
def cB (X : Cx) (e : Expr) : TT := fun σ H Q => ∀ pins s, Inv X pins σ H s → wpAny (model X.prog X.w) X.A (isTrue e X.env (eval e X.env)) (TP X pins σ Q) X.xe s
theorem cB_ok {X : Cx} {e : Expr} : PT X e (cB X e) := ⟨fun pins s σ H Q I h => h pins s I⟩
theorem PTc {X : Cx} {e : Expr} {t : TT} (h : PT X e t) {σ : Sl} {H : Hp} {Q : Bool → Hp → Prop} (q : t σ H Q) : cB X e σ H Q := fun pins s I => h.run pins s σ H Q I q
def cW (X : Cx) (e : Expr) : TT := fun σ H Q => ∀ whole pins s, Inv X pins σ H s → wpAny (model X.prog X.w) X.A (isTrue e X.env whole) (TP X pins σ Q) X.xe s
theorem cW_ok {X : Cx} {e : Expr} : PW X e (cW X e) := ⟨fun whole pins s σ H Q I h => h whole pins s I⟩
theorem PWc {X : Cx} {e : Expr} {t : TT} (h : PW X e t) {σ : Sl} {H : Hp} {Q : Bool → Hp → Prop} (q : t σ H Q) : cW X e σ H Q := fun whole pins s I => h.run whole pins s σ H Q I q
def cO (X : Cx) (f : Value → Value → Sem Value) : R2 := fun x y H Q => ∀ pins s σ v u, Inv X pins σ H s → RelV x v → RelV y u → wpAny (model X.prog X.w) X.A (f v u) (EP X pins σ Q) X.xe s
theorem cO_ok {X : Cx} {f : Value → Value → Sem Value} : OpR X f (cO X f) := fun pins s σ H x y v u Q I rx ry h => h pins s σ v u I rx ry
theorem OpRc {X : Cx} {f : Value → Value → Sem Value} {r : R2} (h : OpR X f r) {x y : V} {H : Hp} {Q : VK} (q : r x y H Q) : cO X f x y H Q := fun pins s σ v u I rx ry => h pins s σ H x y v u Q I rx ry q

/-! ### judgements -/
abbrev RSx (X : Cx) := RS X.prog X.w X.K
abbrev RTx (X : Cx) := RT X.prog X.w X.K
/-- e gives r, the slots being rs, then rs'; pu: nothing that stood is changed -/
def Ev (X : Cx) (pu : Bool) (rs : List R) (e : Expr) (r : R) (rs' : List R) : Prop :=
  ∀ σ H w, RSx X H w σ rs → ∀ Q : VK, (∀ v H' w', RSx X H' w' σ rs' → StepE w H w' H' → RTx X H H' w' v r → (pu = true → Same H H') → Q v H') → cT X e σ H Q
def isOwn : R → Bool
  | .ls _ => true
  | .dc _ => true
  | _ => false
def RTs (P : Program) (W : World) (K : PySem.W.Frag) (H0 H : Hp) (w : Own) : List V → List R → Prop
  | [], [] => True
  | v :: vs, r :: rl => RT P W K H0 H w v r ∧ ∃ H1 : Hp, (∀ b, H0 b ≠ none → H1 b ≠ none) ∧ (∀ p, v = .ref p → isOwn r = true → H1 p ≠ none) ∧ RTs P W K H1 H w vs rl
  | _, _ => False
def EvL (X : Cx) (pu : Bool) (rs : List R) (es : List Expr) (rl : List R) (rs' : List R) : Prop :=
  ∀ σ H w, RSx X H w σ rs → ∀ Q : List V → Hp → Prop, (∀ vs H' w', RSx X H' w' σ rs' → StepE w H w' H' → RTs X.prog X.w X.K H H' w' vs rl → (pu = true → Same H H') → Q vs H') → cA X es σ H Q
/-- the test of e gives b -/
def Et (X : Cx) (pu : Bool) (rs : List R) (e : Expr) (b : Bool) (rs' : List R) : Prop :=
  ∀ σ H w, RSx X H w σ rs → ∀ Q : Bool → Hp → Prop, (∀ H' w', RSx X H' w' σ rs' → StepE w H w' H' → (pu = true → Same H H') → Q b H') → cB X e σ H Q
def Ew (X : Cx) (pu : Bool) (rs : List R) (e : Expr) (b : Bool) (rs' : List R) : Prop :=
  ∀ σ H w, RSx X H w σ rs → ∀ Q : Bool → Hp → Prop, (∀ H' w', RSx X H' w' σ rs' → StepE w H w' H' → (pu = true → Same H H') → Q b H') → cW X e σ H Q
/-- a two-place operation on values -/
def OpOk (X : Cx) (f : Value → Value → Sem Value) (ra rb r : R) : Prop :=
  ∀ H0 H w x y, (∀ b, w b ≠ none → H b ≠ none) → RTx X H0 H w x ra → RTx X H0 H w y rb → ∀ Q : VK, (∀ v H' w', Same H H' → (∀ b, H b ≠ none → w' b = w b) → (∀ b, w' b ≠ none → H' b ≠ none) → RTx X H H' w' v r → Q v H') → cO X f x y H Q

section
variable {X : Cx} {rs rs1 rs2 rs' : List R} {pu pu1 pu2 : Bool}

theorem RS.more {P : Program} {W : World} {K : PySem.W.Frag} {H H1 : Hp} {w w1 : Own} {σ : Sl} (h : RS P W K H w σ rs) (s : Same H H1) (o : ∀ b, H b ≠ none → w1 b = w b) (t : ∀ b, w1 b ≠ none → H1 b ≠ none) : RS P W K H1 w1 σ rs :=
  h.keep (sstep s o) s t

theorem RTs.keep {P : Program} {W : World} {K : PySem.W.Frag} {H H1 : Hp} {w w1 : Own} (a : StepE w H w1 H1) : ∀ {vs : List V} {rl : List R} {H0 : Hp}, RTs P W K H0 H w vs rl → (rl.all stab = true ∨ Same H H1) → RTs P W K H0 H1 w1 vs rl
  | [], [], _, _, _ => trivial
  | v :: vs, r :: rl, H0, h, st => by
    obtain ⟨h1, H2, h2, h3, h4⟩ := h
    have s1 : stab r = true ∨ Same H H1 := st.imp (fun z => by simp at z; exact z.1) id
    have s2 : rl.all stab = true ∨ Same H H1 := st.imp (fun z => by simp at z; simpa using z.2) id
    exact ⟨h1.keep a s1, H2, h2, h3, RTs.keep a h4 s2⟩
  | [], _ :: _, _, h, _ => h.elim
  | _ :: _, [], _, h, _ => h.elim

/-! ### names, constants -/
def viewOf (i : Nat) : R → Option R
  | .un => none
  | .d x => some (.d x)
  | .ls xs => some (.vl i xs)
  | .dc kvs => some (.vd i kvs)
  | .vl _ _ => none
  | .vd _ _ => none
  | .src p q s => some (.src p q s)
  | .fn f => some (.fn f)
theorem RS.see {P : Program} {W : World} {K : PySem.W.Frag} {H : Hp} {w : Own} {σ : Sl} (h : RS P W K H w σ rs) {i : Nat} {r r' : R} (e : rs[i]? = some r) (hv : viewOf i r = some r') : ∃ v, σ[i]? = some (some v) ∧ RT P W K H H w v r' := by
  have hr := h.at_ i r e
  have jn : ∀ {v : V}, (σ[i]?).join = some v → σ[i]? = some (some v) := fun {v} z => by
    cases q : σ[i]? with
    | none => rw [q] at z; cases z
    | some o => rw [q] at z; simp only [Option.join_some] at z; rw [z]
  cases r with
  | un => cases hv
  | d x => cases hv; obtain ⟨v, e, h⟩ := hr; exact ⟨v, jn e, h⟩
  | ls xs => cases hv; obtain ⟨p, vs, e, o, hp, h⟩ := hr; exact ⟨_, jn e, p, vs, rfl, o, hp, h⟩
  | dc kvs => cases hv; obtain ⟨p, ob, e, o, hp, h⟩ := hr; exact ⟨_, jn e, p, ob, rfl, o, hp, h⟩
  | vl _ _ => cases hv
  | vd _ _ => cases hv
  | src p q s => cases hv; obtain ⟨e, o1, o2, h⟩ := hr; exact ⟨_, jn e, rfl, (fun z => nomatch o1.symm.trans z), (fun z => nomatch o2.symm.trans z), h⟩
  | fn f => cases hv; exact ⟨_, jn hr, rfl⟩
/-- a rule without effect -/
theorem Ev.ofPE {e : Expr} {r : R} {t : TE} (h : PE X e t) (k : ∀ σ H w, RSx X H w σ rs → ∀ Q : VK, (∀ v, RTx X H H w v r → Q v H) → t σ H Q) : Ev X true rs e r rs := fun σ H w S Q q => PEc h (k σ H w S Q fun v hv => q v H w S .refl hv fun _ => Same.refl H)
theorem Ev.name (i : Nat) {x : Str} {pos : Pos} {r r' : R} (h : rs[i]? = some r) (hw : viewOf i r = some r') (hN : X.N[i]? = some x) (hv : Vis X.env.scope x) (hd : (x == ("__debug__" : Str)) = false) (hcd : (x == ("__classdict__" : Str)) = false) : Ev X true rs (.Name x pos) r' rs :=
  Ev.ofPE (pe_var hN hv hd hcd) fun σ H w S Q q => by
    obtain ⟨v, e, t⟩ := S.see h hw
    exact ⟨v, e, q v t⟩
theorem Ev.kInt {i : Int} {j pos} : Ev X true rs (.Constant (.int i) j pos) (.d (.int i)) rs := Ev.ofPE pe_int fun _ _ _ _ _ q => q _ (.int i)
theorem Ev.kBool {b : Bool} {j pos} : Ev X true rs (.Constant (.bool b) j pos) (.d (.bool b)) rs := Ev.ofPE pe_bl fun _ _ _ _ _ q => q _ (.bl b)
theorem Ev.kNone {j pos} : Ev X true rs (.Constant .none j pos) (.d .none) rs := Ev.ofPE pe_non fun _ _ _ _ _ q => q _ .non
theorem Ev.kStr {x : Str} {j pos} : Ev X true rs (.Constant (.str x) j pos) (.d (.str x)) rs := Ev.ofPE pe_str fun _ _ _ _ _ q => q _ (.str x)
theorem Ev.gfn {x : Str} {f : Addr} {pos : Pos} (hg : Gl X x) (hm : X.mg x = some (.ref f)) (hd : (x == ("__debug__" : Str)) = false := by decide) : Ev X true rs (.Name x pos) (.fn f) rs := Ev.ofPE (pe_glob hg hm (v := .ref f) rfl hd) fun _ _ _ _ _ q => q _ rfl

theorem Ev.conv {e : Expr} {r r1 : R} (h : Ev X pu rs e r rs') (er : r = r1) (e2 : rs' = rs1) : Ev X pu rs e r1 rs1 := by subst er; subst e2; exact h
theorem Ev.weak {e : Expr} {r : R} (h : Ev X true rs e r rs') : Ev X pu rs e r rs' := fun σ H w S Q q => h σ H w S Q fun v H' w' S' st t s => q v H' w' S' st t fun _ => s rfl

/-! ### argument lists -/
theorem EvL.nil : EvL X true rs [] [] rs := fun σ H w S Q q => PAc pa_nil (q [] H w S .refl trivial fun _ => Same.refl H)
theorem EvL.cons {e : Expr} {es : List Expr} {r : R} {rl : List R} (h : Ev X pu1 rs e r rs1) (hs : EvL X pu2 rs1 es rl rs2) (st : (stab r || pu2) = true) (hst : starEach (e :: es) X.env = (false, eval e X.env) :: starEach es X.env := by rfl) :
    EvL X (pu1 && pu2) rs (e :: es) (r :: rl) rs2 := fun σ H w S Q q => by
  refine PAc (pa_cons cT_ok cA_ok hst) ?_
  refine h σ H w S _ fun v H1 w1 S1 st1 t1 s1 => ?_
  refine hs σ H1 w1 S1 _ fun vs H2 w2 S2 st2 t2 s2 => ?_
  have stb : stab r = true ∨ Same H1 H2 := by
    rw [Bool.or_eq_true] at st
    exact st.imp id s2
  refine q (v :: vs) H2 w2 S2 (st1.trans st2) ⟨t1.keep st2 stb, H1, st1.g, fun p ep ow => ?_, t2⟩ fun e => ?_
  · subst ep
    cases r with
    | ls xs => obtain ⟨p', _, e, _, _, hp, _⟩ := t1; cases e; exact some_ne hp
    | dc kvs => obtain ⟨p', _, e, _, _, hp, _⟩ := t1; cases e; exact some_ne hp
    | _ => cases ow
  · rw [Bool.and_eq_true] at e
    exact (s1 e.1).trans (s2 e.2)

def datas : List R → Option (List PyData)
  | [] => some []
  | .d x :: rl => (datas rl).map (x :: ·)
  | _ :: _ => none
theorem RTs.data {P : Program} {W : World} {K : PySem.W.Frag} {H0 H : Hp} {w : Own} : ∀ {vs : List V} {rl : List R} {xs : List PyData}, RTs P W K H0 H w vs rl → datas rl = some xs → DRs K H w vs xs
  | [], [], xs, _, e => by cases e; exact .nil
  | v :: vs, .d x :: rl, xs, h, e => by
    obtain ⟨h1, H2, h2, h3, h4⟩ := h
    unfold datas at e
    obtain ⟨ys, e1, rfl⟩ := Option.map_eq_some_iff.mp e
    rw [show ∀ H0, RTs P W K H0 H w vs rl = RTs P W K H0 H w vs rl from fun _ => rfl] at h4
    exact .cons h1 (RTs.data h4 e1)
  | _ :: _, .un :: _, _, _, e => by cases e
  | _ :: _, .ls _ :: _, _, _, e => by cases e
  | _ :: _, .dc _ :: _, _, _, e => by cases e
  | _ :: _, .vl _ _ :: _, _, _, e => by cases e
  | _ :: _, .vd _ _ :: _, _, _, e => by cases e
  | _ :: _, .src _ _ _ :: _, _, _, e => by cases e
  | _ :: _, .fn _ :: _, _, _, e => by cases e
  | [], _ :: _, _, h, _ => h.elim
  | _ :: _, [], _, h, _ => h.elim

/-- p new, owned by a temporary -/
def ownT (w : Own) (p : Addr) : Own := fun b => if b = p then some 0 else w b
theorem ownT_at {w : Own} {p : Addr} : ownT w p p = some 0 := by unfold ownT; rw [if_pos rfl]
theorem ownT_ne {w : Own} {p b : Addr} (h : b ≠ p) : ownT w p b = w b := by unfold ownT; rw [if_neg h]
theorem ownT_old {w : Own} {H : Hp} {p : Addr} (n : H p = Option.none) : ∀ b, H b ≠ Option.none → ownT w p b = w b := fun b h => ownT_ne fun e => by subst e; exact h n
theorem ownT_tr {w : Own} {H : Hp} {p : Addr} {o : HO} (t : ∀ b, w b ≠ Option.none → H b ≠ Option.none) : ∀ b, ownT w p b ≠ Option.none → upd H p o b ≠ Option.none := fun b h => by
  by_cases e : b = p
  · subst e; rw [upd_same]; exact fun z => nomatch z
  · rw [upd_ne e]; rw [ownT_ne e] at h; exact t b h
theorem tr_upd {w : Own} {H : Hp} {p : Addr} {o : HO} (t : ∀ b, w b ≠ Option.none → H b ≠ Option.none) : ∀ b, w b ≠ Option.none → upd H p o b ≠ Option.none := fun b h => by
  by_cases e : b = p
  · subst e; rw [upd_same]; exact fun z => nomatch z
  · rw [upd_ne e]; exact t b h

/-! ### displays -/
theorem Ev.tup {es : List Expr} {rl : List R} {xs : List PyData} {k pos} (h : EvL X pu rs es rl rs') (e : datas rl = some xs) (z : xs.length ≤ sizeLine) : Ev X pu rs (.Tuple es k pos) (.d (.tuple xs)) rs' := fun σ H w S Q q => by
  refine PEc (pe_tup cA_ok) ?_
  refine h σ H w S _ fun vs H1 w1 S1 st1 t1 s1 => ?_
  have dr := t1.data e
  refine ⟨by rw [dr.length]; exact z, fun p n => ?_⟩
  have sm : Same H1 (upd H1 p (.tup vs)) := same_upd n
  have st2 : StepE w1 H1 w1 (upd H1 p (.tup vs)) := sstep sm fun _ _ => rfl
  refine q _ _ w1 (S1.keep st2 sm (tr_upd S1.tr)) (st1.trans st2) (.tup (.inl (.inl upd_same)) (DRs.mv st2.mv _ _ dr)) fun e => (s1 e).trans sm
theorem Ev.lst {es : List Expr} {rl : List R} {xs : List PyData} {pos} (h : EvL X pu rs es rl rs') (e : datas rl = some xs) (z : xs.length ≤ sizeLine) : Ev X pu rs (.List es pos) (.ls xs) rs' := fun σ H w S Q q => by
  refine PEc (pe_lst cA_ok) ?_
  refine h σ H w S _ fun vs H1 w1 S1 st1 t1 s1 => ?_
  have dr := t1.data e
  refine ⟨by rw [dr.length]; exact z, fun p n => ?_⟩
  have sm : Same H1 (upd H1 p (.lst vs)) := same_upd n
  have st2 : StepE w1 H1 (ownT w1 p) (upd H1 p (.lst vs)) := sstep sm (ownT_old n)
  refine q _ _ (ownT w1 p) (S1.keep st2 sm (ownT_tr S1.tr)) (st1.trans st2) ⟨p, vs, rfl, ?_, ownT_at, upd_same, DRs.mv st2.mv _ _ dr⟩ fun e => (s1 e).trans sm
  cases g : H p with
  | none => rfl
  | some o => exact absurd n (st1.g p (some_ne g))

/-! ### operations -/
theorem Ev.bin {a b : Expr} {op : Operator} {ra rb r : R} {pos : Pos} (ha : Ev X pu1 rs a ra rs1) (hb : Ev X pu2 rs1 b rb rs2) (st : (stab ra || pu2) = true) (ho : OpOk X (binaryOp op) ra rb r) : Ev X (pu1 && pu2) rs (.BinOp a op b pos) r rs2 := fun σ H w S Q q => by
  refine PEc (pe_op cO_ok cT_ok cT_ok) ?_
  refine ha σ H w S _ fun x H1 w1 S1 st1 t1 s1 => ?_
  refine hb σ H1 w1 S1 _ fun y H2 w2 S2 st2 t2 s2 => ?_
  have stb : stab ra = true ∨ Same H1 H2 := by rw [Bool.or_eq_true] at st; exact st.imp id s2
  refine ho H H2 w2 x y S2.tr (t1.keep st2 stb) (t2.from st1.g) _ fun v H3 w3 sm o3 tr3 t3 => ?_
  exact q v H3 w3 (S2.more sm o3 tr3) ((st1.trans st2).trans (sstep sm o3)) (t3.from fun b h => st2.g b (st1.g b h)) fun e => by
    rw [Bool.and_eq_true] at e
    exact ((s1 e.1).trans (s2 e.2)).trans sm
theorem Ev.cmp {a b : Expr} {op : CmpOp} {ra rb r : R} {pos : Pos} (ha : Ev X pu1 rs a ra rs1) (hb : Ev X pu2 rs1 b rb rs2) (st : (stab ra || pu2) = true) (ho : OpOk X (compareOp op) ra rb r) (hm : behindInMarks op b = false) : Ev X (pu1 && pu2) rs (.Compare a [op] [b] pos) r rs2 := fun σ H w S Q q => by
  refine PEc (pe_cmpR cO_ok cT_ok cT_ok hm) ?_
  refine ha σ H w S _ fun x H1 w1 S1 st1 t1 s1 => ?_
  refine hb σ H1 w1 S1 _ fun y H2 w2 S2 st2 t2 s2 => ?_
  have stb : stab ra = true ∨ Same H1 H2 := by rw [Bool.or_eq_true] at st; exact st.imp id s2
  refine ho H H2 w2 x y S2.tr (t1.keep st2 stb) (t2.from st1.g) _ fun v H3 w3 sm o3 tr3 t3 => ?_
  exact q v H3 w3 (S2.more sm o3 tr3) ((st1.trans st2).trans (sstep sm o3)) (t3.from fun b h => st2.g b (st1.g b h)) fun e => by
    rw [Bool.and_eq_true] at e
    exact ((s1 e.1).trans (s2 e.2)).trans sm
theorem Et.cmp {a b : Expr} {op : CmpOp} {ra rb : R} {k : Bool} {pos : Pos} (ha : Ev X pu1 rs a ra rs1) (hb : Ev X pu2 rs1 b rb rs2) (st : (stab ra || pu2) = true) (ho : OpOk X (compareOp op) ra rb (.d (.bool k))) (hm : behindInMarks op b = false) : Et X (pu1 && pu2) rs (.Compare a [op] [b] pos) k rs2 := fun σ H w S Q q => by
  refine PTc (pt_cmpR cO_ok cT_ok cT_ok hm) ?_
  refine ha σ H w S _ fun x H1 w1 S1 st1 t1 s1 => ?_
  refine hb σ H1 w1 S1 _ fun y H2 w2 S2 st2 t2 s2 => ?_
  have stb : stab ra = true ∨ Same H1 H2 := by rw [Bool.or_eq_true] at st; exact st.imp id s2
  refine ho H H2 w2 x y S2.tr (t1.keep st2 stb) (t2.from st1.g) _ fun v H3 w3 sm o3 tr3 t3 => ?_
  cases (show DR X.K H3 w3 v (.bool k) from t3)
  exact ⟨k, rfl, q H3 w3 (S2.more sm o3 tr3) ((st1.trans st2).trans (sstep sm o3)) fun e => by
    rw [Bool.and_eq_true] at e
    exact ((s1 e.1).trans (s2 e.2)).trans sm⟩
/-- a op b op' c, all pure -/
theorem Ev.chain {a b c : Expr} {op op' : CmpOp} {ra rb rc : R} {k k' : Bool} {pos : Pos} (ha : Ev X true rs a ra rs) (hb : Ev X true rs b rb rs) (hc : Ev X true rs c rc rs) (ho : OpOk X (compareOp op) ra rb (.d (.bool k))) (ho' : OpOk X (compareOp op') rb rc (.d (.bool k')))
    (hm : lastMarks [op, op'] [b, c] = false := by with_unfolding_all rfl) : Ev X true rs (.Compare a [op, op'] [b, c] pos) (.d (.bool (k && k'))) rs := fun σ H w S Q q => by
  refine PEc (pe_chain cO_ok cO_ok cT_ok cT_ok cT_ok hm) ?_
  refine ha σ H w S _ fun x H1 w1 S1 st1 t1 s1 => ?_
  refine hb σ H1 w1 S1 _ fun y H2 w2 S2 st2 t2 s2 => ?_
  refine ho H H2 w2 x y S2.tr (t1.keep st2 (.inr (s2 rfl))) (t2.from st1.g) _ fun v H3 w3 sm o3 tr3 t3 => ?_
  cases (show DR X.K H3 w3 v (.bool k) from t3)
  have st3 : StepE w2 H2 w3 H3 := sstep sm o3
  have S3 := S2.more sm o3 tr3
  refine ⟨k, rfl, ?_⟩
  cases k with
  | false =>
    rw [if_neg Bool.false_ne_true]
    exact q _ H3 w3 S3 ((st1.trans st2).trans st3) (.bl false) fun _ => ((s1 rfl).trans (s2 rfl)).trans sm
  | true =>
    rw [if_pos rfl]
    refine hc σ H3 w3 S3 _ fun z H4 w4 S4 st4 t4 s4 => ?_
    refine ho' H1 H4 w4 y z S4.tr ((t2.keep st3 (.inr sm)).keep st4 (.inr (s4 rfl))) (t4.from fun b h => st3.g b (st2.g b h)) _ fun v H5 w5 sm5 o5 tr5 t5 => ?_
    cases (show DR X.K H5 w5 v (.bool k') from t5)
    exact q _ H5 w5 (S4.more sm5 o5 tr5) ((((st1.trans st2).trans st3).trans st4).trans (sstep sm5 o5)) (.bl k') fun _ => ((((s1 rfl).trans (s2 rfl)).trans sm).trans (s4 rfl)).trans sm5

/-- by values, without a change -/
theorem OpOk.of {f : Value → Value → Sem Value} {r2 : R2} {ra rb r : R} (h : OpR X f r2) (k : ∀ H0 H w x y, RTx X H0 H w x ra → RTx X H0 H w y rb → ∀ Q : VK, (∀ v, RTx X H H w v r → Q v H) → r2 x y H Q) : OpOk X f ra rb r :=
  fun H0 H w x y tr ha hb Q q => OpRc h (k H0 H w x y ha hb Q fun v t => q v H w (Same.refl H) (fun _ _ => rfl) tr t)
theorem drI {K : PySem.W.Frag} {H : Hp} {w : Own} {v : V} {i : Int} (h : DR K H w v (.int i)) : v = .int i := by cases h; rfl
theorem drB {K : PySem.W.Frag} {H : Hp} {w : Own} {v : V} {i : Bool} (h : DR K H w v (.bool i)) : v = .bl i := by cases h; rfl
theorem drN {K : PySem.W.Frag} {H : Hp} {w : Own} {v : V} (h : DR K H w v .none) : v = .non := by cases h; rfl
theorem drS {K : PySem.W.Frag} {H : Hp} {w : Own} {v : V} {i : Str} (h : DR K H w v (.str i)) : v = .str i := by cases h; rfl
theorem drT {K : PySem.W.Frag} {H : Hp} {w : Own} {v : V} {xs : List PyData} (h : DR K H w v (.tuple xs)) : ∃ a vs, v = .ref a ∧ SqT K H a vs ∧ DRs K H w vs xs := by cases h with | tup h1 h2 => exact ⟨_, _, rfl, h1, h2⟩
theorem drL {K : PySem.W.Frag} {H : Hp} {w : Own} {v : V} {xs : List PyData} (h : DR K H w v (.list xs)) : ∃ a vs, v = .ref a ∧ ShL K H w a vs ∧ DRs K H w vs xs := by cases h with | lst h1 h3 => exact ⟨_, _, rfl, h1, h3⟩
/-- what a list's reader asks -/
def seqOf : R → Option (List PyData)
  | .d (.list xs) => some xs
  | .ls xs => some xs
  | .vl _ xs => some xs
  | _ => none
theorem RT.seq {P : Program} {W : World} {K : PySem.W.Frag} {H0 H : Hp} {w : Own} {v : V} {r : R} {xs : List PyData} (h : RT P W K H0 H w v r) (e : seqOf r = some xs) : ∃ a vs, v = .ref a ∧ SqL K H a vs ∧ DRs K H w vs xs := by
  cases r with
  | d x =>
    cases x with
    | list ys => cases e; obtain ⟨a, vs, e, h1, h3⟩ := drL h; exact ⟨a, vs, e, h1.sq, h3⟩
    | _ => cases e
  | ls ys => cases e; obtain ⟨p, vs, e, _, _, hp, h⟩ := h; exact ⟨p, vs, e, .inl (.inl hp), h⟩
  | vl _ ys => cases e; obtain ⟨p, vs, e, _, hp, h⟩ := h; exact ⟨p, vs, e, .inl (.inl hp), h⟩
  | _ => cases e
theorem op_addI {i j : Int} : OpOk X (binaryOp .Add) (.d (.int i)) (.d (.int j)) (.d (.int (i + j))) := .of op_add fun _ _ _ _ _ ha hb _ q => ⟨i, j, drI ha, drI hb, q _ (.int _)⟩
theorem op_subI {i j : Int} : OpOk X (binaryOp .Sub) (.d (.int i)) (.d (.int j)) (.d (.int (i - j))) := .of op_sub fun _ _ _ _ _ ha hb _ q => ⟨i, j, drI ha, drI hb, q _ (.int _)⟩
theorem op_mulI {i j : Int} (h : CMul i j) : OpOk X (binaryOp .Mult) (.d (.int i)) (.d (.int j)) (.d (.int (i * j))) := .of op_mul fun _ _ _ _ _ ha hb _ q => ⟨i, j, drI ha, drI hb, h, q _ (.int _)⟩
theorem op_modI {i j : Int} (h : 0 < j) : OpOk X (binaryOp .Mod) (.d (.int i)) (.d (.int j)) (.d (.int (i % j))) := .of op_mod fun _ _ _ _ _ ha hb _ q => ⟨i, j, drI ha, drI hb, h, q _ (.int _)⟩
theorem op_divI {i j : Int} (h : 0 < j ∧ j < 1073741824) : OpOk X (binaryOp .FloorDiv) (.d (.int i)) (.d (.int j)) (.d (.int (i / j))) := .of op_fdiv fun _ _ _ _ _ ha hb _ q => ⟨i, j, drI ha, drI hb, h, q _ (.int _)⟩
theorem op_ltI {i j : Int} : OpOk X (compareOp .Lt) (.d (.int i)) (.d (.int j)) (.d (.bool (decide (i < j)))) := .of op_lt fun _ _ _ _ _ ha hb _ q => ⟨i, j, drI ha, drI hb, q _ (.bl _)⟩
theorem op_leI {i j : Int} : OpOk X (compareOp .LtE) (.d (.int i)) (.d (.int j)) (.d (.bool (decide (i ≤ j)))) := .of op_le fun _ _ _ _ _ ha hb _ q => ⟨i, j, drI ha, drI hb, q _ (.bl _)⟩
theorem op_gtI {i j : Int} : OpOk X (compareOp .Gt) (.d (.int i)) (.d (.int j)) (.d (.bool (decide (j < i)))) := .of op_gt fun _ _ _ _ _ ha hb _ q => ⟨i, j, drI ha, drI hb, q _ (.bl _)⟩
theorem op_geI {i j : Int} : OpOk X (compareOp .GtE) (.d (.int i)) (.d (.int j)) (.d (.bool (decide (j ≤ i)))) := .of op_ge fun _ _ _ _ _ ha hb _ q => ⟨i, j, drI ha, drI hb, q _ (.bl _)⟩
/-- equality of data, lists among them -/
def datOf : R → Option PyData
  | .d x => some x
  | .ls xs => some (.list xs)
  | .vl _ xs => some (.list xs)
  | _ => none
theorem RT.dat {P : Program} {W : World} {K : PySem.W.Frag} {H0 H : Hp} {w : Own} {v : V} {r : R} {x : PyData} (h : RT P W K H0 H w v r) (e : datOf r = some x) : Dp K H v x := by
  cases r with
  | d y => cases e; exact DR.dp _ _ h
  | ls ys => cases e; obtain ⟨p, vs, rfl, _, _, hp, h⟩ := h; exact .lst (.inl (.inl hp)) (DRs.dp _ _ h)
  | vl _ ys => cases e; obtain ⟨p, vs, rfl, _, hp, h⟩ := h; exact .lst (.inl (.inl hp)) (DRs.dp _ _ h)
  | _ => cases e
theorem op_eqX {ra rb : R} {x y : PyData} (hu : X.A.units + 64 < cLine) (ea : datOf ra = some x) (eb : datOf rb = some y) (sx : SeqAt.shaped x = true) (sy : SeqAt.shaped y = true) : OpOk X (compareOp .Eq) ra rb (.d (.bool (PyData.eqv x y))) :=
  .of (op_eqD hu) fun _ _ _ _ _ ha hb _ q => ⟨x, y, ha.dat ea, hb.dat eb, sx, sy, q _ (.bl _)⟩
theorem op_neX {ra rb : R} {x y : PyData} (hu : X.A.units + 64 < cLine) (ea : datOf ra = some x) (eb : datOf rb = some y) (sx : SeqAt.shaped x = true) (sy : SeqAt.shaped y = true) : OpOk X (compareOp .NotEq) ra rb (.d (.bool (!PyData.eqv x y))) :=
  .of (op_neD hu) fun _ _ _ _ _ ha hb _ q => ⟨x, y, ha.dat ea, hb.dat eb, sx, sy, q _ (.bl _)⟩
theorem op_inX {ra rb : R} {x : PyData} {ys : List PyData} (hu : X.A.units + 65 < cLine) (ea : datOf ra = some x) (eb : datOf rb = some (.list ys)) (sx : SeqAt.shaped x = true) (sy : SeqAt.shaped (.list ys) = true) : OpOk X (compareOp .In) ra rb (.d (.bool (ys.any fun z => PyData.eqv z x))) :=
  .of (op_inD hu) fun _ _ _ _ _ ha hb _ q => ⟨x, ys, ha.dat ea, hb.dat eb, sx, sy, q _ (.bl _)⟩
theorem op_notInX {ra rb : R} {x : PyData} {ys : List PyData} (hu : X.A.units + 65 < cLine) (ea : datOf ra = some x) (eb : datOf rb = some (.list ys)) (sx : SeqAt.shaped x = true) (sy : SeqAt.shaped (.list ys) = true) : OpOk X (compareOp .NotIn) ra rb (.d (.bool (!ys.any fun z => PyData.eqv z x))) :=
  .of (op_notInD hu) fun _ _ _ _ _ ha hb _ q => ⟨x, ys, ha.dat ea, hb.dat eb, sx, sy, q _ (.bl _)⟩
theorem inTup_ok (hu : X.A.units + 65 < cLine) : OpR X (compareOp .In) (fun x y H Q => ∃ d ds, Dp X.K H x d ∧ Dp X.K H y (.tuple ds) ∧ SeqAt.shaped d = true ∧ SeqAt.shaped (.list ds) = true ∧ Q (.bl (ds.any fun z => PyData.eqv z d)) H) := by
  intro pins s σ H x y v u Q I rx ry ⟨d, ds, hd, he, sd, se, q⟩
  obtain ⟨as, r1⟩ := Dp.reads I d x v hd rx
  obtain ⟨bs, r2⟩ := Dp.reads I (.tuple ds) y u he ry
  exact SeqAt.in_tuple_reads r2 r1 (SeqAt.canLay_of_shaped se) (SeqAt.canLay_of_shaped sd) (room_in_shaped sd hu) ⟨.bl _, H, I, rfl, q⟩
theorem notInTup_ok (hu : X.A.units + 65 < cLine) : OpR X (compareOp .NotIn) (fun x y H Q => ∃ d ds, Dp X.K H x d ∧ Dp X.K H y (.tuple ds) ∧ SeqAt.shaped d = true ∧ SeqAt.shaped (.list ds) = true ∧ Q (.bl (!ds.any fun z => PyData.eqv z d)) H) := by
  intro pins s σ H x y v u Q I rx ry ⟨d, ds, hd, he, sd, se, q⟩
  obtain ⟨as, r1⟩ := Dp.reads I d x v hd rx
  obtain ⟨bs, r2⟩ := Dp.reads I (.tuple ds) y u he ry
  exact SeqAt.notIn_tuple_reads r2 r1 (SeqAt.canLay_of_shaped se) (SeqAt.canLay_of_shaped sd) (room_in_shaped sd hu) ⟨.bl _, H, I, rfl, q⟩
theorem op_inT {ra : R} {x : PyData} {ys : List PyData} (hu : X.A.units + 65 < cLine) (ea : datOf ra = some x) (sx : SeqAt.shaped x = true) (sy : SeqAt.shaped (.list ys) = true) : OpOk X (compareOp .In) ra (.d (.tuple ys)) (.d (.bool (ys.any fun z => PyData.eqv z x))) :=
  .of (inTup_ok hu) fun _ _ _ _ _ ha hb _ q => ⟨x, ys, ha.dat ea, DR.dp _ _ hb, sx, sy, q _ (.bl _)⟩
theorem op_notInT {ra : R} {x : PyData} {ys : List PyData} (hu : X.A.units + 65 < cLine) (ea : datOf ra = some x) (sx : SeqAt.shaped x = true) (sy : SeqAt.shaped (.list ys) = true) : OpOk X (compareOp .NotIn) ra (.d (.tuple ys)) (.d (.bool (!ys.any fun z => PyData.eqv z x))) :=
  .of (notInTup_ok hu) fun _ _ _ _ _ ha hb _ q => ⟨x, ys, ha.dat ea, DR.dp _ _ hb, sx, sy, q _ (.bl _)⟩
theorem op_isNX {ra : R} {x : PyData} (ea : datOf ra = some x) : OpOk X (compareOp .Is) ra (.d .none) (.d (.bool (match x with | .none => true | _ => false))) :=
  .of op_isN fun _ _ _ _ _ ha hb _ q => ⟨drN hb, by
    have h := ha.dat ea
    cases h <;> exact q _ (.bl _)⟩
theorem op_notNX {ra : R} {x : PyData} (ea : datOf ra = some x) : OpOk X (compareOp .IsNot) ra (.d .none) (.d (.bool (match x with | .none => false | _ => true))) :=
  .of op_notN fun _ _ _ _ _ ha hb _ q => ⟨drN hb, by
    have h := ha.dat ea
    cases h <;> exact q _ (.bl _)⟩
/-- tuple + tuple, list + list -/
theorem op_addT {xs ys : List PyData} (z : xs.length + ys.length ≤ sizeLine) : OpOk X (binaryOp .Add) (.d (.tuple xs)) (.d (.tuple ys)) (.d (.tuple (xs ++ ys))) := fun H0 H w x y tr ha hb Q q => by
  obtain ⟨a, vs, rfl, ta, da⟩ := drT ha
  obtain ⟨b, us, rfl, tb, db⟩ := drT hb
  refine OpRc op_catA ⟨a, b, vs, us, rfl, rfl, ta, tb, by rw [da.length, db.length]; exact z, fun e => ?_, fun _ e => ?_, fun _ _ p n => ?_⟩
  · refine q _ H w (Same.refl H) (fun _ _ => rfl) tr ?_
    have : xs = [] := by cases xs with | nil => rfl | cons _ _ => have := da.length; rw [e] at this; simp at this
    subst this
    exact .tup tb db
  · refine q _ H w (Same.refl H) (fun _ _ => rfl) tr ?_
    have : ys = [] := by cases ys with | nil => rfl | cons _ _ => have := db.length; rw [e] at this; simp at this
    subst this
    rw [List.append_nil]
    exact .tup ta da
  · have sm : Same H (upd H p (.tup (vs ++ us))) := same_upd n
    exact q _ _ w sm (fun _ _ => rfl) (tr_upd tr) (.tup (.inl (.inl upd_same)) (DRs.mv (sstep sm fun _ _ => rfl : StepE w H w _).mv _ _ (da.append db)))
end
end Ab

namespace Ab
open PySem PySem.Spec PyProof.Rows L2

section
variable {X : Cx} {rs rs1 rs2 rs' : List R} {pu pu1 pu2 : Bool}

/-! ### tests -/
theorem Et.val {e : Expr} {b : Bool} (h : Ev X pu rs e (.d (.bool b)) rs') (he : ∀ whole, isTrue e X.env whole = (do let v ← whole; standAt e.pos; holding [v] (truthy v))) : Et X pu rs e b rs' := fun σ H w S Q q => by
  refine PTc (pt_val cT_ok he) ?_
  refine h σ H w S _ fun v H1 w1 S1 st t s => ?_
  cases (show DR X.K H1 w1 v (.bool b) from t)
  exact ⟨b, rfl, q H1 w1 S1 st s⟩
theorem Et.not {e : Expr} {b : Bool} {pos} (h : Et X pu rs e b rs') : Et X pu rs (.UnaryOp .Not e pos) (!b) rs' := fun σ H w S Q q => PTc (pt_not cB_ok) (h σ H w S _ fun H1 w1 S1 st s => q H1 w1 S1 st s)
theorem Et.of {e : Expr} {b : Bool} (h : Ew X pu rs e b rs') : Et X pu rs e b rs' := fun σ H w S Q q => PTc cW_ok.pt (h σ H w S Q q)
theorem Et.conv {e : Expr} {b b' : Bool} (h : Et X pu rs e b rs') (er : b = b') : Et X pu rs e b' rs' := by subst er; exact h
theorem Ew.and1 {e : Expr} {b : Bool} {pos} (h : Et X pu rs e b rs') : Ew X pu rs (.BoolOp .And [e] pos) b rs' := fun σ H w S Q q => PWc (pw_and1 cB_ok) (h σ H w S Q q)
theorem Ew.or1 {e : Expr} {b : Bool} {pos} (h : Et X pu rs e b rs') : Ew X pu rs (.BoolOp .Or [e] pos) b rs' := fun σ H w S Q q => PWc (pw_or1 cB_ok) (h σ H w S Q q)
theorem Ew.and {a b : Expr} {es : List Expr} {x z : Bool} {pos} (ha : Et X pu1 rs a x rs1) (hb : x = true → Ew X pu2 rs1 (.BoolOp .And (b :: es) pos) z rs2) (hn : x = false → z = false ∧ rs2 = rs1) : Ew X (pu1 && pu2) rs (.BoolOp .And (a :: b :: es) pos) z rs2 := fun σ H w S Q q => by
  refine PWc (pw_and cB_ok cW_ok) ?_
  refine ha σ H w S _ fun H1 w1 S1 st s => ?_
  cases x with
  | false =>
    obtain ⟨e1, e2⟩ := hn rfl
    subst e1 e2
    rw [if_neg Bool.false_ne_true]
    exact q H1 w1 S1 st fun e => s (by rw [Bool.and_eq_true] at e; exact e.1)
  | true =>
    rw [if_pos rfl]
    refine hb rfl σ H1 w1 S1 Q fun H2 w2 S2 st2 s2 => q H2 w2 S2 (st.trans st2) fun e => ?_
    rw [Bool.and_eq_true] at e
    exact (s e.1).trans (s2 e.2)
theorem Ew.or {a b : Expr} {es : List Expr} {x z : Bool} {pos} (ha : Et X pu1 rs a x rs1) (hb : x = false → Ew X pu2 rs1 (.BoolOp .Or (b :: es) pos) z rs2) (hn : x = true → z = true ∧ rs2 = rs1) : Ew X (pu1 && pu2) rs (.BoolOp .Or (a :: b :: es) pos) z rs2 := fun σ H w S Q q => by
  refine PWc (pw_or cB_ok cW_ok) ?_
  refine ha σ H w S _ fun H1 w1 S1 st s => ?_
  cases x with
  | true =>
    obtain ⟨e1, e2⟩ := hn rfl
    subst e1 e2
    rw [if_pos rfl]
    exact q H1 w1 S1 st fun e => s (by rw [Bool.and_eq_true] at e; exact e.1)
  | false =>
    rw [if_neg Bool.false_ne_true]
    refine hb rfl σ H1 w1 S1 Q fun H2 w2 S2 st2 s2 => q H2 w2 S2 (st.trans st2) fun e => ?_
    rw [Bool.and_eq_true] at e
    exact (s e.1).trans (s2 e.2)
/-- all parts pure -/
theorem Ew.andp {a b : Expr} {es : List Expr} {x y : Bool} {pos} (ha : Et X true rs a x rs) (hb : x = true → Ew X true rs (.BoolOp .And (b :: es) pos) y rs) : Ew X true rs (.BoolOp .And (a :: b :: es) pos) (x && y) rs :=
  Ew.and (pu1 := true) (pu2 := true) ha (fun e => by subst e; exact hb rfl) fun e => by subst e; exact ⟨rfl, rfl⟩
theorem Ew.orp {a b : Expr} {es : List Expr} {x y : Bool} {pos} (ha : Et X true rs a x rs) (hb : x = false → Ew X true rs (.BoolOp .Or (b :: es) pos) y rs) : Ew X true rs (.BoolOp .Or (a :: b :: es) pos) (x || y) rs :=
  Ew.or (pu1 := true) (pu2 := true) ha (fun e => by subst e; exact hb rfl) fun e => by subst e; exact ⟨rfl, rfl⟩
/-- and, or as values -/
theorem Ev.one {op} {e : Expr} {r : R} {pos} (h : Ev X pu rs e r rs') : Ev X pu rs (.BoolOp op [e] pos) r rs' := fun σ H w S Q q => PEc (pe_one cT_ok) (h σ H w S Q q)
theorem Ev.and {a b : Expr} {es : List Expr} {x z : Bool} {pos} (ha : Ev X pu1 rs a (.d (.bool x)) rs1) (hb : x = true → Ev X pu2 rs1 (.BoolOp .And (b :: es) pos) (.d (.bool z)) rs2) (hn : x = false → z = false ∧ rs2 = rs1) : Ev X (pu1 && pu2) rs (.BoolOp .And (a :: b :: es) pos) (.d (.bool z)) rs2 := fun σ H w S Q q => by
  refine PEc (pe_and cT_ok cT_ok) ?_
  refine ha σ H w S _ fun v H1 w1 S1 st t s => ?_
  cases (show DR X.K H1 w1 v (.bool x) from t)
  refine ⟨x, rfl, ?_⟩
  cases x with
  | false =>
    obtain ⟨e1, e2⟩ := hn rfl
    subst e1 e2
    rw [if_neg Bool.false_ne_true]
    exact q _ H1 w1 S1 st (.bl false) fun e => s (by rw [Bool.and_eq_true] at e; exact e.1)
  | true =>
    rw [if_pos rfl]
    refine hb rfl σ H1 w1 S1 Q fun v2 H2 w2 S2 st2 t2 s2 => q v2 H2 w2 S2 (st.trans st2) t2 fun e => ?_
    rw [Bool.and_eq_true] at e
    exact (s e.1).trans (s2 e.2)
theorem Ev.or {a b : Expr} {es : List Expr} {x z : Bool} {pos} (ha : Ev X pu1 rs a (.d (.bool x)) rs1) (hb : x = false → Ev X pu2 rs1 (.BoolOp .Or (b :: es) pos) (.d (.bool z)) rs2) (hn : x = true → z = true ∧ rs2 = rs1) : Ev X (pu1 && pu2) rs (.BoolOp .Or (a :: b :: es) pos) (.d (.bool z)) rs2 := fun σ H w S Q q => by
  refine PEc (pe_or cT_ok cT_ok) ?_
  refine ha σ H w S _ fun v H1 w1 S1 st t s => ?_
  cases (show DR X.K H1 w1 v (.bool x) from t)
  refine ⟨x, rfl, ?_⟩
  cases x with
  | true =>
    obtain ⟨e1, e2⟩ := hn rfl
    subst e1 e2
    rw [if_pos rfl]
    exact q _ H1 w1 S1 st (.bl true) fun e => s (by rw [Bool.and_eq_true] at e; exact e.1)
  | false =>
    rw [if_neg Bool.false_ne_true]
    refine hb rfl σ H1 w1 S1 Q fun v2 H2 w2 S2 st2 t2 s2 => q v2 H2 w2 S2 (st.trans st2) t2 fun e => ?_
    rw [Bool.and_eq_true] at e
    exact (s e.1).trans (s2 e.2)
theorem Ev.andp {a b : Expr} {es : List Expr} {x y : Bool} {pos} (ha : Ev X true rs a (.d (.bool x)) rs) (hb : x = true → Ev X true rs (.BoolOp .And (b :: es) pos) (.d (.bool y)) rs) : Ev X true rs (.BoolOp .And (a :: b :: es) pos) (.d (.bool (x && y))) rs :=
  Ev.and (pu1 := true) (pu2 := true) ha (fun e => by subst e; exact hb rfl) fun e => by subst e; exact ⟨rfl, rfl⟩
theorem Ev.orp {a b : Expr} {es : List Expr} {x y : Bool} {pos} (ha : Ev X true rs a (.d (.bool x)) rs) (hb : x = false → Ev X true rs (.BoolOp .Or (b :: es) pos) (.d (.bool y)) rs) : Ev X true rs (.BoolOp .Or (a :: b :: es) pos) (.d (.bool (x || y))) rs :=
  Ev.or (pu1 := true) (pu2 := true) ha (fun e => by subst e; exact hb rfl) fun e => by subst e; exact ⟨rfl, rfl⟩
theorem Ev.not {e : Expr} {b : Bool} {pos} (h : Ev X pu rs e (.d (.bool b)) rs') : Ev X pu rs (.UnaryOp .Not e pos) (.d (.bool (!b))) rs' := fun σ H w S Q q => by
  refine PEc (pe_not cT_ok) ?_
  refine h σ H w S _ fun v H1 w1 S1 st t s => ?_
  cases (show DR X.K H1 w1 v (.bool b) from t)
  exact ⟨b, rfl, q _ H1 w1 S1 st (.bl _) s⟩
theorem Ev.neg {e : Expr} {i : Int} {pos} (h : Ev X pu rs e (.d (.int i)) rs') : Ev X pu rs (.UnaryOp .USub e pos) (.d (.int (-i))) rs' := fun σ H w S Q q => by
  refine PEc (pe_un un_neg cT_ok) ?_
  refine h σ H w S _ fun v H1 w1 S1 st t s => ?_
  cases (show DR X.K H1 w1 v (.int i) from t)
  exact ⟨i, rfl, q _ H1 w1 S1 st (.int _) s⟩
theorem Ev.ife {c a b : Expr} {x : Bool} {r : R} {pos} (hc : Et X pu1 rs c x rs1) (ha : x = true → Ev X pu2 rs1 a r rs2) (hb : x = false → Ev X pu2 rs1 b r rs2) : Ev X (pu1 && pu2) rs (.IfExp c a b pos) r rs2 := fun σ H w S Q q => by
  refine PEc (pe_ifExp cB_ok cT_ok cT_ok) ?_
  refine hc σ H w S _ fun H1 w1 S1 st s => ?_
  have fin : ∀ {e : Expr}, Ev X pu2 rs1 e r rs2 → cT X e σ H1 Q := fun {e} h => h σ H1 w1 S1 Q fun v2 H2 w2 S2 st2 t2 s2 => q v2 H2 w2 S2 (st.trans st2) (t2.from st.g) fun e => by
    rw [Bool.and_eq_true] at e
    exact (s e.1).trans (s2 e.2)
  cases x with
  | true => rw [if_pos rfl]; exact fin (ha rfl)
  | false => rw [if_neg Bool.false_ne_true]; exact fin (hb rfl)

/-! ### statements -/
inductive O where
  | nx (rs : List R) | rt (r : R) (rs : List R) | bk (rs : List R) | ct (rs : List R)
def cS (X : Cx) (st : Stmt) : TS := fun D σ H => ∀ pins s, Inv X pins σ H s → wpAny (model X.prog X.w) X.A (exec st X.env) (SP X pins D) X.xe s
theorem cS_ok {st : Stmt} : PS X st (cS X st) := ⟨fun pins s σ H D I h => h pins s I⟩
theorem PSc {st : Stmt} {t : TS} (h : PS X st t) {σ : Sl} {H : Hp} {D : L2.Ends} (q : t D σ H) : cS X st D σ H := fun pins s I => h.run pins s σ H D I q
def cSs (X : Cx) (st : List Stmt) : TS := fun D σ H => ∀ pins s, Inv X pins σ H s → wpAny (model X.prog X.w) X.A (execs st X.env) (SP X pins D) X.xe s
theorem cSs_ok {st : List Stmt} : PSs X st (cSs X st) := ⟨fun pins s σ H D I h => h pins s I⟩
theorem PSsc {st : List Stmt} {t : TS} (h : PSs X st t) {σ : Sl} {H : Hp} {D : L2.Ends} (q : t D σ H) : cSs X st D σ H := fun pins s I => h.run pins s σ H D I q
def OutOk (X : Cx) (H : Hp) (w : Own) (D : L2.Ends) : O → Prop
  | .nx rs' => ∀ σ' H' w', RSx X H' w' σ' rs' → Step w H w' H' → D.nx σ' H'
  | .rt r rs' => ∀ v σ' H' w', RSx X H' w' σ' rs' → Step w H w' H' → RR X.prog X.w X.K rs' H' w' v r → D.rt v H'
  | .bk rs' => ∀ σ' H' w', RSx X H' w' σ' rs' → Step w H w' H' → D.bk σ' H'
  | .ct rs' => ∀ σ' H' w', RSx X H' w' σ' rs' → Step w H w' H' → D.ct σ' H'
theorem OutOk.step {H H1 : Hp} {w w1 : Own} {D : L2.Ends} {o : O} (h : OutOk X H w D o) (st : Step w H w1 H1) : OutOk X H1 w1 D o := by
  cases o with
  | nx rs' => exact fun σ' H' w' S s => h σ' H' w' S (st.trans s)
  | rt r rs' => exact fun v σ' H' w' S s => h v σ' H' w' S (st.trans s)
  | bk rs' => exact fun σ' H' w' S s => h σ' H' w' S (st.trans s)
  | ct rs' => exact fun σ' H' w' S s => h σ' H' w' S (st.trans s)
def Ex (X : Cx) (rs : List R) (st : Stmt) (o : O) : Prop := ∀ σ H w, RSx X H w σ rs → ∀ D : L2.Ends, OutOk X H w D o → cS X st D σ H
def Exs (X : Cx) (rs : List R) (st : List Stmt) (o : O) : Prop := ∀ σ H w, RSx X H w σ rs → ∀ D : L2.Ends, OutOk X H w D o → cSs X st D σ H
theorem Exs.nil : Exs X rs [] (.nx rs) := fun σ H w S D q => PSsc pss_nil (q σ H w S .refl)
theorem Exs.cons {s : Stmt} {ss : List Stmt} {o : O} (h : Ex X rs s (.nx rs1)) (hs : Exs X rs1 ss o) : Exs X rs (s :: ss) o := fun σ H w S D q =>
  PSsc (pss_cons cS_ok cSs_ok) (h σ H w S _ fun σ' H' w' S' st => hs σ' H' w' S' D (q.step st))
theorem Exs.ret {s : Stmt} {ss : List Stmt} {r : R} (h : Ex X rs s (.rt r rs1)) : Exs X rs (s :: ss) (.rt r rs1) := fun σ H w S D q => PSsc (pss_cons cS_ok cSs_ok) (h σ H w S _ q)
theorem Exs.brk {s : Stmt} {ss : List Stmt} (h : Ex X rs s (.bk rs1)) : Exs X rs (s :: ss) (.bk rs1) := fun σ H w S D q => PSsc (pss_cons cS_ok cSs_ok) (h σ H w S _ q)
theorem Exs.cont {s : Stmt} {ss : List Stmt} (h : Ex X rs s (.ct rs1)) : Exs X rs (s :: ss) (.ct rs1) := fun σ H w S D q => PSsc (pss_cons cS_ok cSs_ok) (h σ H w S _ q)
theorem Exs.conv {ss : List Stmt} {o o' : O} (h : Exs X rs ss o) (e : o = o') : Exs X rs ss o' := by subst e; exact h
theorem Ex.conv {s : Stmt} {o o' : O} (h : Ex X rs s o) (e : o = o') : Ex X rs s o' := by subst e; exact h

/-- less is known -/
def Weak (rs rs' : List R) : Prop := ∀ P W K H w σ, RS P W K H w σ rs → ∃ w', RS P W K H w' σ rs' ∧ Step w H w' H
theorem Weak.refl : Weak rs rs := fun _ _ _ _ w _ h => ⟨w, h, .refl⟩
theorem Weak.trans (a : Weak rs rs1) (b : Weak rs1 rs2) : Weak rs rs2 := fun P W K H w σ h => by
  obtain ⟨w1, h1, s1⟩ := a P W K H w σ h
  obtain ⟨w2, h2, s2⟩ := b P W K H w1 σ h1
  exact ⟨w2, h2, s1.trans s2⟩
theorem Weak.drop (h : ∀ (i : Nat) (r : R), rs'[i]? = some r → r = R.un ∨ rs[i]? = some r) (hl : rs'.length = rs.length) : Weak rs rs' := fun P W K H w σ S =>
  ⟨w, ⟨hl.trans S.len, S.tr, fun i r e => by
    rcases h i r e with rfl | q
    · trivial
    · exact S.at_ i r q⟩, .refl⟩
/-- forgetting, slot by slot -/
inductive Fg : List R → List R → Prop
  | nil : Fg [] []
  | keep {r : R} {rs rs' : List R} : Fg rs rs' → Fg (r :: rs) (r :: rs')
  | un {r : R} {rs rs' : List R} : Fg rs rs' → Fg (r :: rs) (.un :: rs')
theorem Fg.weak (h : Fg rs rs') : Weak rs rs' := by
  have h1 : rs'.length = rs.length := by
    induction h with
    | nil => rfl
    | keep _ ih => simp [ih]
    | un _ ih => simp [ih]
  refine Weak.drop ?_ h1
  clear h1
  induction h with
  | nil => intro i r e; simp at e
  | keep _ ih =>
    intro i r e
    cases i with
    | zero => exact .inr e
    | succ i => exact ih i r e
  | un _ ih =>
    intro i r e
    cases i with
    | zero => left; simp at e; exact e.symm
    | succ i => exact ih i r e
/-- an owned list is shared from now on -/
theorem Weak.freeze (i : Nat) {xs : List PyData} (h : rs[i]? = some (.ls xs)) : Weak rs (rs.set i (.d (.list xs))) := fun P W K H w σ S => by
  obtain ⟨p, vs, e, o, hp, dr⟩ := S.at_ i _ h
  have hi : i < rs.length := (List.getElem?_eq_some_iff.mp h).1
  let w' : Own := fun b => if w b = some (i + 1) then none else w b
  have wn : ∀ b, w b = none → w' b = none := fun b e => by show (if w b = some (i + 1) then none else w b) = none; rw [e]; rfl
  have wk : ∀ b j, w b = some j → j ≠ i + 1 → w' b = some j := fun b j e ne => by
    show (if w b = some (i + 1) then none else w b) = some j
    rw [if_neg (fun z => ne (Option.some.inj (e.symm.trans z)))]
    exact e
  have wi : ∀ b, w b = some (i + 1) → w' b = none := fun b e => by show (if w b = some (i + 1) then none else w b) = none; rw [if_pos e]
  have m : Mv w H w' H := ⟨fun _ _ h _ => h, fun b _ e => wn b e⟩
  refine ⟨w', ⟨by rw [List.length_set]; exact S.len, fun b hb => S.tr b fun z => hb (wn b z), fun j r e => ?_⟩, ⟨fun _ _ h _ => h, fun b _ e => wn b e, fun b _ f j e => ?_, fun _ h => h⟩⟩
  · by_cases hj : j = i
    · subst hj
      rw [List.getElem?_set_self hi] at e
      cases e
      exact ⟨.ref p, by assumption, .lst (.inl ⟨.inl hp, wi p o⟩) (DRs.mv m _ _ dr)⟩
    · rw [List.getElem?_set_ne (Ne.symm hj)] at e
      exact (S.at_ j r e).keep m fun b ob hb ho => ⟨ho, wk b _ hb (by omega)⟩
  · by_cases hb : w b = some (i + 1)
    · rw [wi b hb] at e; cases e
    · have : w' b = w b := by show (if w b = some (i + 1) then none else w b) = w b; rw [if_neg hb]
      rw [this] at e
      exact f j e
theorem Exs.pre {ss : List Stmt} {o : O} (a : Weak rs rs1) (h : Exs X rs1 ss o) : Exs X rs ss o := fun σ H w S D q => by
  obtain ⟨w1, S1, s1⟩ := a _ _ _ H w σ S
  exact h σ H w1 S1 D (q.step s1)
theorem Exs.post {ss : List Stmt} (h : Exs X rs ss (.nx rs1)) (a : Weak rs1 rs2) : Exs X rs ss (.nx rs2) := fun σ H w S D q =>
  h σ H w S D fun σ' H' w' S' st => by
    obtain ⟨w1, S1, s1⟩ := a _ _ _ H' w' σ' S'
    exact q σ' H' w1 S1 (st.trans s1)
theorem Ex.post {s : Stmt} (h : Ex X rs s (.nx rs1)) (a : Weak rs1 rs2) : Ex X rs s (.nx rs2) := fun σ H w S D q =>
  h σ H w S D fun σ' H' w' S' st => by
    obtain ⟨w1, S1, s1⟩ := a _ _ _ H' w' σ' S'
    exact q σ' H' w1 S1 (st.trans s1)
theorem Exs.end_ {ss : List Stmt} (h : Fg rs rs1) : Exs X rs [] (.nx rs1) := Exs.post Exs.nil h.weak

/-! ### storing -/
/-- what a name may hold -/
def keepOf : R → Option R
  | .un => some .un
  | .d x => some (.d x)
  | .ls xs => some (.ls xs)
  | .dc xs => some (.dc xs)
  | .fn f => some (.fn f)
  | _ => none
def ownS (w : Own) (i : Nat) (p : Addr) : Own := fun b => if b = p then some (i + 1) else w b
theorem RS.put {P : Program} {W : World} {K : PySem.W.Frag} {H0 H : Hp} {w : Own} {σ : Sl} {i : Nat} {v : V} {r r' : R} (S : RS P W K H w σ rs) (t : RT P W K H0 H w v r) (e : keepOf r = some r') (hi : i < rs.length) :
    ∃ w', RS P W K H w' (σ.set i (some v)) (rs.set i r') ∧ Mv w H w' H ∧ (∀ b, Fre w b → Fre w' b ∨ (H0 b = none ∧ v = .ref b ∧ isOwn r = true)) ∧ (∀ b, w b = none → w' b = none) ∧ (∀ b, w b = some 0 → w' b = some 0 ∨ (v = .ref b ∧ isOwn r = true)) := by
  have hl : i < σ.length := by rw [← S.len]; exact hi
  -- nothing new is owned
  have easy : ∀ r', RO P W K H w (i + 1) (some v) r' → RS P W K H w (σ.set i (some v)) (rs.set i r') := fun r' hr => by
    refine ⟨by rw [List.length_set, List.length_set]; exact S.len, S.tr, fun j r e => ?_⟩
    by_cases hj : j = i
    · subst hj
      rw [List.getElem?_set_self hi] at e
      cases e
      rw [List.getElem?_set_self hl]
      exact hr
    · rw [List.getElem?_set_ne (Ne.symm hj)] at e
      rw [List.getElem?_set_ne (Ne.symm hj)]
      exact S.at_ j r e
  have hard : ∀ p r', v = .ref p → w p = some 0 → (∀ w', Mv w H w' H → w' p = some (i + 1) → RO P W K H w' (i + 1) (some v) r') →
      ∃ w', RS P W K H w' (σ.set i (some v)) (rs.set i r') ∧ Mv w H w' H ∧ (∀ b, Fre w b → Fre w' b ∨ b = p) ∧ (∀ b, w b = none → w' b = none) ∧ (∀ b, w b = some 0 → w' b = some 0 ∨ b = p) := fun p r' ev o hr => by
    have ne : ∀ b, b ≠ p → ownS w i p b = w b := fun b h => by unfold ownS; rw [if_neg h]
    have at_ : ownS w i p p = some (i + 1) := by unfold ownS; rw [if_pos rfl]
    have wn : ∀ b, w b = none → ownS w i p b = none := fun b e => by
      rw [ne b fun z => by subst z; rw [o] at e; cases e]; exact e
    have m : Mv w H (ownS w i p) H := ⟨fun _ _ h _ => h, fun b _ e => wn b e⟩
    refine ⟨ownS w i p, ⟨by rw [List.length_set, List.length_set]; exact S.len, fun b hb => S.tr b fun z => hb (wn b z), fun j r e => ?_⟩, m, fun b f => ?_, wn, fun b e => ?_⟩
    · by_cases hj : j = i
      · subst hj
        rw [List.getElem?_set_self hi] at e
        cases e
        rw [List.getElem?_set_self hl]
        exact hr _ m at_
      · rw [List.getElem?_set_ne (Ne.symm hj)] at e
        rw [List.getElem?_set_ne (Ne.symm hj)]
        exact (S.at_ j r e).keep m fun b ob hb ho => ⟨ho, by rw [ne b fun z => by subst z; rw [o] at hb; cases hb]; exact hb⟩
    · by_cases z : b = p
      · exact .inr z
      · left; intro j e; rw [ne b z] at e; exact f j e
    · by_cases z : b = p
      · exact .inr z
      · left; rw [ne b z]; exact e
  have triv : ∀ r', RO P W K H w (i + 1) (some v) r' → ∃ w', RS P W K H w' (σ.set i (some v)) (rs.set i r') ∧ Mv w H w' H ∧ (∀ b, Fre w b → Fre w' b ∨ (H0 b = none ∧ v = .ref b ∧ isOwn r = true)) ∧ (∀ b, w b = none → w' b = none) ∧ (∀ b, w b = some 0 → w' b = some 0 ∨ (v = .ref b ∧ isOwn r = true)) :=
    fun r' h => ⟨w, easy r' h, ⟨fun _ _ h _ => h, fun _ _ e => e⟩, fun _ f => .inl f, fun _ e => e, fun _ e => .inl e⟩
  cases r with
  | un => cases e; exact triv .un trivial
  | d x => cases e; exact triv (.d x) ⟨v, rfl, t⟩
  | fn f => cases e; exact triv (.fn f) (by rw [show v = .ref f from t]; rfl)
  | ls xs =>
    cases e
    obtain ⟨p, vs, ev, n, o, hp, dr⟩ := t
    obtain ⟨w', a1, a2, a3, a4, a5⟩ := hard p (.ls xs) ev o fun w' m o' => ⟨p, vs, by rw [ev], o', hp, DRs.mv m _ _ dr⟩
    exact ⟨w', a1, a2, fun b f => (a3 b f).imp id fun z => by subst z; exact ⟨n, ev, rfl⟩, a4, fun b z => (a5 b z).imp id fun q => by subst q; exact ⟨ev, rfl⟩⟩
  | dc xs =>
    cases e
    obtain ⟨p, ob, ev, n, o, hp, dr⟩ := t
    obtain ⟨w', a1, a2, a3, a4, a5⟩ := hard p (.dc xs) ev o fun w' m o' => ⟨p, ob, by rw [ev], o', hp, dr.mv m⟩
    exact ⟨w', a1, a2, fun b f => (a3 b f).imp id fun z => by subst z; exact ⟨n, ev, rfl⟩, a4, fun b z => (a5 b z).imp id fun q => by subst q; exact ⟨ev, rfl⟩⟩
  | vl _ _ => cases e
  | vd _ _ => cases e
  | src _ _ _ => cases e
/-- an expression's value put into a slot -/
theorem RS.store {P : Program} {W : World} {K : PySem.W.Frag} {H H1 : Hp} {w w1 : Own} {σ : Sl} {i : Nat} {v : V} {r r' : R} (S : RS P W K H1 w1 σ rs) (st : StepE w H w1 H1) (t : RT P W K H H1 w1 v r) (e : keepOf r = some r') (hi : i < rs.length) :
    ∃ w', RS P W K H1 w' (σ.set i (some v)) (rs.set i r') ∧ Step w H w' H1 := by
  obtain ⟨w', a1, a2, a3, a4, a5⟩ := S.put t e hi
  refine ⟨w', a1, st.k, fun b hb e => a4 b (by rw [st.o b hb]; exact e), fun b hb f => ?_, st.g⟩
  rcases a3 b (fun j z => f j (by rw [← st.o b hb]; exact z)) with q | ⟨q, _⟩
  · exact q
  · exact absurd q hb
theorem lt_of_get {α : Type} {l : List α} {i : Nat} {x : α} (h : l[i]? = some x) : i < l.length := (List.getElem?_eq_some_iff.mp h).1
theorem RS.lt {P : Program} {W : World} {K : PySem.W.Frag} {H : Hp} {w : Own} {σ : Sl} (S : RS P W K H w σ rs) {pins : List (Addr × Obj)} {s : Shared} (I : Inv X pins σ H s) {i : Nat} {x : Str} (hi : X.N[i]? = some x) : i < rs.length := by
  rw [S.len, I.len]; exact lt_of_get hi
/-- x = e -/
theorem Ex.set (i : Nat) {x : Str} {e : Expr} {r r' : R} {pos pos' : Pos} (h : Ev X pu rs e r rs1) (hk : keepOf r = some r') (hn : i < rs1.length) (hN : X.N.Nodup) (hi : X.N[i]? = some x) (hx : Loc X.env.scope x)
    (hs : swapsWith e (some (.Name x pos')) pos.line X.env = pure false) (hf : X.fn x = true ∨ X.env.scope.names.lookup x = some .local) : Ex X rs (.Assign [.Name x pos'] e pos) (.nx (rs1.set i r')) := fun σ H w S D q => by
  refine PSc (ps_set hN hi hx cT_ok hs hf) ?_
  refine h σ H w S _ fun v H1 w1 S1 st t s => ?_
  obtain ⟨w', S', st'⟩ := S1.store st t hk hn
  exact q _ H1 w' S' st'
/-- e as a statement -/
theorem Ex.expr {e : Expr} {r : R} {pos : Pos} (h : Ev X pu rs e r rs1) (hs : swapsWith e none pos.line X.env = pure false) : Ex X rs (.Expr e pos) (.nx rs1) := fun σ H w S D q => by
  refine PSc (ps_expr cT_ok hs) ?_
  exact h σ H w S _ fun v H1 w1 S1 st t s => q _ H1 w1 S1 st.step
theorem Ex.ret {e : Expr} {r r' : R} {pos : Pos} (h : Ev X pu rs e r rs1) (hb : backOf rs1 r = some r') : Ex X rs (.Return (some e) pos) (.rt r' rs1) := fun σ H w S D q => by
  refine PSc (ps_ret cT_ok) ?_
  exact h σ H w S _ fun v H1 w1 S1 st t s => q v σ H1 w1 S1 st.step (t.rr hb)
theorem Ex.pass {pos : Pos} : Ex X rs (.Pass pos) (.nx rs) := fun σ H w S D q => PSc ps_pass (q σ H w S .refl)
theorem Ex.brk {pos : Pos} : Ex X rs (.Break pos) (.bk rs) := fun σ H w S D q => PSc ps_break (q σ H w S .refl)
theorem Ex.cont {pos : Pos} : Ex X rs (.Continue pos) (.ct rs) := fun σ H w S D q => PSc ps_continue (q σ H w S .refl)
theorem Ex.ite {c : Expr} {a b : List Stmt} {x : Bool} {o : O} {pos : Pos} (hc : Et X pu rs c x rs1) (ha : x = true → Exs X rs1 a o) (hb : x = false → Exs X rs1 b o) : Ex X rs (.If c a b pos) o := fun σ H w S D q => by
  refine PSc (ps_if cB_ok cSs_ok cSs_ok) ?_
  refine hc σ H w S _ fun H1 w1 S1 st s => ?_
  cases x with
  | true => rw [if_pos rfl]; exact ha rfl σ H1 w1 S1 D (q.step st.step)
  | false => rw [if_neg Bool.false_ne_true]; exact hb rfl σ H1 w1 S1 D (q.step st.step)
end
end Ab

namespace Ab
open PySem PySem.Spec PyProof.Rows L2

section
variable {X : Cx} {rs rs1 rs2 rs' : List R} {pu pu1 pu2 : Bool}

/-! ### loops -/
/-- how a loop's body may end -/
def LoopOut (Q : List R → Prop) (o : O) : O → Prop
  | .nx rs => Q rs
  | .ct rs => Q rs
  | .bk rs => o = .nx rs
  | .rt r rs => o = .rt r rs
theorem body_out {H H1 : Hp} {w w1 : Own} {D : L2.Ends} {o o' : O} {Q : List R → Prop} {N : Sl → Hp → Prop} (q : OutOk X H w D o) (st : Step w H w1 H1) (h : LoopOut Q o o') (hN : ∀ rs' σ' H' w', Q rs' → RSx X H' w' σ' rs' → Step w1 H1 w' H' → N σ' H') :
    OutOk X H1 w1 { D with nx := N, ct := N, bk := D.nx } o' := by
  cases o' with
  | nx rs' => exact fun σ' H' w' S s => hN rs' σ' H' w' h S s
  | ct rs' => exact fun σ' H' w' S s => hN rs' σ' H' w' h S s
  | bk rs' =>
    have e : o = .nx rs' := h
    subst e
    exact fun σ' H' w' S s => q σ' H' w' S (st.trans s)
  | rt r rs' =>
    have e : o = .rt r rs' := h
    subst e
    exact fun v σ' H' w' S s => q v σ' H' w' S (st.trans s)
theorem Ex.while_ {c : Expr} {body : List Stmt} {pos : Pos} {o : O} (P : Nat → List R → Prop) {n : Nat} (h0 : P n rs)
    (turn : ∀ m rs, P m rs → ∃ pu b rs1, Et X pu rs c b rs1 ∧ (b = true → ∃ o', Exs X rs1 body o' ∧ LoopOut (fun rs2 => ∃ m', m' < m ∧ P m' rs2) o o') ∧ (b = false → o = .nx rs1))
    (hp : PassesOwn (model X.prog X.w) X.A X.env X.xe) : Ex X rs (.While c body [] pos) o := fun σ H w S D q => by
  refine PSc (ps_while hp cB_ok cSs_ok) ?_
  refine ⟨fun m σ' H' => ∃ w' rs', RSx X H' w' σ' rs' ∧ P m rs' ∧ Step w H w' H', ⟨n, w, rs, S, h0, .refl⟩, ?_⟩
  rintro m σ1 H1 ⟨w1, rs1, S1, p1, st1⟩
  obtain ⟨pu, b, rs2, ht, h1, h2⟩ := turn m rs1 p1
  refine ht σ1 H1 w1 S1 _ fun H2 w2 S2 st2 s2 => ?_
  cases b with
  | false =>
    rw [if_neg Bool.false_ne_true]
    have e := h2 rfl
    subst e
    exact q σ1 H2 w2 S2 (st1.trans st2.step)
  | true =>
    rw [if_pos rfl]
    obtain ⟨o', hb, lo⟩ := h1 rfl
    refine ⟨fun σ' H' => ∃ m' w' rs', m' < m ∧ RSx X H' w' σ' rs' ∧ P m' rs' ∧ Step w H w' H', fun σ' H' ⟨m', w', rs', l, S', p', st'⟩ => ⟨m', l, w', rs', S', p', st'⟩, ?_⟩
    exact hb σ1 H2 w2 S2 _ (body_out q (st1.trans st2.step) lo fun rs' σ' H' w' ⟨m', l, p'⟩ S' s' => ⟨m', w', rs', l, S', p', (st1.trans st2.step).trans s'⟩)

/-- targets -/
def cG (X : Cx) (tg : Expr) : TG := fun v σ H Q => ∀ pins s u, Inv X pins σ H s → RelV v u → wpAny (model X.prog X.w) X.A (assign tg X.env u) (fun _ s' => ∃ σ' H', Inv X pins σ' H' s' ∧ Q σ' H') X.xe s
theorem cG_ok {tg : Expr} : PG X tg (cG X tg) := ⟨fun pins s σ H v u Q I r h => h pins s u I r⟩
theorem PGc {tg : Expr} {t : TG} (h : PG X tg t) {v : V} {σ : Sl} {H : Hp} {Q : Sl → Hp → Prop} (q : t v σ H Q) : cG X tg v σ H Q := fun pins s u I r => h.run pins s σ H v u Q I r q
/-- a target: js the slots that it stores -/
def Tg (X : Cx) (tg : Expr) (x : PyData) (rs rs' : List R) (js : List Nat) : Prop :=
  ∀ σ H w v, RSx X H w σ rs → DR X.K H w v x → ∀ Q : Sl → Hp → Prop, (∀ σ', RSx X H w σ' rs' → (σ'.length = σ.length ∧ ∀ k, k ∉ js → σ'[k]? = σ[k]?) → Q σ' H) → cG X tg v σ H Q
theorem RS.setD {P : Program} {W : World} {K : PySem.W.Frag} {H : Hp} {w : Own} {σ : Sl} {i : Nat} {v : V} {x : PyData} (S : RS P W K H w σ rs) (t : DR K H w v x) (hi : i < rs.length) : RS P W K H w (σ.set i (some v)) (rs.set i (.d x)) := by
  have hl : i < σ.length := by rw [← S.len]; exact hi
  refine ⟨by rw [List.length_set, List.length_set]; exact S.len, S.tr, fun j r e => ?_⟩
  by_cases hj : j = i
  · subst hj
    rw [List.getElem?_set_self hi] at e
    cases e
    rw [List.getElem?_set_self hl]
    exact ⟨v, rfl, t⟩
  · rw [List.getElem?_set_ne (Ne.symm hj)] at e
    rw [List.getElem?_set_ne (Ne.symm hj)]
    exact S.at_ j r e
theorem Tg.name (i : Nat) {x : Str} {pos : Pos} {d : PyData} (hn : i < rs.length) (hN : X.N.Nodup) (hi : X.N[i]? = some x) (hx : Loc X.env.scope x) (hf : X.fn x = true ∨ X.env.scope.names.lookup x = some .local) : Tg X (.Name x pos) d rs (rs.set i (.d d)) [i] := fun σ H w v S t Q q =>
  PGc (pg_name hN hi hx hf) (q _ (S.setD t hn) ⟨List.length_set, fun k hk => List.getElem?_set_ne (fun z => hk (List.mem_singleton.mpr z.symm))⟩)
/-- several targets -/
def cGs (X : Cx) (ts : List Expr) : TGs := fun vs σ H Q => ∀ pins s us, Inv X pins σ H s → Vals vs us → wpAny (model X.prog X.w) X.A (assignInOrder ((assignEach ts X.env).map (·.2)) us) (fun _ s' => ∃ σ' H', Inv X pins σ' H' s' ∧ Q σ' H') X.xe s
theorem cGs_ok {ts : List Expr} : PGs X ts (cGs X ts) := ⟨fun pins s σ H vs us Q I r h => h pins s us I r⟩
theorem PGsc {ts : List Expr} {t : TGs} (h : PGs X ts t) {vs : List V} {σ : Sl} {H : Hp} {Q : Sl → Hp → Prop} (q : t vs σ H Q) : cGs X ts vs σ H Q := fun pins s us I r => h.run pins s σ H vs us Q I r q
def TgL (X : Cx) (ts : List Expr) (xs : List PyData) (rs rs' : List R) (js : List Nat) : Prop :=
  ∀ σ H w vs, RSx X H w σ rs → DRs X.K H w vs xs → ∀ Q : Sl → Hp → Prop, (∀ σ', RSx X H w σ' rs' → (σ'.length = σ.length ∧ ∀ k, k ∉ js → σ'[k]? = σ[k]?) → Q σ' H) → cGs X ts vs σ H Q
theorem TgL.nil : TgL X [] [] rs rs [] := fun σ H w vs S t Q q => by
  cases t
  exact PGsc pgs_nil ⟨rfl, q σ S ⟨rfl, fun _ _ => rfl⟩⟩
theorem TgL.cons {e : Expr} {es : List Expr} {d : PyData} {ds : List PyData} {j1 j2 : List Nat} (h : Tg X e d rs rs1 j1) (hs : TgL X es ds rs1 rs2 j2) (ha : (assignEach (e :: es) X.env).map (·.2) = assign e X.env :: (assignEach es X.env).map (·.2)) : TgL X (e :: es) (d :: ds) rs rs2 (j1 ++ j2) := fun σ H w vs S t Q q => by
  cases t with
  | cons t1 t2 => exact PGsc (pgs_cons cG_ok cGs_ok ha) ⟨_, _, rfl, h σ H w _ S t1 _ fun σ' S' k1 => hs σ' H w _ S' t2 Q fun σ2 S2 k2 => q σ2 S2 ⟨k2.1.trans k1.1, fun k hk => (k2.2 k fun z => hk (List.mem_append_right _ z)).trans (k1.2 k fun z => hk (List.mem_append_left _ z))⟩⟩
theorem Tg.tup {es : List Expr} {xs : List PyData} {js : List Nat} {k : Nat} {pos : Pos} (h : TgL X es xs rs rs' js) (hc : X.calm = true) (hn : (assignEach es X.env).length = xs.length) (hst : (assignEach es X.env).findIdx? (·.1) = none) : Tg X (.Tuple es k pos) (.tuple xs) rs rs' js := fun σ H w v S t Q q => by
  obtain ⟨a, vs, rfl, ht, hd⟩ := drT t
  exact PGc (pg_tup hc cGs_ok hn hst) ⟨a, vs, rfl, ht, hd.length, h σ H w vs S hd Q q⟩

/-! ### for -/
/-- what a for may walk: shared data, or a new list -/
def walkOf : R → Option (Bool × List PyData)
  | .d (.tuple xs) => some (true, xs)
  | .d (.list xs) => some (false, xs)
  | .ls xs => some (false, xs)
  | _ => none
/-- a temporary is let go -/
def share (w : Own) (p : Addr) : Own := fun b => if b = p then none else w b
theorem RS.share {P : Program} {W : World} {K : PySem.W.Frag} {H : Hp} {w : Own} {σ : Sl} {p : Addr} (S : RS P W K H w σ rs) (o : w p = some 0) : RS P W K H (share w p) σ rs ∧ Mv w H (share w p) H := by
  have ne : ∀ b, b ≠ p → Ab.share w p b = w b := fun b h => by unfold Ab.share; rw [if_neg h]
  have wn : ∀ b, w b = none → Ab.share w p b = none := fun b e => by
    rw [ne b fun z => by subst z; rw [o] at e; cases e]; exact e
  have m : Mv w H (Ab.share w p) H := ⟨fun _ _ h _ => h, fun b _ e => wn b e⟩
  exact ⟨⟨S.len, fun b hb => S.tr b fun z => hb (wn b z), fun j r e => (S.at_ j r e).keep m fun b ob hb ho => ⟨ho, by rw [ne b fun z => by subst z; rw [o] at hb; cases hb]; exact hb⟩⟩, m⟩
theorem share_at {w : Own} {p : Addr} : share w p p = none := by unfold share; rw [if_pos rfl]
/-- the walked thing, shared -/
theorem RT.walk {P : Program} {W : World} {K : PySem.W.Frag} {H H1 : Hp} {w w1 : Own} {σ : Sl} {v : V} {r : R} {xs : List PyData} {t : Bool} (S : RS P W K H1 w1 σ rs) (st : StepE w H w1 H1) (h : RT P W K H H1 w1 v r) (e : walkOf r = some (t, xs)) :
    ∃ a vs w2, v = .ref a ∧ RS P W K H1 w2 σ rs ∧ Step w H w2 H1 ∧ DRs K H1 w2 vs xs ∧ (if t = true then SqT K H1 a vs else ShL K H1 w2 a vs) := by
  cases r with
  | d x =>
    cases x with
    | tuple ys =>
      cases e
      obtain ⟨a, vs, rfl, h1, h2⟩ := drT h
      exact ⟨a, vs, w1, rfl, S, st.step, h2, by rw [if_pos rfl]; exact h1⟩
    | list ys =>
      cases e
      obtain ⟨a, vs, rfl, h1, h3⟩ := drL h
      exact ⟨a, vs, w1, rfl, S, st.step, h3, by rw [if_neg Bool.false_ne_true]; exact h1⟩
    | _ => cases e
  | ls ys =>
    cases e
    obtain ⟨p, vs, rfl, n, o, hp, dr⟩ := h
    obtain ⟨S', m⟩ := S.share o
    refine ⟨p, vs, share w1 p, rfl, S', ⟨st.k, fun b hb e => ?_, fun b hb f => ?_, st.g⟩, DRs.mv m _ _ dr, by rw [if_neg Bool.false_ne_true]; exact .inl ⟨.inl hp, share_at⟩⟩
    · exact m.n b (st.g b hb) (by rw [st.o b hb]; exact e)
    · intro j z
      by_cases q : b = p
      · subst q; rw [share_at] at z; cases z
      · have : share w1 p b = w1 b := by unfold share; rw [if_neg q]
        rw [this, st.o b hb] at z
        exact f j z
  | _ => cases e
theorem Ex.for_ {tg l : Expr} {body : List Stmt} {pos : Pos} {r : R} {t : Bool} {items : List PyData} {o : O} (P : Nat → List R → Prop) (hl : Ev X pu rs l r rs1) (hw : walkOf r = some (t, items)) (h0 : P 0 rs1)
    (turn : ∀ i x rs, items[i]? = some x → P i rs → ∃ rs2 js o', Tg X tg x rs rs2 js ∧ Exs X rs2 body o' ∧ LoopOut (P (i + 1)) o o')
    (fin : ∀ rs, P items.length rs → o = .nx rs) (hp : PassesOwn (model X.prog X.w) X.A X.env X.xe) (hc : X.calm = true) (hs : ∀ x, foldedSetIterable l X.env x = pure x) : Ex X rs (.For tg l body [] pos) o := fun σ H w S D q => by
  cases t with
  | true =>
    refine PSc (ps_for hp hc (pi_tup cT_ok) cG_ok cSs_ok hs) ?_
    refine hl σ H w S _ fun v H1 w1 S1 st1 t1 s1 => ?_
    obtain ⟨a, vs, w2, rfl, S2, st2, dr, sq⟩ := RT.walk S1 st1 t1 hw
    rw [if_pos rfl] at sq
    refine ⟨a, rfl, ⟨vs, sq⟩, ?_⟩
    refine for_tup (K := X.K) (a := a) (xs := vs) (fun i σ' H' => ∃ w' rs', RSx X H' w' σ' rs' ∧ P i rs' ∧ Step w2 H1 w' H') ⟨w2, rs1, S2, h0, .refl⟩ (fun i σ' H' _ ⟨w', rs', S', p', st'⟩ => st'.mv.sqT sq) (fun i x σ' H' hx ⟨w', rs', S', p', st'⟩ => ?_) (fun σ' H' ⟨w', rs', S', p', st'⟩ => ?_)
    · obtain ⟨d, hd, dd⟩ := dr.getV hx
      obtain ⟨rs2, js, o', htg, hb, lo⟩ := turn i d rs' hd p'
      refine htg σ' H' w' x S' (DR.mv st'.mv _ _ dd) _ fun σ3 S3 _ => ?_
      exact hb σ3 H' w' S3 _ (body_out q (st2.trans st') lo fun rs4 σ4 H4 w4 p4 S4 s4 => ⟨w4, rs4, S4, p4, st'.trans s4⟩)
    · have e := fin rs' (by rw [← dr.length]; exact p')
      subst e
      exact q σ' H' w' S' (st2.trans st')
  | false =>
    refine PSc (ps_for hp hc (pi_list cT_ok) cG_ok cSs_ok hs) ?_
    refine hl σ H w S _ fun v H1 w1 S1 st1 t1 s1 => ?_
    obtain ⟨a, vs, w2, rfl, S2, st2, dr, sq⟩ := RT.walk S1 st1 t1 hw
    rw [if_neg Bool.false_ne_true] at sq
    refine ⟨a, rfl, ⟨vs, sq.sq⟩, ?_⟩
    refine for_list (K := X.K) (a := a) (xs := vs) (fun i σ' H' => ∃ w' rs', RSx X H' w' σ' rs' ∧ P i rs' ∧ Step w2 H1 w' H') ⟨w2, rs1, S2, h0, .refl⟩ (fun i σ' H' _ ⟨w', rs', S', p', st'⟩ => (sq.mv st'.mv).sq) (fun i x σ' H' hx ⟨w', rs', S', p', st'⟩ => ?_) (fun σ' H' ⟨w', rs', S', p', st'⟩ => ?_)
    · obtain ⟨d, hd, dd⟩ := dr.getV hx
      obtain ⟨rs2, js, o', htg, hb, lo⟩ := turn i d rs' hd p'
      refine htg σ' H' w' x S' (DR.mv st'.mv _ _ dd) _ fun σ3 S3 _ => ?_
      exact hb σ3 H' w' S3 _ (body_out q (st2.trans st') lo fun rs4 σ4 H4 w4 p4 S4 s4 => ⟨w4, rs4, S4, p4, st'.trans s4⟩)
    · have e := fin rs' (by rw [← dr.length]; exact p')
      subst e
      exact q σ' H' w' S' (st2.trans st')
theorem Ex.forR_ {tg a : Expr} {body : List Stmt} {p pos pos' : Pos} {n : Int} {o : O} (P : Nat → List R → Prop) (hl : Ev X pu rs a (.d (.int n)) rs1) (hn : -(2 ^ 62) ≤ n ∧ n < 2 ^ 62) (h0 : P 0 rs1)
    (turn : ∀ (i : Nat) rs, i < n.toNat → P i rs → ∃ rs2 js o', Tg X tg (.int i) rs rs2 js ∧ Exs X rs2 body o' ∧ LoopOut (P (i + 1)) o o')
    (fin : ∀ rs, P n.toNat rs → o = .nx rs) (hp : PassesOwn (model X.prog X.w) X.A X.env X.xe) (hc : X.calm = true) (hg : Gl X "range") (hm : X.mg "range" = none)
    (hst : starEach [a] X.env = [(false, eval a X.env)]) (hst2 : starEach (a :: []) X.env = (false, eval a X.env) :: starEach [] X.env) (hs : ∀ x, foldedSetIterable (.Call (.Name "range" p) [a] [] pos) X.env x = pure x) : Ex X rs (.For tg (.Call (.Name "range" p) [a] [] pos) body [] pos') o := fun σ H w S D q => by
  refine PSc (ps_for hp hc (pi_range1 hg hm (pa_cons cT_ok pa_nil hst2) hst) cG_ok cSs_ok hs) ?_
  refine hl σ H w S _ fun v H1 w1 S1 st1 t1 s1 => ?_
  cases (show DR X.K H1 w1 v (.int n) from t1)
  refine ⟨n, rfl, hn.1, hn.2, ?_⟩
  refine for_range (lo := 0) (n := n.toNat) (fun i σ' H' => ∃ w' rs', RSx X H' w' σ' rs' ∧ P i rs' ∧ Step w1 H1 w' H') ⟨w1, rs1, S1, h0, .refl⟩ (fun i σ' H' hi ⟨w', rs', S', p', st'⟩ => ?_) (fun σ' H' ⟨w', rs', S', p', st'⟩ => ?_)
  · obtain ⟨rs2, js, o', htg, hb, lo⟩ := turn i rs' hi p'
    rw [show (0 : Int) + (i : Int) = (i : Int) by omega]
    refine htg σ' H' w' _ S' (.int _) _ fun σ3 S3 _ => ?_
    exact hb σ3 H' w' S3 _ (body_out q (st1.step.trans st') lo fun rs4 σ4 H4 w4 p4 S4 s4 => ⟨w4, rs4, S4, p4, st'.trans s4⟩)
  · have e := fin rs' p'
    subst e
    exact q σ' H' w' S' (st1.step.trans st')
theorem Ex.forR2_ {tg a b : Expr} {body : List Stmt} {p pos pos' : Pos} {lo hi : Int} {o : O} (P : Nat → List R → Prop) (ha : Ev X pu1 rs a (.d (.int lo)) rs1) (hb : Ev X pu2 rs1 b (.d (.int hi)) rs2) (hn : -(2 ^ 62) ≤ lo ∧ lo < 2 ^ 62 ∧ -(2 ^ 62) ≤ hi ∧ hi < 2 ^ 62) (h0 : P 0 rs2)
    (turn : ∀ (i : Nat) rs, i < (hi - lo).toNat → P i rs → ∃ rs2 js o', Tg X tg (.int (lo + i)) rs rs2 js ∧ Exs X rs2 body o' ∧ LoopOut (P (i + 1)) o o')
    (fin : ∀ rs, P (hi - lo).toNat rs → o = .nx rs) (hp : PassesOwn (model X.prog X.w) X.A X.env X.xe) (hc : X.calm = true) (hg : Gl X "range") (hm : X.mg "range" = none)
    (hst1 : starEach (a :: [b]) X.env = (false, eval a X.env) :: starEach [b] X.env) (hst2 : starEach (b :: []) X.env = (false, eval b X.env) :: starEach [] X.env)
    (hst : starEach [a, b] X.env = [(false, eval a X.env), (false, eval b X.env)]) (hst3 : starEach [b] X.env = [(false, eval b X.env)]) (hs : ∀ x, foldedSetIterable (.Call (.Name "range" p) [a, b] [] pos) X.env x = pure x) : Ex X rs (.For tg (.Call (.Name "range" p) [a, b] [] pos) body [] pos') o := fun σ H w S D q => by
  refine PSc (ps_for hp hc (pi_range2 hg hm (pa_cons cT_ok (pa_cons cT_ok pa_nil hst2) hst1) hst hst3) cG_ok cSs_ok hs) ?_
  refine ha σ H w S _ fun v H1 w1 S1 st1 t1 s1 => ?_
  cases (show DR X.K H1 w1 v (.int lo) from t1)
  refine hb σ H1 w1 S1 _ fun v H2 w2 S2 st2 t2 s2 => ?_
  cases (show DR X.K H2 w2 v (.int hi) from t2)
  refine ⟨lo, hi, rfl, hn, ?_⟩
  refine for_range (lo := lo) (n := (hi - lo).toNat) (fun i σ' H' => ∃ w' rs', RSx X H' w' σ' rs' ∧ P i rs' ∧ Step w2 H2 w' H') ⟨w2, rs2, S2, h0, .refl⟩ (fun i σ' H' hi ⟨w', rs', S', p', st'⟩ => ?_) (fun σ' H' ⟨w', rs', S', p', st'⟩ => ?_)
  · obtain ⟨rs2, js, o', htg, hb, lo⟩ := turn i rs' hi p'
    refine htg σ' H' w' _ S' (.int _) _ fun σ3 S3 _ => ?_
    exact hb σ3 H' w' S3 _ (body_out q ((st1.trans st2).step.trans st') lo fun rs4 σ4 H4 w4 p4 S4 s4 => ⟨w4, rs4, S4, p4, st'.trans s4⟩)
  · have e := fin rs' p'
    subst e
    exact q σ' H' w' S' ((st1.trans st2).step.trans st')

/-! ### several names at once -/
theorem Ex.tgt {tg e : Expr} {x : PyData} {pos : Pos} (h : Ev X pu rs e (.d x) rs1) {js : List Nat} (ht : Tg X tg x rs1 rs2 js) (hs : swapsWithSole [tg] e pos.line X.env = pure false) (hw : swappedStores [tg] e X.env = pure none) (h1 : (assignEach [tg] X.env).map (·.2) = [assign tg X.env]) : Ex X rs (.Assign [tg] e pos) (.nx rs2) := fun σ H w S D q => by
  refine PSc (ps_asg cT_ok cG_ok hs hw h1) ?_
  refine h σ H w S _ fun v H1 w1 S1 st t s => ?_
  exact ht σ H1 w1 v S1 t _ fun σ' S' _ => q σ' H1 w1 S' st.step
/-- two values into two slots -/
theorem RS.put2 {P : Program} {W : World} {K : PySem.W.Frag} {H H1 : Hp} {w w1 : Own} {σ : Sl} {i j : Nat} {v u : V} {ra rb ra' rb' : R} (S : RS P W K H1 w1 σ rs) (st : StepE w H w1 H1) (t : RTs P W K H H1 w1 [v, u] [ra, rb]) (ea : keepOf ra = some ra') (eb : keepOf rb = some rb') (hi : i < rs.length) (hj : j < rs.length) :
    ∃ w', RS P W K H1 w' ((σ.set i (some v)).set j (some u)) ((rs.set i ra').set j rb') ∧ Step w H w' H1 := by
  obtain ⟨t1, H2, g2, n2, t2, _⟩ := t
  obtain ⟨wa, A1, A2, A3, A4, A5⟩ := S.put t1 ea hi
  have t2' : RT P W K H2 H1 wa u rb := by
    cases rb with
    | un => trivial
    | d x => exact DR.mv A2 _ _ t2
    | fn f => exact t2
    | ls xs =>
      obtain ⟨p, vs, ev, n, o, hp, dr⟩ := t2
      refine ⟨p, vs, ev, n, ?_, hp, DRs.mv A2 _ _ dr⟩
      rcases A5 p o with q | ⟨q, ow⟩
      · exact q
      · exact absurd n (n2 p q ow)
    | dc xs =>
      obtain ⟨p, vs, ev, n, o, hp, dr⟩ := t2
      refine ⟨p, vs, ev, n, ?_, hp, dr.mv A2⟩
      rcases A5 p o with q | ⟨q, ow⟩
      · exact q
      · exact absurd n (n2 p q ow)
    | vl _ _ => cases eb
    | vd _ _ => cases eb
    | src _ _ _ => cases eb
  obtain ⟨wb, B1, B2, B3, B4, B5⟩ := A1.put t2' eb (by rw [List.length_set]; exact hj)
  refine ⟨wb, B1, st.k, fun b hb e => B4 b (A4 b (by rw [st.o b hb]; exact e)), fun b hb f => ?_, st.g⟩
  rcases A3 b (fun k z => f k (by rw [← st.o b hb]; exact z)) with q | ⟨q, _⟩
  · rcases B3 b q with q | ⟨q, _⟩
    · exact q
    · exact absurd q (g2 b hb)
  · exact absurd q hb
theorem Ex.par2 (i j : Nat) {x y : Str} {a b : Expr} {ra rb ra' rb' : R} {px py pt pos : Pos} {kt k2 pt2} (h : EvL X pu rs [a, b] [ra, rb] rs1) (ea : keepOf ra = some ra') (eb : keepOf rb = some rb') (hi' : i < rs1.length) (hj' : j < rs1.length)
    (hc : X.calm = true) (hN : X.N.Nodup) (hi : X.N[i]? = some x) (hj : X.N[j]? = some y) (hij : i ≠ j)
    (hx : X.env.scope.names.lookup x = some .local) (hy : X.env.scope.names.lookup y = some .local)
    (hw : swappedStores [.Tuple [.Name x px, .Name y py] kt pt] (.Tuple [a, b] k2 pt2) X.env = pure (some [x, y]))
    (hs : swapsWithSole [.Tuple [.Name x px, .Name y py] kt pt] (.Tuple [a, b] k2 pt2) pos.line X.env = pure false) : Ex X rs (.Assign [.Tuple [.Name x px, .Name y py] kt pt] (.Tuple [a, b] k2 pt2) pos) (.nx ((rs1.set i ra').set j rb')) := fun σ H w S D q => by
  refine PSc (ps_par hc hN hi hj hij hx hy cA_ok hw hs) ?_
  refine h σ H w S _ fun vs H1 w1 S1 st t s => ?_
  match vs, t with
  | [v, u], t =>
    obtain ⟨w', S', st'⟩ := S1.put2 (i := i) (j := j) st t ea eb hi' hj'
    exact ⟨v, u, rfl, q _ H1 w' S' st'⟩
theorem RT.put {P : Program} {W : World} {K : PySem.W.Frag} {H1 H2 : Hp} {w1 wa : Own} {v u : V} {ra rb rb' : R} (t2 : RT P W K H2 H1 w1 u rb) (m : Mv w1 H1 wa H1) (A5 : ∀ b, w1 b = some 0 → wa b = some 0 ∨ (v = .ref b ∧ isOwn ra = true)) (n2 : ∀ p, v = .ref p → isOwn ra = true → H2 p ≠ none) (eb : keepOf rb = some rb') : RT P W K H2 H1 wa u rb := by
  cases rb with
  | un => trivial
  | d x => exact DR.mv m _ _ t2
  | fn f => exact t2
  | ls xs =>
    obtain ⟨p, vs, ev, n, o, hp, dr⟩ := t2
    refine ⟨p, vs, ev, n, ?_, hp, DRs.mv m _ _ dr⟩
    rcases A5 p o with q | ⟨q, ow⟩
    · exact q
    · exact absurd n (n2 p q ow)
  | dc xs =>
    obtain ⟨p, vs, ev, n, o, hp, dr⟩ := t2
    refine ⟨p, vs, ev, n, ?_, hp, dr.mv m⟩
    rcases A5 p o with q | ⟨q, ow⟩
    · exact q
    · exact absurd n (n2 p q ow)
  | vl _ _ => cases eb
  | vd _ _ => cases eb
  | src _ _ _ => cases eb
theorem RS.put3 {P : Program} {W : World} {K : PySem.W.Frag} {H H1 : Hp} {w w1 : Own} {σ : Sl} {i j l : Nat} {v u x : V} {ra rb rc ra' rb' rc' : R} (S : RS P W K H1 w1 σ rs) (st : StepE w H w1 H1) (t : RTs P W K H H1 w1 [v, u, x] [ra, rb, rc]) (ea : keepOf ra = some ra') (eb : keepOf rb = some rb') (ec : keepOf rc = some rc') (hi : i < rs.length) (hj : j < rs.length) (hl : l < rs.length) :
    ∃ w', RS P W K H1 w' (((σ.set i (some v)).set j (some u)).set l (some x)) (((rs.set i ra').set j rb').set l rc') ∧ Step w H w' H1 := by
  obtain ⟨t1, H2, g2, n2, t2, H3, g3, n3, t3, _⟩ := t
  obtain ⟨wa, A1, A2, A3, A4, A5⟩ := S.put t1 ea hi
  have t2' : RT P W K H2 H1 wa u rb := t2.put A2 A5 n2 eb
  have t3' : RT P W K H3 H1 wa x rc := t3.put A2 A5 (fun p a b => g3 p (n2 p a b)) ec
  obtain ⟨wb, B1, B2, B3, B4, B5⟩ := A1.put t2' eb (by rw [List.length_set]; exact hj)
  have t3'' : RT P W K H3 H1 wb x rc := t3'.put B2 B5 n3 ec
  obtain ⟨wc, C1, C2, C3, C4, C5⟩ := B1.put t3'' ec (by rw [List.length_set, List.length_set]; exact hl)
  refine ⟨wc, C1, st.k, fun b hb e => C4 b (B4 b (A4 b (by rw [st.o b hb]; exact e))), fun b hb f => ?_, st.g⟩
  rcases A3 b (fun k z => f k (by rw [← st.o b hb]; exact z)) with q | ⟨q, _⟩
  · rcases B3 b q with q | ⟨q, _⟩
    · rcases C3 b q with q | ⟨q, _⟩
      · exact q
      · exact absurd q (g3 b (g2 b hb))
    · exact absurd q (g2 b hb)
  · exact absurd q hb
theorem Ex.par3 (i j l : Nat) {x y z : Str} {a b c : Expr} {ra rb rc ra' rb' rc' : R} {px py pz pt pos : Pos} {kt k2 pt2} (h : EvL X pu rs [a, b, c] [ra, rb, rc] rs1) (ea : keepOf ra = some ra') (eb : keepOf rb = some rb') (ec : keepOf rc = some rc') (hi' : i < rs1.length) (hj' : j < rs1.length) (hl' : l < rs1.length)
    (hc : X.calm = true) (hN : X.N.Nodup) (hi : X.N[i]? = some x) (hj : X.N[j]? = some y) (hl : X.N[l]? = some z) (hij : i ≠ j) (hil : i ≠ l) (hjl : j ≠ l)
    (hx : X.env.scope.names.lookup x = some .local) (hy : X.env.scope.names.lookup y = some .local) (hz : X.env.scope.names.lookup z = some .local)
    (hw : swappedStores [.Tuple [.Name x px, .Name y py, .Name z pz] kt pt] (.Tuple [a, b, c] k2 pt2) X.env = pure (some [x, y, z]))
    (hs : swapsWithSole [.Tuple [.Name x px, .Name y py, .Name z pz] kt pt] (.Tuple [a, b, c] k2 pt2) pos.line X.env = pure false) : Ex X rs (.Assign [.Tuple [.Name x px, .Name y py, .Name z pz] kt pt] (.Tuple [a, b, c] k2 pt2) pos) (.nx (((rs1.set i ra').set j rb').set l rc')) := fun σ H w S D q => by
  refine PSc (ps_par3 hc hN hi hj hl hij hil hjl hx hy hz cA_ok hw hs) ?_
  refine h σ H w S _ fun vs H1 w1 S1 st t s => ?_
  match vs, t with
  | [v, u, v3], t =>
    obtain ⟨w', S', st'⟩ := S1.put3 (i := i) (j := j) (l := l) st t ea eb ec hi' hj' hl'
    exact ⟨v, u, v3, rfl, q _ H1 w' S' st'⟩
/-- several names, one of them a cell: the tuple is made, then taken apart -/
theorem Ex.tup2 (i j : Nat) {ta tb a b : Expr} {x y : Str} {pa pb pt pos : Pos} {ra rb ra' rb' : R} {kt k2 pt2} (h : EvL X pu rs [a, b] [ra, rb] rs1) (ea : keepOf ra = some ra') (eb : keepOf rb = some rb') (hi' : i < rs1.length) (hj' : j < rs1.length)
    (hc : X.calm = true) (hN : X.N.Nodup) (hi : X.N[i]? = some x) (hj : X.N[j]? = some y) (hx : Loc X.env.scope x) (hy : Loc X.env.scope y) (hfx : X.fn x = true ∨ X.env.scope.names.lookup x = some .local) (hfy : X.fn y = true ∨ X.env.scope.names.lookup y = some .local)
    (hn : (assignEach [.Name x pa, .Name y pb] X.env).length = 2) (hst : (assignEach [.Name x pa, .Name y pb] X.env).findIdx? (·.1) = none)
    (hp1 : (assignEach [.Name x pa, .Name y pb] X.env).map (·.2) = assign (.Name x pa) X.env :: (assignEach [.Name y pb] X.env).map (·.2)) (hp2 : (assignEach [.Name y pb] X.env).map (·.2) = assign (.Name y pb) X.env :: (assignEach [] X.env).map (·.2))
    (hs : swapsWithSole [.Tuple [.Name x pa, .Name y pb] kt pt] (.Tuple [a, b] k2 pt2) pos.line X.env = pure false) (hw : swappedStores [.Tuple [.Name x pa, .Name y pb] kt pt] (.Tuple [a, b] k2 pt2) X.env = pure none)
    (h1 : (assignEach [.Tuple [.Name x pa, .Name y pb] kt pt] X.env).map (·.2) = [assign (.Tuple [.Name x pa, .Name y pb] kt pt) X.env]) : Ex X rs (.Assign [.Tuple [.Name x pa, .Name y pb] kt pt] (.Tuple [a, b] k2 pt2) pos) (.nx ((rs1.set i ra').set j rb')) := fun σ H w S D q => by
  refine PSc (ps_asg (pe_tup cA_ok) (pg_tup hc (pgs_cons (pg_name hN hi hx hfx) (pgs_cons (pg_name hN hj hy hfy) pgs_nil hp2) hp1) hn hst) hs hw h1) ?_
  refine h σ H w S _ fun vs H1 w1 S1 st t s => ?_
  match vs, t with
  | [v, u], t =>
    refine ⟨Nat.le_of_ble_eq_true rfl, fun p n => ?_⟩
    have sm : Same H1 (upd H1 p (.tup [v, u])) := same_upd n
    have st2 : StepE w1 H1 w1 (upd H1 p (.tup [v, u])) := sstep sm fun _ _ => rfl
    obtain ⟨w', S', st'⟩ := RS.put2 (i := i) (j := j) (S1.keep st2 sm (tr_upd S1.tr)) (st.trans st2) (RTs.keep st2 t (.inr sm)) ea eb hi' hj'
    exact ⟨p, [v, u], rfl, .inl (.inl upd_same), rfl, v, [u], rfl, u, [], rfl, rfl, q _ _ w' S' st'⟩
end
end Ab

namespace Ab
open PySem PySem.Spec PyProof.Rows L2

/-! ### defs and calls -/
def w0 : Own := fun _ => none
/-- the first slot owns the source -/
def wS (p q : Addr) : Own := fun b => if b = p ∨ b = q then some 1 else none
theorem mvW {H : Hp} {w w' : Own} (h : ∀ b, H b ≠ none → w b = none → w' b = none) : Mv w H w' H := ⟨fun _ _ h _ => h, h⟩
theorem mv0 {H : Hp} {w : Own} : Mv w H w0 H := mvW fun _ _ _ => rfl
/-- arguments: data (lists too), defs -/
def RAs (K : PySem.W.Frag) (H : Hp) (w : Own) : List V → List R → Prop
  | [], [] => True
  | v :: vs, .d x :: rl => DR K H w v x ∧ RAs K H w vs rl
  | v :: vs, .fn f :: rl => v = .ref f ∧ RAs K H w vs rl
  | _, _ => False
theorem RAs.length {K : PySem.W.Frag} {H : Hp} {w : Own} : ∀ {vs : List V} {rl : List R}, RAs K H w vs rl → vs.length = rl.length
  | [], [], _ => rfl
  | v :: vs, .d x :: rl, h => by simp [RAs.length h.2]
  | v :: vs, .fn x :: rl, h => by simp [RAs.length h.2]
  | [], _ :: _, h => h.elim
  | _ :: _, [], h => h.elim
  | _ :: _, .un :: _, h => h.elim
  | _ :: _, .ls _ :: _, h => h.elim
  | _ :: _, .dc _ :: _, h => h.elim
  | _ :: _, .vl _ _ :: _, h => h.elim
  | _ :: _, .vd _ _ :: _, h => h.elim
  | _ :: _, .src _ _ _ :: _, h => h.elim
/-- what a def hands to its caller -/
def RC (P : Program) (W : World) (K : PySem.W.Frag) (H0 H : Hp) (v : V) : R → Prop
  | .d x => imm x = true ∧ DR K H w0 v x
  | .ls xs => imms xs = true ∧ ∃ p vs, v = .ref p ∧ H0 p = none ∧ H p = some (.lst vs) ∧ DRs K H w0 vs xs
  | _ => False
def imR : R → Bool
  | .d x => imm x
  | .ls xs => imms xs
  | _ => false

/-- without a source: arguments and what is handed back -/
def spP (P : Program) (W : World) (K : PySem.W.Frag) (S : List R → R → Prop) : Sp := fun vs H Q _ => ∃ rl r, S rl r ∧ RAs K H w0 vs rl ∧ ∀ v H', Same H H' → RC P W K H H' v r → Q v H'
/-- with a source as the first argument -/
def spS (P : Program) (W : World) (K : PySem.W.Frag) (S : Src → List R → R → Src → Prop) : Sp := fun vs H Q _ => ∃ p q s vs' rl r s', vs = .ref p :: vs' ∧ SrcAt H p q s ∧ S s rl r s' ∧ RAs K H (wS p q) vs' rl ∧
  ∀ v H', (∀ b o, H b = some o → b ≠ p → b ≠ q → H' b = some o) → SrcAt H' p q s' → RC P W K H H' v r → Q v H'

theorem RAs.ro {P : Program} {W : World} {K : PySem.W.Frag} {H : Hp} {w : Own} : ∀ {vs : List V} {rl : List R}, RAs K H w vs rl → ∀ (i : Nat) (r : R), rl[i]? = some r → ∀ j, RO P W K H w j (vs[i]?) r
  | [], [], _, i, r, e, _ => by simp at e
  | v :: vs, .d x :: rl, h, 0, r, e, _ => by
    simp at e; subst e
    exact ⟨v, rfl, h.1⟩
  | v :: vs, .fn f :: rl, h, 0, r, e, _ => by simp at e; subst e; exact (by rw [h.1]; rfl)
  | v :: vs, .d x :: rl, h, i + 1, r, e, j => by
    have := RAs.ro (P := P) (W := W) h.2 i r (by simpa using e) j
    simpa using this
  | v :: vs, .fn x :: rl, h, i + 1, r, e, j => by
    have := RAs.ro (P := P) (W := W) h.2 i r (by simpa using e) j
    simpa using this
  | [], _ :: _, h, _, _, _, _ => h.elim
  | _ :: _, [], h, _, _, _, _ => h.elim
  | _ :: _, .un :: _, h, _, _, _, _ => h.elim
  | _ :: _, .ls _ :: _, h, _, _, _, _ => h.elim
  | _ :: _, .dc _ :: _, h, _, _, _, _ => h.elim
  | _ :: _, .vl _ _ :: _, h, _, _, _, _ => h.elim
  | _ :: _, .vd _ _ :: _, h, _, _, _, _ => h.elim
  | _ :: _, .src _ _ _ :: _, h, _, _, _, _ => h.elim
theorem start_get {N : List Str} {vs : List V} (h : vs.length ≤ N.length) {i : Nat} : ((L2.start N vs)[i]?).join = vs[i]? := by
  unfold L2.start
  by_cases hi : i < vs.length
  · rw [List.getElem?_append_left (by rw [List.length_map]; exact hi), List.getElem?_map]
    rw [List.getElem?_eq_getElem hi]; rfl
  · rw [List.getElem?_append_right (by rw [List.length_map]; omega), List.getElem?_eq_none (show vs.length ≤ i by omega)]
    rw [List.getElem?_replicate]
    split <;> rfl
def begin_ (N : List Str) (rl : List R) : List R := rl ++ List.replicate (N.length - rl.length) .un
theorem begin_get {N : List Str} {rl : List R} {i : Nat} {r : R} (e : (begin_ N rl)[i]? = some r) : rl[i]? = some r ∨ r = .un := by
  unfold begin_ at e
  by_cases hi : i < rl.length
  · rw [List.getElem?_append_left hi] at e; exact .inl e
  · rw [List.getElem?_append_right (by omega), List.getElem?_replicate] at e
    split at e
    · cases e; exact .inr rfl
    · cases e
section
variable {P : Program} {W : World} {K : PySem.W.Frag} {mg : Str → Option Value} {base : Heap}
theorem RS.begin0 {H : Hp} {N : List Str} {vs : List V} {rl : List R} (h : RAs K H w0 vs rl) (hl : rl.length ≤ N.length) : RS P W K H w0 (L2.start N vs) (begin_ N rl) := by
  have hv := h.length
  refine ⟨?_, fun b hb => absurd rfl hb, fun i r e => ?_⟩
  · unfold begin_ L2.start
    simp only [List.length_append, List.length_map, List.length_replicate]
    omega
  · rcases begin_get e with e | rfl
    · rw [start_get (by omega)]
      exact h.ro i r e _
    · trivial
theorem RS.beginS {H : Hp} {N : List Str} {vs : List V} {rl : List R} {p q : Addr} {s : Src} (hs : SrcAt H p q s) (h : RAs K H (wS p q) vs rl) (hl : rl.length + 1 ≤ N.length) : RS P W K H (wS p q) (L2.start N (.ref p :: vs)) (begin_ N (.src p q s :: rl)) := by
  have hv := h.length
  refine ⟨?_, fun b hb => ?_, fun i r e => ?_⟩
  · unfold begin_ L2.start
    simp only [List.length_append, List.length_map, List.length_replicate, List.length_cons]
    omega
  · unfold wS at hb
    split at hb
    · next e => rcases e with rfl | rfl
                · exact some_ne hs.d
                · exact some_ne hs.l
    · exact absurd rfl hb
  · rcases begin_get e with e | rfl
    · rw [start_get (by simp only [List.length_cons]; omega)]
      cases i with
      | zero =>
        cases e
        exact ⟨rfl, by unfold wS; rw [if_pos (.inl rfl)], by unfold wS; rw [if_pos (.inr rfl)], hs⟩
      | succ i => exact h.ro i r (by simpa using e) _
    · trivial
/-- a def that reads data and hands back data -/
theorem fn_pure {x qual : Str} {st : Stmt} {f : Addr} {fd : FuncData} {N ps : List Str} {k : Nat} {S : List R → R → Prop} (F : Fun K x qual st f fd) (sc : FnScope N ps (defScope st)) (hN : ps.length ≤ N.length) (hl : ∀ rl r, S rl r → rl.length = ps.length ∧ imR r = true)
    (body : ∀ (cdv : Value) (A : Around) (outer : List Env) (s : Shared) (H : Hp) (E : XK), Room k (A.deeper (envOfC qual (defScope st) s.heap.objs.size f cdv)) → ∀ rl r, S rl r →
      ∃ rs', Exs (cxOf CX0 P W K mg base N qual (defScope st) f cdv A outer s H E).nox (begin_ N rl) (defBody st) (.rt r rs')) : FnOk P W K mg base CX0 (k + 1) f fd ps (spP P W K S) := by
  refine F.ok sc (fun vs H Q E h => ?_) (fun cdv A outer s H vs Q E hr h => ?_)
  · obtain ⟨rl, r, hS, ha, _⟩ := h
    rw [ha.length]; exact (hl rl r hS).1
  · obtain ⟨rl, r, hS, ha, q⟩ := h
    obtain ⟨l1, l2⟩ := hl rl r hS
    obtain ⟨rs', hb⟩ := body cdv A outer s H E hr rl r hS
    refine ⟨_, cSs_ok, hb (L2.start N vs) H w0 (RS.begin0 ha (by omega)) _ fun v σ' H' w' S' st' rr => ?_⟩
    have sm : Same H H' := fun b o e => st'.k b o e (.inl (.of_none rfl))
    refine q v H' sm ?_
    cases r with
    | d y => exact ⟨l2, DR.mv mv0 _ _ rr⟩
    | ls xs =>
      obtain ⟨p, vs', ev, o, hp, dr⟩ := rr
      refine ⟨l2, p, vs', ev, ?_, hp, DRs.mv mv0 _ _ dr⟩
      cases e : H p with
      | none => rfl
      | some u =>
        have wn := st'.n p (some_ne e) rfl
        rcases o with o | ⟨j, _, o, _⟩ <;> rw [wn] at o <;> cases o
    | _ => cases l2
/-- a def that draws from a source -/
theorem fn_src {x qual : Str} {st : Stmt} {f : Addr} {fd : FuncData} {N ps : List Str} {k : Nat} {S : Src → List R → R → Src → Prop} (F : Fun K x qual st f fd) (sc : FnScope N ps (defScope st)) (hN : ps.length ≤ N.length) (hl : ∀ s rl r s', S s rl r s' → rl.length + 1 = ps.length ∧ imR r = true)
    (body : ∀ (cdv : Value) (A : Around) (outer : List Env) (s : Shared) (H : Hp) (E : XK), Room k (A.deeper (envOfC qual (defScope st) s.heap.objs.size f cdv)) → ∀ p q c rl r c', S c rl r c' →
      ∃ rs', Exs (cxOf CX0 P W K mg base N qual (defScope st) f cdv A outer s H E).nox (begin_ N (.src p q c :: rl)) (defBody st) (.rt r rs') ∧ rs'[0]? = some (.src p q c')) : FnOk P W K mg base CX0 (k + 1) f fd ps (spS P W K S) := by
  refine F.ok sc (fun vs H Q E h => ?_) (fun cdv A outer s H vs Q E hr h => ?_)
  · obtain ⟨p, q, c, vs', rl, r, c', rfl, hs, hS, ha, _⟩ := h
    rw [List.length_cons, ha.length]; exact (hl c rl r c' hS).1
  · obtain ⟨p, q, c, vs', rl, r, c', rfl, hs, hS, ha, qq⟩ := h
    obtain ⟨l1, l2⟩ := hl c rl r c' hS
    obtain ⟨rs', hb, h0⟩ := body cdv A outer s H E hr p q c rl r c' hS
    refine ⟨_, cSs_ok, hb (L2.start N (.ref p :: vs')) H (wS p q) (RS.beginS hs ha (by omega)) _ fun v σ' H' w' S' st' rr => ?_⟩
    have wn : ∀ b, b ≠ p → b ≠ q → wS p q b = none := fun b h1 h2 => by unfold wS; rw [if_neg (fun z => z.elim h1 h2)]
    obtain ⟨_, o1, o2, hs'⟩ := S'.at_ 0 _ h0
    refine qq v H' (fun b o e h1 h2 => st'.k b o e (.inl (.of_none (wn b h1 h2)))) hs' ?_
    cases r with
    | d y => exact ⟨l2, DR.mv mv0 _ _ rr⟩
    | ls xs =>
      obtain ⟨a, us, ev, o, hp, dr⟩ := rr
      refine ⟨l2, a, us, ev, ?_, hp, DRs.mv mv0 _ _ dr⟩
      have n1 : a ≠ p := fun z => by subst z; rw [hs'.d] at hp; cases hp
      have n2 : a ≠ q := fun z => by
        subst z
        rw [o2] at o
        rcases o with o | ⟨j, ys, o, hj⟩
        · cases o
        · have : j = 0 := by have := Option.some.inj o; omega
          subst this
          rw [h0] at hj; cases hj
      cases e : H a with
      | none => rfl
      | some u =>
        have wn := st'.n a (some_ne e) (wn a n1 n2)
        rcases o with o | ⟨j, _, o, _⟩ <;> rw [wn] at o <;> cases o
    | _ => cases l2
end

section
variable {X : Cx} {rs rs1 rs2 rs' : List R} {pu pu1 pu2 : Bool}
/-- values as arguments -/
def argOf : List R → Option (List R)
  | [] => some []
  | .d x :: rl => (argOf rl).map (.d x :: ·)
  | .ls xs :: rl => (argOf rl).map (.d (.list xs) :: ·)
  | .vl _ xs :: rl => (argOf rl).map (.d (.list xs) :: ·)
  | .fn f :: rl => (argOf rl).map (.fn f :: ·)
  | _ :: _ => none
theorem RTs.args {P : Program} {W : World} {K : PySem.W.Frag} {H0 H : Hp} {w w' : Own} (m : Mv w H w' H) : ∀ {vs : List V} {rl al : List R}, RTs P W K H0 H w vs rl → argOf rl = some al → (∀ p, (w p = some 0 ∨ ∃ i xs, w p = some (i + 1) ∧ R.vl i xs ∈ rl) → w' p = none) → RAs K H w' vs al
  | [], [], al, _, e, _ => by cases e; trivial
  | v :: vs, .d x :: rl, al, h, e, f => by
    obtain ⟨h1, H2, _, _, h4⟩ := h
    obtain ⟨ys, e1, rfl⟩ := Option.map_eq_some_iff.mp e
    exact ⟨DR.mv m _ _ h1, RTs.args m h4 e1 fun p q => f p (q.imp id fun ⟨i, xs, a, b⟩ => ⟨i, xs, a, List.mem_cons_of_mem _ b⟩)⟩
  | v :: vs, .fn x :: rl, al, h, e, f => by
    obtain ⟨h1, H2, _, _, h4⟩ := h
    obtain ⟨ys, e1, rfl⟩ := Option.map_eq_some_iff.mp e
    exact ⟨h1, RTs.args m h4 e1 fun p q => f p (q.imp id fun ⟨i, xs, a, b⟩ => ⟨i, xs, a, List.mem_cons_of_mem _ b⟩)⟩
  | v :: vs, .ls xs :: rl, al, h, e, f => by
    obtain ⟨⟨p, us, rfl, _, o, hp, dr⟩, H2, _, _, h4⟩ := h
    obtain ⟨ys, e1, rfl⟩ := Option.map_eq_some_iff.mp e
    exact ⟨.lst (.inl ⟨.inl hp, f p (.inl o)⟩) (DRs.mv m _ _ dr), RTs.args m h4 e1 fun p q => f p (q.imp id fun ⟨i, xs, a, b⟩ => ⟨i, xs, a, List.mem_cons_of_mem _ b⟩)⟩
  | v :: vs, .vl i xs :: rl, al, h, e, f => by
    obtain ⟨⟨p, us, rfl, o, hp, dr⟩, H2, _, _, h4⟩ := h
    obtain ⟨ys, e1, rfl⟩ := Option.map_eq_some_iff.mp e
    exact ⟨.lst (.inl ⟨.inl hp, f p (.inr ⟨i, xs, o, List.mem_cons_self⟩)⟩) (DRs.mv m _ _ dr), RTs.args m h4 e1 fun p q => f p (q.imp id fun ⟨i, xs, a, b⟩ => ⟨i, xs, a, List.mem_cons_of_mem _ b⟩)⟩
  | [], _ :: _, _, h, _, _ => h.elim
  | _ :: _, [], _, h, _, _ => h.elim
  | _ :: _, .un :: _, _, _, e, _ => by cases e
  | _ :: _, .dc _ :: _, _, _, e, _ => by cases e
  | _ :: _, .vd _ _ :: _, _, _, e, _ => by cases e
  | _ :: _, .src _ _ _ :: _, _, _, e, _ => by cases e
/-- the call's value in the caller -/
theorem RC.rt {P : Program} {W : World} {K : PySem.W.Frag} {H0 H1 H2 : Hp} {w : Own} {v : V} {r : R} (h : RC P W K H1 H2 v r) (g : ∀ b, H0 b ≠ none → H1 b ≠ none) (tr : ∀ b, w b ≠ none → H1 b ≠ none) (g2 : ∀ b, H1 b ≠ none → H2 b ≠ none) :
    ∃ w', RT P W K H0 H2 w' v r ∧ (∀ b, H1 b ≠ none → w' b = w b) ∧ (∀ b, w' b ≠ none → H2 b ≠ none) := by
  cases r with
  | d x => exact ⟨w, DR.im ⟨fun _ _ h _ => h⟩ _ _ h.1 h.2, fun _ _ => rfl, fun b hb => g2 b (tr b hb)⟩
  | ls xs =>
    obtain ⟨i, p, vs, ev, n, hp, dr⟩ := h
    refine ⟨ownT w p, ⟨p, vs, ev, ?_, ownT_at, hp, DRs.im ⟨fun _ _ h _ => h⟩ _ _ i dr⟩, ownT_old n, fun b hb => ?_⟩
    · cases e : H0 p with
      | none => rfl
      | some o => exact absurd n (g p (some_ne e))
    · by_cases e : b = p
      · subst e; exact some_ne hp
      · rw [ownT_ne e] at hb; exact g2 b (tr b hb)
  | _ => exact h.elim
theorem Ev.call {k : Nat} {f : Addr} {fd : FuncData} {ps : List Str} {S : List R → R → Prop} {x : Str} {p pos : Pos} {e : Expr} {es : List Expr} {rl al : List R} {r : R} (h : EvL X pu rs (e :: es) rl rs') (ha : argOf rl = some al) (hS : S al r)
    (G : FnOk X.prog X.w X.K X.mg X.base CX0 k f fd ps (spP X.prog X.w X.K S)) (hr : Room k X.A) (hg : Gl X x) (hm : X.mg x = some (.ref f)) (hk : PySem.W.keepIn X.K (.ref f) = true) (hb : Binds X.K fd ps [])
    (hdb : (x == ("__debug__" : Str)) = false := by decide) (he : starEach (e :: es) X.env = (false, eval e X.env) :: starEach es X.env := by rfl) (hpl : (backTo pos (starEach es X.env)).any (·.1) = false := by rfl) : Ev X pu rs (.Call (.Name x p) (e :: es) [] pos) r rs' := fun σ H w S0 Q q => by
  refine PEc (pe_call G hr hg hm hk hb .nil pass0 cA_ok hdb he hpl) ?_
  refine h σ H w S0 _ fun vs H1 w1 S1 st1 t1 s1 => ?_
  rw [List.append_nil]
  refine ⟨al, r, hS, t1.args mv0 ha fun _ _ => rfl, fun v H2 sm rc => ?_⟩
  obtain ⟨w2, t2, o2, tr2⟩ := rc.rt st1.g S1.tr fun b hb => (sstep (w1 := w1) (w := w1) sm fun _ _ => rfl).g b hb
  exact q v H2 w2 (S1.more sm o2 tr2) (st1.trans (sstep sm o2)) t2 fun e => (s1 e).trans sm
/-- a call of a def that draws -/
theorem Ev.callS (i : Nat) {k : Nat} {f : Addr} {fd : FuncData} {ps : List Str} {S : Src → List R → R → Src → Prop} {x y : Str} {p py pos : Pos} {es : List Expr} {rl al : List R} {r : R} {a b : Addr} {c0 c c' : Src}
    (hi : rs[i]? = some (.src a b c0)) (hNy : X.N[i]? = some y) (hvy : Vis X.env.scope y) (hdy : (y == ("__debug__" : Str)) = false) (hcy : (y == ("__classdict__" : Str)) = false)
    (h : EvL X pu rs es rl rs1) (hi1 : rs1[i]? = some (.src a b c)) (ha : argOf rl = some al) (hv : rl.all (fun r => match r with | .vl j _ => decide (j ≠ i) | _ => true) = true) (hS : S c al r c')
    (G : FnOk X.prog X.w X.K X.mg X.base CX0 k f fd ps (spS X.prog X.w X.K S)) (hr : Room k X.A) (hg : Gl X x) (hm : X.mg x = some (.ref f)) (hk : PySem.W.keepIn X.K (.ref f) = true) (hb : Binds X.K fd ps [])
    (hdb : (x == ("__debug__" : Str)) = false := by decide) (he : starEach (.Name y py :: es) X.env = (false, eval (.Name y py) X.env) :: starEach es X.env := by rfl) (hpl : (backTo pos (starEach es X.env)).any (·.1) = false := by rfl) : Ev X false rs (.Call (.Name x p) (.Name y py :: es) [] pos) r (rs1.set i (.src a b c')) := fun σ H w S0 Q q => by
  refine PEc (pe_call G hr hg hm hk hb .nil pass0 (pa_cons (pe_var hNy hvy hdy hcy) cA_ok he) hdb he hpl) ?_
  obtain ⟨v0, ev0, t0⟩ := S0.see (i := i) (r' := .src a b c0) hi rfl
  refine ⟨v0, ev0, ?_⟩
  obtain ⟨rfl, _⟩ := t0
  refine h σ H w S0 _ fun vs H1 w1 S1 st1 t1 s1 => ?_
  show spS X.prog X.w X.K S ((V.ref a :: vs) ++ []) H1 Q E0
  rw [List.append_nil]
  have ro := S1.at_ i _ hi1
  obtain ⟨eσ, o1, o2, sa⟩ := ro
  have nab : a ≠ b := fun z => by have h1 := sa.d; rw [z, sa.l] at h1; cases h1
  have mS : Mv w1 H1 (wS a b) H1 := mvW fun c _ e => by
    unfold wS
    rw [if_neg]
    rintro (rfl | rfl)
    · rw [o1] at e; cases e
    · rw [o2] at e; cases e
  refine ⟨a, b, c, vs, al, r, c', rfl, sa, hS, t1.args mS ha fun p hp => ?_, fun v H2 sm sa2 rc => ?_⟩
  · unfold wS
    rw [if_neg]
    rintro (rfl | rfl)
    · rw [o1] at hp
      rcases hp with z | ⟨j, xs, z, hm⟩
      · cases z
      · have hj : j = i := by have := Option.some.inj z; omega
        have := List.all_eq_true.mp hv _ hm
        simp [hj] at this
    · rw [o2] at hp
      rcases hp with z | ⟨j, xs, z, hm⟩
      · cases z
      · have hj : j = i := by have := Option.some.inj z; omega
        have := List.all_eq_true.mp hv _ hm
        simp [hj] at this
  · have hne : ∀ d, w1 d ≠ some (i + 1) → d ≠ a ∧ d ≠ b := fun d hd => ⟨fun z => hd (by rw [z]; exact o1), fun z => hd (by rw [z]; exact o2)⟩
    have g2 : ∀ d, H1 d ≠ none → H2 d ≠ none := fun d hd => by
      by_cases e1 : d = a
      · subst e1; exact some_ne sa2.d
      · by_cases e2 : d = b
        · subst e2; exact some_ne sa2.l
        · obtain ⟨o, ho⟩ := ne_some hd
          exact some_ne (sm d o ho e1 e2)
    obtain ⟨w2, t2, ow, tr2⟩ := rc.rt st1.g S1.tr g2
    have stE : StepE w1 H1 w2 H2 := by
      refine ⟨fun d o hd f => ?_, ow, g2⟩
      by_cases e1 : d = a
      · subst e1
        rcases f with f | f
        · exact absurd o1 (f i)
        · rw [sa.d] at hd; cases hd; exact absurd True.intro f
      · by_cases e2 : d = b
        · subst e2
          rcases f with f | f
          · exact absurd o2 (f i)
          · rw [sa.l] at hd; cases hd; exact absurd True.intro f
        · exact sm d o hd e1 e2
    have hil : i < rs1.length := lt_of_get hi1
    refine q v H2 w2 ⟨by rw [List.length_set]; exact S1.len, tr2, fun j r' e => ?_⟩ (st1.trans stE) t2 fun e => nomatch e
    by_cases hj : j = i
    · subst hj
      rw [List.getElem?_set_self hil] at e
      cases e
      exact ⟨eσ, by rw [ow a (some_ne sa.d)]; exact o1, by rw [ow b (some_ne sa.l)]; exact o2, sa2⟩
    · rw [List.getElem?_set_ne (Ne.symm hj)] at e
      refine (S1.at_ j r' e).keep stE.mv fun d o hd ho => ?_
      have h2 := hne d (by rw [hd]; intro z; exact hj (by have := Option.some.inj z; omega))
      exact ⟨sm d o ho h2.1 h2.2, by rw [ow d (some_ne ho)]; exact hd⟩
/-- a call of a def that a name holds -/
theorem Ev.callL (i : Nat) {k : Nat} {f : Addr} {fd : FuncData} {ps : List Str} {S : List R → R → Prop} {x : Str} {p pos : Pos} {e : Expr} {es : List Expr} {rl al : List R} {r : R} (hi : rs[i]? = some (.fn f)) (h : EvL X pu rs (e :: es) rl rs') (ha : argOf rl = some al) (hS : S al r)
    (G : FnOk X.prog X.w X.K X.mg X.base CX0 k f fd ps (spP X.prog X.w X.K S)) (hr : Room k X.A) (hN : X.N[i]? = some x) (hv : Vis X.env.scope x) (hk : PySem.W.keepIn X.K (.ref f) = true) (hb : Binds X.K fd ps [])
    (hdb : (x == ("__debug__" : Str)) = false := by decide) (hcd : (x == ("__classdict__" : Str)) = false := by decide) (he : starEach (e :: es) X.env = (false, eval e X.env) :: starEach es X.env := by rfl) (hpl : (backTo pos (starEach es X.env)).any (·.1) = false := by rfl) : Ev X pu rs (.Call (.Name x p) (e :: es) [] pos) r rs' := fun σ H w S0 Q q => by
  refine PEc (pe_callL (i := i) G hr hN hv hk hb .nil pass0 cA_ok hdb hcd he hpl) ?_
  obtain ⟨v0, ev0, t0⟩ := S0.see (i := i) (r' := .fn f) hi rfl
  obtain rfl : v0 = .ref f := t0
  refine ⟨ev0, ?_⟩
  refine h σ H w S0 _ fun vs H1 w1 S1 st1 t1 s1 => ?_
  rw [List.append_nil]
  refine ⟨al, r, hS, t1.args mv0 ha fun _ _ => rfl, fun v H2 sm rc => ?_⟩
  obtain ⟨w2, t2, o2, tr2⟩ := rc.rt st1.g S1.tr fun b hb => (sstep (w1 := w1) (w := w1) sm fun _ _ => rfl).g b hb
  exact q v H2 w2 (S1.more sm o2 tr2) (st1.trans (sstep sm o2)) t2 fun e => (s1 e).trans sm
end
end Ab

namespace Ab
open PySem PySem.Spec PyProof.Rows L2

theorem DRs.cut {K : PySem.W.Frag} {H : Hp} {w : Own} {ds : List PyData} {vs : List V} (h : DRs K H w vs ds) (a b : Nat) : DRs K H w ((vs.drop a).take b) ((ds.drop a).take b) := (h.drop a).take b
def cutD (xs : List PyData) (lo hi : Option Int) : List PyData := (xs.drop (HT.sIx xs.length 0 lo)).take (HT.sIx xs.length xs.length hi - HT.sIx xs.length 0 lo)
theorem DRs.cutV {K : PySem.W.Frag} {H : Hp} {w : Own} {ds : List PyData} {vs : List V} (h : DRs K H w vs ds) (lo hi : Option Int) : DRs K H w (L2.cutV vs lo hi) (cutD ds lo hi) := by
  unfold L2.cutV cutD
  rw [h.length]
  exact h.cut _ _
theorem atD {K : PySem.W.Frag} {H : Hp} {w : Own} {ds : List PyData} {vs : List V} {i : Int} {y : PyData} (h : DRs K H w vs ds) (e : atI ds i = some y) : ∃ v, atI vs i = some v ∧ DR K H w v y := by
  unfold atI at e ⊢
  rw [h.length]
  cases q : ixN ds.length i with
  | none => rw [q] at e; cases e
  | some j =>
    rw [q] at e
    obtain ⟨v, h1, h2⟩ := h.get (i := j) (d := y) (by simpa using e)
    exact ⟨v, by simpa using h1, h2⟩
/-- a changed list or dict that slot i owns -/
theorem RS.change {P : Program} {W : World} {K : PySem.W.Frag} {H : Hp} {w : Own} {σ : Sl} {rs : List R} {i : Nat} {p : Addr} {o o' : HO} {r' : R} (S : RS P W K H w σ rs) (hw : w p = some (i + 1)) (hp : H p = some o) (mu : Mut (some o)) (hr : Mv w H w (upd H p o') → RO P W K (upd H p o') w (i + 1) (σ[i]?).join r') :
    RS P W K (upd H p o') w σ (rs.set i r') ∧ StepE w H w (upd H p o') := by
  have k : ∀ b u, H b = some u → (Fre w b ∨ ¬ Mut (some u)) → upd H p o' b = some u := fun b u hb f => by
    have ne : b ≠ p := fun z => by
      subst z
      rcases f with f | f
      · exact f i hw
      · rw [hp] at hb; cases hb; exact f mu
    rw [upd_ne ne]; exact hb
  have g : ∀ b, H b ≠ none → upd H p o' b ≠ none := fun b hb => by
    by_cases e : b = p
    · subst e; rw [upd_same]; exact fun z => nomatch z
    · rw [upd_ne e]; exact hb
  have st : StepE w H w (upd H p o') := ⟨k, fun _ _ => rfl, g⟩
  refine ⟨⟨by rw [List.length_set]; exact S.len, tr_upd S.tr, fun j r e => ?_⟩, st⟩
  by_cases hj : j = i
  · subst hj
    have hl : j < rs.length := by
      cases q : (rs.set j r')[j]? with
      | none => rw [q] at e; cases e
      | some z => have := lt_of_get q; rwa [List.length_set] at this
    rw [List.getElem?_set_self hl] at e
    cases e
    exact hr st.mv
  · rw [List.getElem?_set_ne (Ne.symm hj)] at e
    refine (S.at_ j r e).keep st.mv fun b u hb hu => ⟨?_, hb⟩
    rw [upd_ne fun z => by subst z; rw [hw] at hb; exact hj (by have := Option.some.inj hb; omega)]
    exact hu
theorem joinOf {σ : Sl} {i : Nat} {v : V} (e : (σ[i]?).join = some v) : σ[i]? = some (some v) := by
  cases q : σ[i]? with
  | none => rw [q] at e; cases e
  | some o => rw [q] at e; simp only [Option.join_some] at e; rw [e]

section
variable {X : Cx} {rs rs1 rs2 rs' : List R} {pu pu1 pu2 : Bool}
/-! ### subscripts -/
theorem Ev.ixT {a b : Expr} {xs : List PyData} {i : Int} {y : PyData} {pos} (ha : Ev X pu1 rs a (.d (.tuple xs)) rs1) (hb : Ev X pu2 rs1 b (.d (.int i)) rs2) (h : atI xs i = some y) (hs : PlainIx b) : Ev X (pu1 && pu2) rs (.Subscript a b pos) (.d y) rs2 := fun σ H w S Q q => by
  refine PEc (pe_ix ix_tup cT_ok cT_ok hs) ?_
  refine ha σ H w S _ fun x H1 w1 S1 st1 t1 s1 => ?_
  refine hb σ H1 w1 S1 _ fun z H2 w2 S2 st2 t2 s2 => ?_
  cases (show DR X.K H2 w2 z (.int i) from t2)
  obtain ⟨p, vs, rfl, ht, hd⟩ := drT (DR.mv st2.mv _ _ t1)
  obtain ⟨v, hv, dv⟩ := atD hd h
  exact ⟨p, vs, i, v, rfl, rfl, ht, hv, q v H2 w2 S2 (st1.trans st2) dv fun e => by
    rw [Bool.and_eq_true] at e
    exact (s1 e.1).trans (s2 e.2)⟩
theorem Ev.ixL {a b : Expr} {ra : R} {xs : List PyData} {i : Int} {y : PyData} {pos} (ha : Ev X pu1 rs a ra rs1) (he : seqOf ra = some xs) (hb : Ev X pu2 rs1 b (.d (.int i)) rs2) (st : (stab ra || pu2) = true) (h : atI xs i = some y) (hs : PlainIx b) : Ev X (pu1 && pu2) rs (.Subscript a b pos) (.d y) rs2 := fun σ H w S Q q => by
  refine PEc (pe_ix ix_list cT_ok cT_ok hs) ?_
  refine ha σ H w S _ fun x H1 w1 S1 st1 t1 s1 => ?_
  refine hb σ H1 w1 S1 _ fun z H2 w2 S2 st2 t2 s2 => ?_
  cases (show DR X.K H2 w2 z (.int i) from t2)
  have stb : stab ra = true ∨ Same H1 H2 := by rw [Bool.or_eq_true] at st; exact st.imp id s2
  obtain ⟨p, vs, rfl, ht, hd⟩ := (t1.keep st2 stb).seq he
  obtain ⟨v, hv, dv⟩ := atD hd h
  exact ⟨p, vs, i, v, rfl, rfl, ht, hv, q v H2 w2 S2 (st1.trans st2) dv fun e => by
    rw [Bool.and_eq_true] at e
    exact (s1 e.1).trans (s2 e.2)⟩
/-- a part of a slice -/
def cP (X : Cx) (e : Option Expr) : TO := fun σ H Q => ∀ pins s, Inv X pins σ H s → wpAny (model X.prog X.w) X.A (evalPart e X.env) (fun u s' => ∃ o H', Inv X pins σ H' s' ∧ IsPart u o ∧ Q o H') X.xe s
theorem cP_ok {e : Option Expr} : PO X e (cP X e) := ⟨fun pins s σ H Q I h => h pins s I⟩
def Eo (X : Cx) (pu : Bool) (rs : List R) (e : Option Expr) (o : Option Int) (rs' : List R) : Prop :=
  ∀ σ H w, RSx X H w σ rs → ∀ Q : Option Int → Hp → Prop, (∀ H' w', RSx X H' w' σ rs' → StepE w H w' H' → (pu = true → Same H H') → Q o H') → cP X e σ H Q
theorem Eo.none : Eo X true rs Option.none Option.none rs := fun σ H w S Q q => fun pins s I => po_none.run pins s σ H Q I (q H w S .refl fun _ => Same.refl H)
theorem Eo.some {e : Expr} {i : Int} (h : Ev X pu rs e (.d (.int i)) rs') : Eo X pu rs (Option.some e) (Option.some i) rs' := fun σ H w S Q q => fun pins s I =>
  (po_some cT_ok).run pins s σ H Q I (h σ H w S _ fun v H1 w1 S1 st t s => by
    cases (show DR X.K H1 w1 v (.int i) from t)
    exact ⟨i, rfl, q H1 w1 S1 st s⟩)
theorem Ev.slL {a : Expr} {lo hi : Option Expr} {ra : R} {xs : List PyData} {i j : Option Int} {rs3 : List R} {pu3 : Bool} {p2 pos} (ha : Ev X pu1 rs a ra rs1) (he : seqOf ra = some xs) (hl : Eo X pu2 rs1 lo i rs2) (hh : Eo X pu3 rs2 hi j rs3) (st : (stab ra || (pu2 && pu3)) = true) : Ev X (pu1 && (pu2 && pu3)) rs (.Subscript a (.Slice lo hi none p2) pos) (.ls (cutD xs i j)) rs3 := fun σ H w S Q q => by
  refine PEc (pe_slice sl_list cT_ok cP_ok cP_ok) ?_
  refine ha σ H w S _ fun x H1 w1 S1 st1 t1 s1 => ?_
  refine hl σ H1 w1 S1 _ fun H2 w2 S2 st2 s2 => ?_
  refine hh σ H2 w2 S2 _ fun H3 w3 S3 st3 s3 => ?_
  have stb : stab ra = true ∨ Same H1 H3 := by
    rw [Bool.or_eq_true, Bool.and_eq_true] at st
    exact st.imp id fun z => (s2 z.1).trans (s3 z.2)
  obtain ⟨p, vs, rfl, ht, hd⟩ := (t1.keep (st2.trans st3) stb).seq he
  refine ⟨p, vs, rfl, ht, fun l n => ?_⟩
  have sm : Same H3 (upd H3 l (.lst (L2.cutV vs i j))) := same_upd n
  have st4 : StepE w3 H3 (ownT w3 l) (upd H3 l (.lst (L2.cutV vs i j))) := sstep sm (ownT_old n)
  have sta := (st1.trans st2).trans st3
  refine q _ _ (ownT w3 l) (S3.keep st4 sm (ownT_tr S3.tr)) (sta.trans st4) ⟨l, _, rfl, ?_, ownT_at, upd_same, DRs.mv st4.mv _ _ (hd.cutV i j)⟩ fun e => ?_
  · cases g : H l with
    | none => rfl
    | some o => exact absurd n (sta.g l (some_ne g))
  · rw [Bool.and_eq_true, Bool.and_eq_true] at e
    exact (((s1 e.1).trans (s2 e.2.1)).trans (s3 e.2.2)).trans sm
theorem Ev.slT {a : Expr} {lo hi : Option Expr} {xs : List PyData} {i j : Option Int} {rs3 : List R} {pu3 : Bool} {p2 pos} (ha : Ev X pu1 rs a (.d (.tuple xs)) rs1) (hl : Eo X pu2 rs1 lo i rs2) (hh : Eo X pu3 rs2 hi j rs3) : Ev X (pu1 && (pu2 && pu3)) rs (.Subscript a (.Slice lo hi none p2) pos) (.d (.tuple (cutD xs i j))) rs3 := fun σ H w S Q q => by
  refine PEc (pe_slice sl_tupA cT_ok cP_ok cP_ok) ?_
  refine ha σ H w S _ fun x H1 w1 S1 st1 t1 s1 => ?_
  refine hl σ H1 w1 S1 _ fun H2 w2 S2 st2 s2 => ?_
  refine hh σ H2 w2 S2 _ fun H3 w3 S3 st3 s3 => ?_
  obtain ⟨p, vs, rfl, ht, hd⟩ := drT (DR.mv (st2.trans st3).mv _ _ t1)
  have sta := (st1.trans st2).trans st3
  have pur : (pu1 && (pu2 && pu3)) = true → Same H H3 := fun e => by
    rw [Bool.and_eq_true, Bool.and_eq_true] at e
    exact ((s1 e.1).trans (s2 e.2.1)).trans (s3 e.2.2)
  refine ⟨p, vs, rfl, ht, fun e => ?_, fun _ l n => ?_⟩
  · refine q _ H3 w3 S3 sta ?_ pur
    have h := hd.cutV i j
    have e2 : L2.cutV vs i j = vs := by unfold L2.cutV; rw [e.1, e.2]; simp
    rw [e2] at h
    exact .tup ht h
  · have sm : Same H3 (upd H3 l (.tup (L2.cutV vs i j))) := same_upd n
    have st4 : StepE w3 H3 w3 (upd H3 l (.tup (L2.cutV vs i j))) := sstep sm fun _ _ => rfl
    exact q _ _ w3 (S3.keep st4 sm (tr_upd S3.tr)) (sta.trans st4) (.tup (.inl (.inl upd_same)) (DRs.mv st4.mv _ _ (hd.cutV i j))) fun e => (pur e).trans sm

/-! ### a list's methods -/
theorem Ev.append (i : Nat) {x : Str} {e : Expr} {xs : List PyData} {y : PyData} {px apos cpos : Pos} {xs0 : List PyData} (hi0 : rs[i]? = some (.ls xs0)) (he : Ev X pu rs e (.d y) rs1) (hi : rs1[i]? = some (.ls xs)) (hz : xs.length < sizeLine)
    (hN : X.N[i]? = some x) (hv : Vis X.env.scope x) (hd : (x == ("__debug__" : Str)) = false) (hcd : (x == ("__classdict__" : Str)) = false)
    (hst : starEach (e :: []) X.env = (false, eval e X.env) :: starEach [] X.env)
    (hbase : attributeBase (.Name x px) "append" X.env (eval (.Name x px) X.env) = eval (.Name x px) X.env)
    (hfew : ((backTo cpos (starEach (e :: []) X.env)).all (fun x => !x.1) && (backToKw cpos (keywordEach [] X.env)).all (fun x => x.1.isSome)
      && decide ((e :: []).length + ([] : List Keyword).length + (if ([] : List Keyword).isEmpty then 0 else 1) < 30)) = true)
    (hline : (apos.endLine == cpos.line) = true) (hplain : (backTo cpos (starEach [] X.env)).any (·.1) = false) : Ev X false rs (.Call (.Attribute (.Name x px) "append" apos) [e] [] cpos) (.d .none) (rs1.set i (.ls (xs ++ [y]))) := fun σ H w S Q q => by
  refine PEc (pe_bm PySem.F.plainAttrs_list PySem.F.slot_list_append PySem.F.type_list_append mt_append (pe_var (pos := px) hN hv hd hcd) (pa_cons cT_ok pa_nil hst) hbase hfew hline hst hplain) ?_
  obtain ⟨p0, vs0, e0, o0, hp0, _⟩ := S.at_ i _ hi0
  refine ⟨.ref p0, joinOf e0, .inl ⟨rfl, vs0, .inl (.inl hp0)⟩, ?_⟩
  refine he σ H w S _ fun v H1 w1 S1 st1 t1 s1 => ?_
  obtain ⟨p, vs, e1, o1, hp, dr⟩ := S1.at_ i _ hi
  rw [e0] at e1
  cases e1
  refine ⟨p0, vs, v, rfl, rfl, hp, by rw [dr.length]; exact hz, ?_⟩
  have hil : i < rs1.length := lt_of_get hi
  obtain ⟨S2, st2⟩ := S1.change (o' := .lst (vs ++ [v])) (r' := .ls (xs ++ [y])) o1 hp True.intro fun m => ⟨p0, vs ++ [v], e0, o1, upd_same, (DRs.mv m _ _ dr).snoc (DR.mv m _ _ t1)⟩
  exact q _ _ w1 S2 (st1.trans st2) .non fun e => nomatch e
theorem Ev.pop (i : Nat) {x : Str} {xs : List PyData} {y : PyData} {px apos cpos : Pos} (hi : rs[i]? = some (.ls xs)) (hy : xs[xs.length - 1]? = some y)
    (hN : X.N[i]? = some x) (hv : Vis X.env.scope x) (hd : (x == ("__debug__" : Str)) = false) (hcd : (x == ("__classdict__" : Str)) = false)
    (hbase : attributeBase (.Name x px) "pop" X.env (eval (.Name x px) X.env) = eval (.Name x px) X.env) (hline : (apos.endLine == cpos.line) = true) : Ev X false rs (.Call (.Attribute (.Name x px) "pop" apos) [] [] cpos) (.d y) (rs.set i (.ls xs.dropLast)) := fun σ H w S Q q => by
  refine PEc (pe_bm0 PySem.F.plainAttrs_list PySem.F.slot_list_pop PySem.F.type_list_pop mt_pop (pe_var (pos := px) hN hv hd hcd) hbase hline) ?_
  obtain ⟨p, vs, e0, o0, hp, dr⟩ := S.at_ i _ hi
  refine ⟨.ref p, joinOf e0, .inl ⟨rfl, vs, .inl (.inl hp)⟩, ?_⟩
  obtain ⟨v, hv', dv⟩ := dr.get hy
  refine ⟨p, vs, v, rfl, rfl, hp, by rw [dr.length]; exact hv', ?_⟩
  obtain ⟨S2, st2⟩ := S.change (o' := .lst vs.dropLast) (r' := .ls xs.dropLast) o0 hp True.intro fun m => ⟨p, vs.dropLast, e0, o0, upd_same, (DRs.mv m _ _ dr).dropLast⟩
  exact q _ _ w S2 st2 (DR.mv st2.mv _ _ dv) fun e => nomatch e

/-! ### built-in functions -/
def cC (X : Cx) (f : Value) : List V → Hp → VK → Prop := fun xs H Q => ∀ pins s σ us, Inv X pins σ H s → Vals xs us → wpAny (model X.prog X.w) X.A (call f us) (EP X pins σ Q) X.xe s
theorem cC_ok {f : Value} : CallR X f (cC X f) := fun pins s σ H xs us Q I r h => h pins s σ us I r
theorem CallRc {f : Value} {r : List V → Hp → VK → Prop} (h : CallR X f r) {xs : List V} {H : Hp} {Q : VK} (q : r xs H Q) : cC X f xs H Q := fun pins s σ us I rx => h pins s σ H xs us Q I rx q
def CaOk (X : Cx) (f : Value) (rl : List R) (r : R) : Prop :=
  ∀ H0 H w vs, (∀ b, w b ≠ none → H b ≠ none) → RTs X.prog X.w X.K H0 H w vs rl → ∀ Q : VK, (∀ v H' w', Same H H' → (∀ b, H b ≠ none → w' b = w b) → (∀ b, w' b ≠ none → H' b ≠ none) → RTx X H H' w' v r → Q v H') → cC X f vs H Q
theorem Ev.blt {id : String} {x : Str} {e : Expr} {es : List Expr} {rl : List R} {r : R} {p pos : Pos} (h : EvL X pu rs (e :: es) rl rs') (hc : CaOk X (.builtin id) rl r) (hg : Gl X x) (hm : X.mg x = none) (hv : bootBuiltins x = some (.builtin id)) (hn : x ≠ "__name__" := by decide) (hdb : (x == ("__debug__" : Str)) = false := by decide)
    (he : starEach (e :: es) X.env = (false, eval e X.env) :: starEach es X.env := by rfl) (hpl : (backTo pos (starEach es X.env)).any (·.1) = false := by rfl) : Ev X pu rs (.Call (.Name x p) (e :: es) [] pos) r rs' := fun σ H w S Q q => by
  refine PEc (pe_callB cC_ok hg hm hv cA_ok hn hdb he hpl) ?_
  refine h σ H w S _ fun vs H1 w1 S1 st1 t1 s1 => ?_
  refine hc H H1 w1 vs S1.tr t1 _ fun v H2 w2 sm o2 tr2 t2 => ?_
  exact q v H2 w2 (S1.more sm o2 tr2) (st1.trans (sstep sm o2)) (t2.from st1.g) fun e => (s1 e).trans sm
theorem Ev.typ {T : String} {x : Str} {e : Expr} {es : List Expr} {rl : List R} {r : R} {p pos : Pos} (h : EvL X pu rs (e :: es) rl rs') (hc : CaOk X (.type T) rl r) (hg : Gl X x) (hm : X.mg x = none) (hv : bootBuiltins x = some (.type T)) (hn : x ≠ "__name__" := by decide) (hdb : (x == ("__debug__" : Str)) = false := by decide)
    (he : starEach (e :: es) X.env = (false, eval e X.env) :: starEach es X.env := by rfl) (hpl : (backTo pos (starEach es X.env)).any (·.1) = false := by rfl) : Ev X pu rs (.Call (.Name x p) (e :: es) [] pos) r rs' := fun σ H w S Q q => by
  refine PEc (pe_callTy cC_ok hg hm hv cA_ok hn hdb he hpl) ?_
  refine h σ H w S _ fun vs H1 w1 S1 st1 t1 s1 => ?_
  refine hc H H1 w1 vs S1.tr t1 _ fun v H2 w2 sm o2 tr2 t2 => ?_
  exact q v H2 w2 (S1.more sm o2 tr2) (st1.trans (sstep sm o2)) (t2.from st1.g) fun e => (s1 e).trans sm
theorem rts1 {P : Program} {W : World} {K : PySem.W.Frag} {H0 H : Hp} {w : Own} {vs : List V} {r : R} (h : RTs P W K H0 H w vs [r]) : ∃ v, vs = [v] ∧ RT P W K H0 H w v r := by
  match vs, h with
  | [v], h => exact ⟨v, rfl, h.1⟩
theorem rts2 {P : Program} {W : World} {K : PySem.W.Frag} {H0 H : Hp} {w : Own} {vs : List V} {x y : PyData} (h : RTs P W K H0 H w vs [.d x, .d y]) : ∃ u v, vs = [u, v] ∧ DR K H w u x ∧ DR K H w v y := by
  match vs, h with
  | [u, v], h =>
    obtain ⟨h1, H1, _, _, h2, _⟩ := h
    exact ⟨u, v, rfl, h1, h2⟩
theorem CaOk.of1 {f : Value} {r2 : List V → Hp → VK → Prop} {ra r : R} (h : CallR X f r2) (k : ∀ H0 H w v, RTx X H0 H w v ra → ∀ Q : VK, (∀ v, RTx X H H w v r → Q v H) → r2 [v] H Q) : CaOk X f [ra] r := fun H0 H w vs tr t Q q => by
  obtain ⟨v, rfl, t1⟩ := rts1 t
  exact CallRc h (k H0 H w v t1 Q fun v' t' => q v' H w (Same.refl H) (fun _ _ => rfl) tr t')
theorem ca_lenL {ra : R} {xs : List PyData} (e : seqOf ra = some xs) : CaOk X (.builtin "len") [ra] (.d (.int xs.length)) := .of1 call_len_seq fun H0 H w v t Q q => by
  obtain ⟨a, vs, rfl, h, d⟩ := t.seq e
  exact ⟨a, vs, rfl, .inl h, by rw [d.length]; exact q _ (.int _)⟩
theorem ca_lenT {xs : List PyData} : CaOk X (.builtin "len") [.d (.tuple xs)] (.d (.int xs.length)) := .of1 call_len_seq fun H0 H w v t Q q => by
  obtain ⟨a, vs, rfl, h, d⟩ := drT t
  exact ⟨a, vs, rfl, .inr h, by rw [d.length]; exact q _ (.int _)⟩
theorem ca_abs {i : Int} : CaOk X (.builtin "abs") [.d (.int i)] (.d (.int (if i < 0 then -i else i))) := .of1 call_abs fun H0 H w v t Q q => by
  obtain rfl := drI t
  exact ⟨i, rfl, q _ (.int _)⟩
theorem ca_int {i : Int} : CaOk X (.type "int") [.d (.int i)] (.d (.int i)) := .of1 call_int1 fun H0 H w v t Q q => by
  obtain rfl := drI t
  exact .inl ⟨i, rfl, q _ (.int _)⟩
theorem ca_intB {b : Bool} : CaOk X (.type "int") [.d (.bool b)] (.d (.int (if b then 1 else 0))) := .of1 call_int1 fun H0 H w v t Q q => by
  obtain rfl := drB t
  exact .inr ⟨b, rfl, q _ (.int _)⟩
theorem ca_max2 (hc : X.calm = true) {i j : Int} : CaOk X (.builtin "max") [.d (.int i), .d (.int j)] (.d (.int (if j > i then j else i))) := fun H0 H w vs tr t Q q => by
  obtain ⟨u, v, rfl, t1, t2⟩ := rts2 t
  obtain rfl := drI t1
  obtain rfl := drI t2
  exact CallRc (call_max2 hc) ⟨i, j, rfl, q _ H w (Same.refl H) (fun _ _ => rfl) tr (.int _)⟩
theorem ca_min2 (hc : X.calm = true) {i j : Int} : CaOk X (.builtin "min") [.d (.int i), .d (.int j)] (.d (.int (if j < i then j else i))) := fun H0 H w vs tr t Q q => by
  obtain ⟨u, v, rfl, t1, t2⟩ := rts2 t
  obtain rfl := drI t1
  obtain rfl := drI t2
  exact CallRc (call_min2 hc) ⟨i, j, rfl, q _ H w (Same.refl H) (fun _ _ => rfl) tr (.int _)⟩
theorem ca_any (hc : X.calm = true) {ra : R} {bs : List Bool} (e : seqOf ra = some (bs.map PyData.bool)) : CaOk X (.builtin "any") [ra] (.d (.bool (bs.any id))) := .of1 (cr_any hc) fun H0 H w v t Q q => by
  obtain ⟨a, vs, rfl, h, d⟩ := t.seq e
  exact ⟨a, bs, rfl, by rw [← DRs.bools_inv d]; exact h, q _ (.bl _)⟩
theorem ca_all (hc : X.calm = true) {ra : R} {bs : List Bool} (e : seqOf ra = some (bs.map PyData.bool)) : CaOk X (.builtin "all") [ra] (.d (.bool (bs.all id))) := .of1 (cr_all hc) fun H0 H w v t Q q => by
  obtain ⟨a, vs, rfl, h, d⟩ := t.seq e
  exact ⟨a, bs, rfl, by rw [← DRs.bools_inv d]; exact h, q _ (.bl _)⟩
theorem ca_sum (hc : X.calm = true) {ra : R} {ns : List Int} (e : seqOf ra = some (ns.map PyData.int)) : CaOk X (.builtin "sum") [ra] (.d (.int ns.sum)) := .of1 (cr_sum hc) fun H0 H w v t Q q => by
  obtain ⟨a, vs, rfl, h, d⟩ := t.seq e
  exact ⟨a, ns, rfl, by rw [← DRs.ints_inv d]; exact h, q _ (.int _)⟩
/-- the greatest, the least of some ints -/
theorem ca_max (hc : X.calm = true) {ra : R} {ns : List Int} {m : Int} (e : seqOf ra = some (ns.map PyData.int)) (hm : m ∈ ns) (hg : ∀ y ∈ ns, y ≤ m) : CaOk X (.builtin "max") [ra] (.d (.int m)) := .of1 (cr_max hc) fun H0 H w v t Q q => by
  obtain ⟨a, vs, rfl, h, d⟩ := t.seq e
  refine ⟨a, ns, rfl, by rw [← DRs.ints_inv d]; exact h, List.length_pos_of_mem hm, fun m' h1 h2 => ?_⟩
  have : m' = m := Int.le_antisymm (hg m' h1) (h2 m hm)
  subst this
  exact q _ (.int _)
theorem ca_min (hc : X.calm = true) {ra : R} {ns : List Int} {m : Int} (e : seqOf ra = some (ns.map PyData.int)) (hm : m ∈ ns) (hg : ∀ y ∈ ns, m ≤ y) : CaOk X (.builtin "min") [ra] (.d (.int m)) := .of1 (cr_min hc) fun H0 H w v t Q q => by
  obtain ⟨a, vs, rfl, h, d⟩ := t.seq e
  refine ⟨a, ns, rfl, by rw [← DRs.ints_inv d]; exact h, List.length_pos_of_mem hm, fun m' h1 h2 => ?_⟩
  have : m' = m := Int.le_antisymm (h2 m hm) (hg m' h1)
  subst this
  exact q _ (.int _)
theorem fresh_from {H0 H : Hp} {p : Addr} (g : ∀ b, H0 b ≠ none → H b ≠ none) (n : H p = none) : H0 p = none := by
  cases e : H0 p with
  | none => rfl
  | some o => exact absurd n (g p (some_ne e))
theorem ca_tupL {ra : R} {xs : List PyData} (e : seqOf ra = some xs) : CaOk X (.type "tuple") [ra] (.d (.tuple xs)) := fun H0 H w vs tr t Q q => by
  obtain ⟨v, rfl, t1⟩ := rts1 t
  obtain ⟨a, vs, rfl, h, d⟩ := t1.seq e
  refine CallRc call_tuple_of ⟨a, vs, rfl, .inl ⟨h, fun l n => ?_⟩⟩
  have sm : Same H (upd H l (.tup vs)) := same_upd n
  exact q _ _ w sm (fun _ _ => rfl) (tr_upd tr) (.tup (.inl (.inl upd_same)) (DRs.mv (sstep sm fun _ _ => rfl : StepE w H w _).mv _ _ d))
theorem ca_tupT {xs : List PyData} : CaOk X (.type "tuple") [.d (.tuple xs)] (.d (.tuple xs)) := .of1 call_tupleT fun H0 H w v t Q q => by
  obtain ⟨a, vs, rfl, h, d⟩ := drT t
  exact ⟨a, vs, rfl, h, q _ (.tup h d)⟩
theorem ca_lstL {ra : R} {xs : List PyData} (e : seqOf ra = some xs) : CaOk X (.type "list") [ra] (.ls xs) := fun H0 H w vs tr t Q q => by
  obtain ⟨v, rfl, t1⟩ := rts1 t
  obtain ⟨a, vs, rfl, h, d⟩ := t1.seq e
  refine CallRc call_list_of ⟨a, vs, rfl, .inl h, fun l n => ?_⟩
  have sm : Same H (upd H l (.lst vs)) := same_upd n
  have st : StepE w H (ownT w l) (upd H l (.lst vs)) := sstep sm (ownT_old n)
  exact q _ _ (ownT w l) sm (ownT_old n) (ownT_tr tr) ⟨l, vs, rfl, n, ownT_at, upd_same, DRs.mv st.mv _ _ d⟩
theorem ca_lstT {xs : List PyData} : CaOk X (.type "list") [.d (.tuple xs)] (.ls xs) := fun H0 H w vs tr t Q q => by
  obtain ⟨v, rfl, t1⟩ := rts1 t
  obtain ⟨a, vs, rfl, h, d⟩ := drT t1
  refine CallRc call_list_of ⟨a, vs, rfl, .inr h, fun l n => ?_⟩
  have sm : Same H (upd H l (.lst vs)) := same_upd n
  have st : StepE w H (ownT w l) (upd H l (.lst vs)) := sstep sm (ownT_old n)
  exact q _ _ (ownT w l) sm (ownT_old n) (ownT_tr tr) ⟨l, vs, rfl, n, ownT_at, upd_same, DRs.mv st.mv _ _ d⟩
end
end Ab

namespace Ab
open PySem PySem.Spec PyProof.Rows L2

/-! ### comprehensions -/
/-- in whatever block the comprehension makes -/
def AllB (X : Cx) (scope : Scope) (p : Cx → Prop) : Prop := ∀ (s : Shared) (H : Hp) (C : Addr) (cl : List (Str × Addr)) (fp : List Addr), p (X.blk s H scope (compEnvC scope cl C X.env) fp)
def wipeR : List Nat → List R → List R
  | [], rs => rs
  | v :: vs, rs => (wipeR vs rs).set v .un
def plainR : Option R → R
  | some (.d x) => .d x
  | some (.fn f) => .fn f
  | _ => .un
/-- behind a turn: the block's own names are as they were outside -/
def back : List Nat → List R → List R → List R
  | [], _, rs4 => rs4
  | v :: vs, rs, rs4 => (back vs rs rs4).set v (plainR rs[v]?)
theorem wipeR_len : ∀ {vs : List Nat} {rs : List R}, (wipeR vs rs).length = rs.length
  | [], _ => rfl
  | v :: vs, rs => by unfold wipeR; rw [List.length_set, wipeR_len]
theorem back_len : ∀ {vs : List Nat} {rs rs4 : List R}, (back vs rs rs4).length = rs4.length
  | [], _, _ => rfl
  | v :: vs, rs, rs4 => by unfold back; rw [List.length_set, back_len]
theorem wipeR_get : ∀ {vs : List Nat} {rs : List R} {j : Nat} {r : R}, (wipeR vs rs)[j]? = some r → r = .un ∨ (j ∉ vs ∧ rs[j]? = some r)
  | [], rs, j, r, e => .inr ⟨by simp, e⟩
  | v :: vs, rs, j, r, e => by
    unfold wipeR at e
    by_cases h : v = j
    · subst h
      by_cases hl : v < (wipeR vs rs).length
      · rw [List.getElem?_set_self hl] at e; exact .inl (Option.some.inj e).symm
      · rw [List.getElem?_eq_none (by rw [List.length_set]; omega)] at e; cases e
    · rw [List.getElem?_set_ne h] at e
      rcases wipeR_get e with q | ⟨q1, q2⟩
      · exact .inl q
      · exact .inr ⟨fun z => (List.mem_cons.mp z).elim (fun z => h z.symm) q1, q2⟩
theorem back_get : ∀ {vs : List Nat} {rs rs4 : List R} {j : Nat} {r : R}, (back vs rs rs4)[j]? = some r → (j ∈ vs ∧ r = plainR rs[j]?) ∨ (j ∉ vs ∧ rs4[j]? = some r)
  | [], rs, rs4, j, r, e => .inr ⟨by simp, e⟩
  | v :: vs, rs, rs4, j, r, e => by
    unfold back at e
    by_cases h : v = j
    · subst h
      by_cases hl : v < (back vs rs rs4).length
      · rw [List.getElem?_set_self hl] at e; exact .inl ⟨List.mem_cons_self, (Option.some.inj e).symm⟩
      · rw [List.getElem?_eq_none (by rw [List.length_set]; omega)] at e; cases e
    · rw [List.getElem?_set_ne h] at e
      rcases back_get e with ⟨q1, q2⟩ | ⟨q1, q2⟩
      · exact .inl ⟨List.mem_cons_of_mem _ q1, q2⟩
      · exact .inr ⟨fun z => (List.mem_cons.mp z).elim (fun z => h z.symm) q1, q2⟩
theorem wipe_in {i : Nat} : ∀ {vs : List Nat} {σ : Sl}, i ∈ vs → i < σ.length → (wipe σ vs)[i]? = some none
  | v :: vs, σ, h, hl => by
    unfold wipe
    by_cases e : v = i
    · subst e; rw [List.getElem?_set_self (by rw [wipe_length]; exact hl)]
    · rw [List.getElem?_set_ne e]
      exact wipe_in ((List.mem_cons.mp h).elim (fun z => absurd z.symm e) id) hl
  | [], _, h, _ => by simp at h
/-- the target's store touches the block's names alone -/
theorem wipe_stored {vs js : List Nat} {σ σ2 : Sl} (hl : σ2.length = (wipe σ vs).length) (hk : ∀ k, k ∉ js → σ2[k]? = (wipe σ vs)[k]?) (hj : ∀ j ∈ js, j ∈ vs) : wipe σ2 vs = wipe σ vs := by
  apply List.ext_getElem?
  intro k
  by_cases h : k ∈ vs
  · by_cases q : k < σ.length
    · rw [wipe_in h q, wipe_in h (by rw [hl, wipe_length]; exact q)]
    · rw [List.getElem?_eq_none (by rw [wipe_length, hl, wipe_length]; omega), List.getElem?_eq_none (by rw [wipe_length]; omega)]
  · rw [wipe_out h]
    exact hk k fun z => h (hj k z)
section
variable {P : Program} {W : World} {K : PySem.W.Frag} {H H4 : Hp} {w w4 : Own} {σ : Sl} {rs rs4 : List R} {vs : List Nat}
theorem RS.wipe (S : RS P W K H w σ rs) : RS P W K H w (L2.wipe σ vs) (wipeR vs rs) := by
  refine ⟨by rw [wipeR_len, wipe_length]; exact S.len, S.tr, fun i r e => ?_⟩
  rcases wipeR_get e with rfl | ⟨q1, q2⟩
  · trivial
  · rw [wipe_out q1]; exact S.at_ i r q2
theorem RS.back {σ2 : Sl} (S : RS P W K H w σ rs) (S4 : RS P W K H4 w4 σ2 rs4) (m : Mv w H w4 H4) (hl : σ2.length = σ.length) (hk : ∀ k, k ∉ vs → σ2[k]? = σ[k]?) : RS P W K H4 w4 σ (Ab.back vs rs rs4) := by
  refine ⟨by rw [back_len, S4.len, hl], S4.tr, fun i r e => ?_⟩
  rcases back_get e with ⟨q1, q2⟩ | ⟨q1, q2⟩
  · subst q2
    cases e2 : rs[i]? with
    | none => trivial
    | some r' =>
      have h := S.at_ i r' e2
      cases r' with
      | d x => obtain ⟨v, e, d⟩ := h; exact ⟨v, e, d.mv m⟩
      | fn f => exact h
      | _ => trivial
  · rw [← hk i q1]; exact S4.at_ i r q2
end
section
variable {X : Cx} {rs rs1 rs' : List R} {pu pp : Bool}
def gB (X : Cx) (scope : Scope) (tg : Expr) : TG := fun v σ H Q => ∀ (s : Shared) (H0 : Hp) (C : Addr) (cl : List (Str × Addr)) (fp : List Addr), cG (X.blk s H0 scope (compEnvC scope cl C X.env) fp) tg v σ H Q
def bB (X : Cx) (scope : Scope) (c : Expr) : TT := fun σ H Q => ∀ (s : Shared) (H0 : Hp) (C : Addr) (cl : List (Str × Addr)) (fp : List Addr), cB (X.blk s H0 scope (compEnvC scope cl C X.env) fp) c σ H Q
def eB (X : Cx) (scope : Scope) (e : Expr) : TE := fun σ H Q => ∀ (s : Shared) (H0 : Hp) (C : Addr) (cl : List (Str × Addr)) (fp : List Addr), cT (X.blk s H0 scope (compEnvC scope cl C X.env) fp) e σ H Q
theorem gB_ok {scope : Scope} {tg : Expr} (s : Shared) (H : Hp) (C : Addr) (cl : List (Str × Addr)) (fp : List Addr) : PG (X.blk s H scope (compEnvC scope cl C X.env) fp) tg (gB X scope tg) := ⟨fun pins s' σ H' v u Q I r h => h s H C cl fp pins s' u I r⟩
theorem bB_ok {scope : Scope} {c : Expr} (s : Shared) (H : Hp) (C : Addr) (cl : List (Str × Addr)) (fp : List Addr) : PT (X.blk s H scope (compEnvC scope cl C X.env) fp) c (bB X scope c) := ⟨fun pins s' σ H' Q I h => h s H C cl fp pins s' I⟩
theorem eB_ok {scope : Scope} {e : Expr} (s : Shared) (H : Hp) (C : Addr) (cl : List (Str × Addr)) (fp : List Addr) : PE (X.blk s H scope (compEnvC scope cl C X.env) fp) e (eB X scope e) := ⟨fun pins s' σ H' Q I h => h s H C cl fp pins s' I⟩

/-- what one clause's test says: no test, one test -/
def tests (X : Cx) (scope : Scope) : Option Expr → TT
  | none => tYes
  | some c => bB X scope c
def ifsOf : Option Expr → List Expr
  | none => []
  | some c => [c]
theorem tests_ok {scope : Scope} : ∀ (c : Option Expr) (s : Shared) (H : Hp) (C : Addr) (cl : List (Str × Addr)) (fp : List Addr), PTs (X.blk s H scope (compEnvC scope cl C X.env) fp) (ifsOf c) (tests X scope c)
  | none, _, _, _, _, _ => pts_nil
  | some c, s, H, C, cl, fp => pts_one (bB_ok s H C cl fp)
/-- a clause's test in all blocks -/
def EtB (X : Cx) (scope : Scope) (pp : Bool) (rs : List R) : Option Expr → Bool → List R → Prop
  | none, b, rs' => b = true ∧ rs' = rs
  | some c, b, rs' => AllB X scope fun B => Et B pp rs c b rs'

/-- one turn: from the item x and the slots rs, what is made so far acc -/
def LcTurn (X : Cx) (scope : Scope) (vs : List Nat) (pp : Bool) (tg elt : Expr) (c : Option Expr) (x : PyData) (rs : List R) (acc : List PyData) (Nx : List R → List PyData → Prop) : Prop :=
  ∃ rs2 js b rs3, (AllB X scope fun B => Tg B tg x (wipeR vs rs) rs2 js) ∧ (∀ j ∈ js, j ∈ vs) ∧ EtB X scope pp rs2 c b rs3 ∧
    (b = true → ∃ y rs4, (AllB X scope fun B => Ev B pp rs3 elt (.d y) rs4) ∧ Nx (back vs rs rs4) (acc ++ [y])) ∧ (b = false → Nx (back vs rs rs3) acc)

/-- the state between two turns -/
def LcInv (X : Cx) (σ : Sl) (D : Addr) (w1 : Own) (H1 : Hp) (pp : Bool) (Pn : List R → List PyData → Prop) (H : Hp) : Prop :=
  ∃ w rs acc us, RSx X H w σ rs ∧ Pn rs acc ∧ acc.length ≤ sizeLine ∧ H D = some (.lst us) ∧ DRs X.K H w us acc ∧ w D = some 0 ∧ StepE w1 H1 w H ∧ (pp = true → Same H1 H)
theorem lc_turn {scope : Scope} {vs : List Nat} {tg elt : Expr} {c : Option Expr} {σ : Sl} {D : Addr} {w1 : Own} {H1 H : Hp} {Pn Nx : List R → List PyData → Prop} {x : PyData} {v : V} (hD : H1 D = none)
    (turn : ∀ rs acc, Pn rs acc → LcTurn X scope vs pp tg elt c x rs acc Nx) (hz : ∀ rs acc, Nx rs acc → acc.length ≤ sizeLine) (hx : ∀ w rs, RSx X H w σ rs → StepE w1 H1 w H → DR X.K H w v x) (h : LcInv X σ D w1 H1 pp Pn H) :
    gB X scope tg v (L2.wipe σ vs) H fun σ2 H2 => L2.wipe σ2 vs = L2.wipe σ vs ∧ tests X scope c σ2 H2 fun b H3 =>
      if b = true then eB X scope elt σ2 H3 fun y H4 => ∃ acc, H4 D = some (.lst acc) ∧ acc.length < sizeLine ∧ LcInv X σ D w1 H1 pp Nx (upd H4 D (.lst (acc ++ [y]))) else LcInv X σ D w1 H1 pp Nx H3 := by
  obtain ⟨w, rs, acc, us, S, p, ha, hDl, dr, wD, st, sm⟩ := h
  obtain ⟨rs2, js, b, rs3, htg, hj, ht, h1, h2⟩ := turn rs acc p
  intro s H0 C cl fp
  refine htg s H0 C cl fp (L2.wipe σ vs) H w v S.wipe (hx w rs S st) _ fun σ2 S2 ⟨k1, k2⟩ => ?_
  have hw := wipe_stored k1 k2 hj
  refine ⟨hw, ?_⟩
  have kl : σ2.length = σ.length := by rw [k1, wipe_length]
  have kk : ∀ k, k ∉ vs → σ2[k]? = σ[k]? := fun k hk => by rw [k2 k fun z => hk (hj k z), wipe_out hk]
  have DS : ∀ {H' w'}, StepE w H w' H' → H' D = some (.lst us) ∧ w' D = some 0 := fun {H' w'} st' => ⟨st'.k _ _ hDl (.inl (.of_tmp wD)), by rw [st'.o D (some_ne hDl)]; exact wD⟩
  have main : ∀ H3 w3, RSx X H3 w3 σ2 rs3 → StepE w H w3 H3 → (pp = true → Same H H3) → (if b = true then eB X scope elt σ2 H3 fun y H4 => ∃ acc, H4 D = some (.lst acc) ∧ acc.length < sizeLine ∧ LcInv X σ D w1 H1 pp Nx (upd H4 D (.lst (acc ++ [y]))) else LcInv X σ D w1 H1 pp Nx H3) := fun H3 w3 S3 st3 sm3 => by
    cases b with
    | false =>
      rw [if_neg Bool.false_ne_true]
      have n := h2 rfl
      exact ⟨w3, _, acc, us, S.back S3 st3.mv kl kk, n, hz _ _ n, (DS st3).1, DRs.mv st3.mv _ _ dr, (DS st3).2, st.trans st3, fun e => (sm e).trans (sm3 e)⟩
    | true =>
      rw [if_pos rfl]
      obtain ⟨y, rs4, he, n⟩ := h1 rfl
      intro s H0 C cl fp
      refine he s H0 C cl fp σ2 H3 w3 S3 _ fun u H4 w4 S4 st4 t4 sm4 => ?_
      have st34 := st3.trans st4
      obtain ⟨d4, o4⟩ := DS st34
      have hl := hz _ _ n
      rw [List.length_append, List.length_singleton] at hl
      refine ⟨us, d4, by rw [dr.length]; omega, ?_⟩
      have m5 : Mv w4 H4 w4 (upd H4 D (.lst (us ++ [u]))) := ⟨fun b o hb f => by
        rw [upd_ne fun z => ?_]; exact hb
        subst z
        rcases f with f | f
        · rw [o4] at f; cases f
        · rw [d4] at hb; cases hb; exact f True.intro, fun _ _ e => e⟩
      have S5 : RSx X (upd H4 D (.lst (us ++ [u]))) w4 σ (back vs rs rs4) := by
        have B := S.back (vs := vs) S4 st34.mv kl kk
        refine ⟨B.len, tr_upd B.tr, fun i r e => (B.at_ i r e).keep m5 fun b o hb ho => ⟨?_, hb⟩⟩
        rw [upd_ne fun z => by subst z; rw [o4] at hb; cases hb]; exact ho
      refine ⟨w4, _, acc ++ [y], us ++ [u], S5, n, by rw [List.length_append, List.length_singleton]; exact hl, upd_same, ?_, o4, ?_, fun e => ?_⟩
      · exact (DRs.mv m5 _ _ (DRs.mv st34.mv _ _ dr)).snoc (DR.mv m5 _ _ t4)
      · have st14 := st.trans st34
        refine ⟨fun b o hb f => ?_, st14.o, fun b hb => ?_⟩
        · rw [upd_ne fun z => by subst z; rw [hD] at hb; cases hb]; exact st14.k b o hb f
        · by_cases z : b = D
          · subst z; rw [upd_same]; exact fun z => nomatch z
          · rw [upd_ne z]; exact st14.g b hb
      · intro b o hb
        rw [upd_ne fun z => by subst z; rw [hD] at hb; cases hb]
        exact ((sm e).trans ((sm3 e).trans (sm4 e))) b o hb
  cases c with
  | none =>
    obtain ⟨rfl, rfl⟩ := ht
    exact main H w S2 .refl fun _ => Same.refl H
  | some c =>
    intro s H0 C cl fp
    exact ht s H0 C cl fp σ2 H w S2 _ fun H3 w3 S3 st3 sm3 => main H3 w3 S3 st3 sm3
/-- before the first turn -/
theorem lc_begin {σ : Sl} {D : Addr} {w1 : Own} {H1 : Hp} {P0 : List R → List PyData → Prop} (S1 : RSx X H1 w1 σ rs1) (h0 : P0 rs1 []) (n : H1 D = none) : LcInv X σ D w1 H1 pp P0 (upd H1 D (.lst [])) := by
  have sm : Same H1 (upd H1 D (.lst [])) := same_upd n
  have st : StepE w1 H1 (ownT w1 D) (upd H1 D (.lst [])) := sstep sm (ownT_old n)
  exact ⟨ownT w1 D, rs1, [], [], S1.keep st sm (ownT_tr S1.tr), h0, Nat.zero_le _, upd_same, .nil, ownT_at, st, fun _ => sm⟩
/-- behind the last turn -/
theorem lc_done {σ : Sl} {D : Addr} {w w1 : Own} {H H1 H' : Hp} {Pn : List R → List PyData → Prop} {ys : List PyData} {Q : VK} (st1 : StepE w H w1 H1) (s1 : pu = true → Same H H1) (n : H1 D = none) (fin : ∀ rs acc, Pn rs acc → rs = rs' ∧ acc = ys)
    (q : ∀ v H' w', RSx X H' w' σ rs' → StepE w H w' H' → RTx X H H' w' v (.ls ys) → ((pu && pp) = true → Same H H') → Q v H') (h : LcInv X σ D w1 H1 pp Pn H') : Q (.ref D) H' := by
  obtain ⟨w', rs, acc, us, S, p, ha, hDl, dr, wD, st, sm⟩ := h
  obtain ⟨rfl, rfl⟩ := fin _ _ p
  refine q _ H' w' S (st1.trans st) ⟨D, us, rfl, fresh_from st1.g n, wD, hDl, dr⟩ fun e => ?_
  rw [Bool.and_eq_true] at e
  exact (s1 e.1).trans (sm e.2)

/-- the reading of a comprehension over a tuple, a list -/
theorem lc_tupR {scope : Scope} {vs : List Nat} {tg elt iter : Expr} {c : Option Expr} {r : R} {items ys : List PyData} (P : Nat → List R → List PyData → Prop) (hl : Ev X pu rs iter r rs1) (hw : walkOf r = some (true, items)) (h0 : P 0 rs1 [])
    (turn : ∀ i x rs acc, items[i]? = some x → P i rs acc → LcTurn X scope vs pp tg elt c x rs acc (P (i + 1))) (fin : ∀ rs acc, P items.length rs acc → rs = rs' ∧ acc = ys) (hz : ∀ i rs acc, P i rs acc → acc.length ≤ sizeLine)
    {σ : Sl} {H : Hp} {w : Own} (S : RSx X H w σ rs) {Q : VK} (q : ∀ v H' w', RSx X H' w' σ rs' → StepE w H w' H' → RTx X H H' w' v (.ls ys) → ((pu && pp) = true → Same H H') → Q v H') :
    tLc (iTup X.K (cT X iter)) (gB X scope tg) (tests X scope c) (eB X scope elt) vs σ H Q := by
  refine hl σ H w S _ fun v H1 w1 S1 st1 t1 s1 => ?_
  cases r with
  | d x =>
    cases x with
    | tuple xs =>
      cases hw
      obtain ⟨a, us, rfl, sq, dr⟩ := drT t1
      refine ⟨a, rfl, ⟨us, sq⟩, fun D n => ?_⟩
      refine lc_tup (K := X.K) (a := a) (xs := us) (Qd := fun H' => Q (.ref D) H') (fun i H' => LcInv X σ D w1 H1 pp (P i) H') (lc_begin S1 h0 n) (fun i H' _ ⟨w', rs', acc, us', S', p', _, _, _, _, st', _⟩ => st'.mv.sqT sq) (fun i x H' hx h => ?_) fun H' h => ?_
      · obtain ⟨d, hd, dd⟩ := dr.getV hx
        exact lc_turn n (fun rs acc p => turn i d rs acc hd p) (hz _) (fun w' rs' S' st' => DR.mv st'.mv _ _ dd) h
      · rw [dr.length] at h
        exact lc_done st1 s1 n fin q h
    | _ => cases hw
  | _ => cases hw
theorem lc_lstR {scope : Scope} {vs : List Nat} {tg elt iter : Expr} {c : Option Expr} {r : R} {items ys : List PyData} (P : Nat → List R → List PyData → Prop) (hl : Ev X pu rs iter r rs1) (hw : walkOf r = some (false, items)) (h0 : P 0 rs1 [])
    (turn : ∀ i x rs acc, items[i]? = some x → P i rs acc → LcTurn X scope vs pp tg elt c x rs acc (P (i + 1))) (fin : ∀ rs acc, P items.length rs acc → rs = rs' ∧ acc = ys) (hz : ∀ i rs acc, P i rs acc → acc.length ≤ sizeLine)
    {σ : Sl} {H : Hp} {w : Own} (S : RSx X H w σ rs) {Q : VK} (q : ∀ v H' w', RSx X H' w' σ rs' → StepE w H w' H' → RTx X H H' w' v (.ls ys) → ((pu && pp) = true → Same H H') → Q v H') :
    tLc (iList X.K (cT X iter)) (gB X scope tg) (tests X scope c) (eB X scope elt) vs σ H Q := by
  refine hl σ H w S _ fun v H1 w1 S1 st1 t1 s1 => ?_
  -- the walked list: shared, or a temporary that nobody writes
  have key : ∃ a us, v = .ref a ∧ DRs X.K H1 w1 us items ∧ (∀ H' w', StepE w1 H1 w' H' → SqL X.K H' a us) := by
    cases r with
    | d x =>
      cases x with
      | list xs =>
        cases hw
        obtain ⟨a, us, rfl, h1, dr⟩ := drL t1
        exact ⟨a, us, rfl, dr, fun H' w' st => (h1.mv st.mv).sq⟩
      | _ => cases hw
    | ls xs =>
      cases hw
      obtain ⟨a, us, rfl, _, o, hp, dr⟩ := t1
      exact ⟨a, us, rfl, dr, fun H' w' st => .inl (.inl (st.k _ _ hp (.inl (.of_tmp o))))⟩
    | _ => cases hw
  obtain ⟨a, us, rfl, dr, sq⟩ := key
  refine ⟨a, rfl, ⟨us, sq H1 w1 .refl⟩, fun D n => ?_⟩
  refine lc_list (K := X.K) (a := a) (xs := us) (Qd := fun H' => Q (.ref D) H') (fun i H' => LcInv X σ D w1 H1 pp (P i) H') (lc_begin S1 h0 n) (fun i H' _ ⟨w', rs', acc, us', S', p', _, _, _, _, st', _⟩ => sq H' w' st') (fun i x H' hx h => ?_) fun H' h => ?_
  · obtain ⟨d, hd, dd⟩ := dr.getV hx
    exact lc_turn n (fun rs acc p => turn i d rs acc hd p) (hz _) (fun w' rs' S' st' => DR.mv st'.mv _ _ dd) h
  · rw [dr.length] at h
    exact lc_done st1 s1 n fin q h
theorem lc_rngR {scope : Scope} {vs : List Nat} {tg elt a : Expr} {c : Option Expr} {N : Int} {ys : List PyData} (P : Nat → List R → List PyData → Prop) (hl : Ev X pu rs a (.d (.int N)) rs1) (hn : -(2 ^ 62) ≤ N ∧ N < 2 ^ 62) (h0 : P 0 rs1 [])
    (turn : ∀ (i : Nat) rs acc, i < N.toNat → P i rs acc → LcTurn X scope vs pp tg elt c (.int i) rs acc (P (i + 1))) (fin : ∀ rs acc, P N.toNat rs acc → rs = rs' ∧ acc = ys) (hz : ∀ i rs acc, P i rs acc → acc.length ≤ sizeLine)
    {σ : Sl} {H : Hp} {w : Own} (S : RSx X H w σ rs) {Q : VK} (q : ∀ v H' w', RSx X H' w' σ rs' → StepE w H w' H' → RTx X H H' w' v (.ls ys) → ((pu && pp) = true → Same H H') → Q v H') :
    tLc (iRng1 (tCons (cT X a) tNil)) (gB X scope tg) (tests X scope c) (eB X scope elt) vs σ H Q := by
  refine hl σ H w S _ fun v H1 w1 S1 st1 t1 s1 => ?_
  cases (show DR X.K H1 w1 v (.int N) from t1)
  refine ⟨N, rfl, hn.1, hn.2, fun D n => ?_⟩
  refine lc_range (lo := 0) (n := N.toNat) (Qd := fun H' => Q (.ref D) H') (fun i H' => LcInv X σ D w1 H1 pp (P i) H') (lc_begin S1 h0 n) (fun i H' hi h => ?_) fun H' h => ?_
  · rw [show (0 : Int) + (i : Int) = (i : Int) by omega]
    exact lc_turn n (fun rs acc p => turn i rs acc hi p) (hz _) (fun w' rs' S' st' => .int _) h
  · exact lc_done st1 s1 n fin q h

/-! as values, as names' values -/
structure LcOk (X : Cx) (scope : Scope) (own : List (Str × Nat)) : Prop where
  calm : X.calm = true
  nd : X.N.Nodup
  blk : BlkOk X.N X.env.scope scope own
theorem Ev.lc {t : Bool} {scope : Scope} {own : List (Str × Nat)} {tg elt iter : Expr} {c : Option Expr} {r : R} {items ys : List PyData} {pos : Pos} (P : Nat → List R → List PyData → Prop) (hl : Ev X pu rs iter r rs1) (hw : walkOf r = some (t, items)) (h0 : P 0 rs1 [])
    (turn : ∀ i x rs acc, items[i]? = some x → P i rs acc → LcTurn X scope (own.map (·.2)) pp tg elt c x rs acc (P (i + 1))) (fin : ∀ rs acc, P items.length rs acc → rs = rs' ∧ acc = ys) (hz : ∀ i rs acc, P i rs acc → acc.length ≤ sizeLine)
    (ok : LcOk X scope own) (hs : ∀ x, foldedSetIterable iter X.env x = pure x) : Ev X (pu && pp) rs (.ListComp elt [⟨tg, iter, ifsOf c, 0⟩] scope pos) (.ls ys) rs' := fun σ H w S Q q => by
  cases t with
  | true => exact PEc (pe_lc ok.calm ok.nd (pi_tup cT_ok) ok.blk gB_ok (tests_ok c) eB_ok hs) (lc_tupR P hl hw h0 turn fin hz S q)
  | false => exact PEc (pe_lc ok.calm ok.nd (pi_list cT_ok) ok.blk gB_ok (tests_ok c) eB_ok hs) (lc_lstR P hl hw h0 turn fin hz S q)
theorem Ev.lcN {scope : Scope} {own : List (Str × Nat)} {tg elt a : Expr} {c : Option Expr} {N : Int} {ys : List PyData} {p pos pos' : Pos} (P : Nat → List R → List PyData → Prop) (hl : Ev X pu rs a (.d (.int N)) rs1) (hn : -(2 ^ 62) ≤ N ∧ N < 2 ^ 62) (h0 : P 0 rs1 [])
    (turn : ∀ (i : Nat) rs acc, i < N.toNat → P i rs acc → LcTurn X scope (own.map (·.2)) pp tg elt c (.int i) rs acc (P (i + 1))) (fin : ∀ rs acc, P N.toNat rs acc → rs = rs' ∧ acc = ys) (hz : ∀ i rs acc, P i rs acc → acc.length ≤ sizeLine)
    (ok : LcOk X scope own) (hg : Gl X "range") (hm : X.mg "range" = none) (hst : starEach [a] X.env = [(false, eval a X.env)]) (hst2 : starEach (a :: []) X.env = (false, eval a X.env) :: starEach [] X.env) (hs : ∀ x, foldedSetIterable (.Call (.Name "range" p) [a] [] pos') X.env x = pure x) :
    Ev X (pu && pp) rs (.ListComp elt [⟨tg, .Call (.Name "range" p) [a] [] pos', ifsOf c, 0⟩] scope pos) (.ls ys) rs' := fun σ H w S Q q =>
  PEc (pe_lc ok.calm ok.nd (pi_range1 hg hm (pa_cons cT_ok pa_nil hst2) hst) ok.blk gB_ok (tests_ok c) eB_ok hs) (lc_rngR P hl hn h0 turn fin hz S q)
theorem Ex.setLc (i : Nat) {y : Str} {py spos : Pos} {t : Bool} {scope : Scope} {own : List (Str × Nat)} {tg elt iter : Expr} {c : Option Expr} {r : R} {items ys : List PyData} {pos : Pos} (P : Nat → List R → List PyData → Prop) (hl : Ev X pu rs iter r rs1) (hw : walkOf r = some (t, items)) (h0 : P 0 rs1 [])
    (turn : ∀ i x rs acc, items[i]? = some x → P i rs acc → LcTurn X scope (own.map (·.2)) pp tg elt c x rs acc (P (i + 1))) (fin : ∀ rs acc, P items.length rs acc → rs = rs' ∧ acc = ys) (hz : ∀ i rs acc, P i rs acc → acc.length ≤ sizeLine)
    (ok : LcOk X scope own) (hi : i < rs'.length) (hy : X.N[i]? = some y) (hyl : X.env.scope.names.lookup y = some .local) (hsw : swapsWith (.ListComp elt [⟨tg, iter, ifsOf c, 0⟩] scope pos) (some (.Name y py)) spos.line X.env = pure true) (hs : ∀ x, foldedSetIterable iter X.env x = pure x) :
    Ex X rs (.Assign [.Name y py] (.ListComp elt [⟨tg, iter, ifsOf c, 0⟩] scope pos) spos) (.nx (rs'.set i (.ls ys))) := fun σ H w S D q => by
  have fin' : ∀ v H' w', RSx X H' w' σ rs' → StepE w H w' H' → RTx X H H' w' v (.ls ys) → ((pu && pp) = true → Same H H') → gName i v σ H' D.nx := fun v H' w' S' st t _ => by
    obtain ⟨w2, S2, st2⟩ := S'.store st t rfl hi
    exact q _ H' w2 S2 st2
  cases t with
  | true => exact PSc (ps_setLc ok.calm ok.nd hy hyl hsw (pi_tup cT_ok) ok.blk gB_ok (tests_ok c) eB_ok hs) (lc_tupR P hl hw h0 turn fin hz S fin')
  | false => exact PSc (ps_setLc ok.calm ok.nd hy hyl hsw (pi_list cT_ok) ok.blk gB_ok (tests_ok c) eB_ok hs) (lc_lstR P hl hw h0 turn fin hz S fin')
end
end Ab

namespace Ab
open PySem PySem.Spec PyProof.Rows L2

/-! ### sorted -/
def srt (ds : List PyData) : List PyData := ds.mergeSort (PySem.W.dataLe false id)
structure SortOk (X : Cx) (ds : List PyData) : Prop where
  alike : PySem.W.AllAlike ds
  able : PySem.W.Sortable ds
  len : ds.length ≤ sizeLine
  room : ∀ d ∈ ds, X.A.units + 2 + d.depth < cLine
theorem each_of {K : PySem.W.Frag} {H : Hp} {w : Own} : ∀ {us : List Value} {vs : List V} {ds : List PyData}, Vals vs us → DRs K H w vs ds → PySem.W.EachIs (fun u d => ∃ v, RelV v u ∧ DR K H w v d) us ds
  | _, _, [], r, h => by cases h; cases r; exact .nil
  | _, _, d :: ds, r, h => by
    cases h with
    | cons h1 h2 =>
      cases r with
      | cons r1 r2 => exact .cons ⟨_, r1, h1⟩ (each_of r2 h2)
theorem of_each {K : PySem.W.Frag} {H : Hp} {w : Own} : ∀ {us : List Value} {ds : List PyData}, PySem.W.EachIs (fun u d => ∃ v, RelV v u ∧ DR K H w v d) us ds → ∃ vs, Vals vs us ∧ DRs K H w vs ds
  | _, _, .nil => ⟨[], .nil, .nil⟩
  | _, _, .cons ⟨v, r, h⟩ t => by
    obtain ⟨vs, r2, h2⟩ := of_each t
    exact ⟨v :: vs, .cons r r2, .cons h h2⟩
theorem each_imp {α β : Type} {R R' : α → β → Prop} (k : ∀ a b, R a b → R' a b) : ∀ {as : List α} {bs : List β}, PySem.W.EachIs R as bs → PySem.W.EachIs R' as bs
  | _, _, .nil => .nil
  | _, _, .cons h t => .cons (k _ _ h) (each_imp k t)
section
variable {X : Cx}
theorem sorted_by {pins : List (Addr × Obj)} {s : Shared} {σ : Sl} {H : Hp} {w : Own} {l : Addr} {ds : List PyData} (I : Inv X pins σ H s) (so : SortOk X ds)
    (coll : ∀ (E' : Value → Shared → Prop) (R : List Value → Shared → Prop), (∀ h' tk us vs, (∀ b o, s.heap.get? b = some o → h'.get? b = some o) → Vals vs us → DRs X.K H w vs ds → R us { s with heap := h', toks := tk }) → wpAny (model X.prog X.w) X.A.in1 (collect (.ref l)) R E' s)
    {Q : VK} (q : ∀ p vs, H p = none → DRs X.K H w vs (srt ds) → Q (.ref p) (upd H p (.lst vs))) : wpAny (model X.prog X.w) X.A (call (.builtin "sorted") [.ref l]) (EP X pins σ Q) X.xe s := by
  refine Calls.call_function_entry PyProof.Rows.kind_sorted PyProof.Rows.plain_sorted PyProof.Rows.entry_sorted (PyProof.Rows.args_sorted1 _) ?_
  unfold Builtin.«sorted»
  refine wpAny_bind (m := checkCount "sorted" 1 1 _) (wpAny_pure ?_)
  refine wpAny_bind (coll _ _ fun h' tk us vs hk rv dr => ?_)
  have I1 : Inv X pins σ H { s with heap := h', toks := tk } := I.kept hk
  have lu : us.length = ds.length := by rw [← rv.length, dr.length]
  have lz : us.length ≤ sizeLine := by rw [lu]; exact so.len
  refine wpAny_bind (wpAny_newList ?_ lz)
  generalize hD : h'.objs.size = D
  have hoL : (h'.push (seqObj "list" us.toArray 0)).get? D = some (seqObj "list" us.toArray 0) := by rw [← hD]; exact Heap.get?_push_size _ rfl
  have hnew : H D = none := I1.hok.fresh (Nat.le_of_eq hD)
  have kp : ∀ b o, h'.get? b = some o → (h'.push (seqObj "list" us.toArray 0)).get? b = some o := fun b o e => Heap.get?_push_of_some _ e
  show wpAny _ _ _ _ _ { s with heap := h'.push (seqObj "list" us.toArray 0), toks := tk }
  -- the items read as data while the list is empty
  have old : ∀ b o, h'.get? b = some o → (PySem.W.sortingHeap (h'.push (seqObj "list" us.toArray 0)) D us).get? b = some o := fun b o e =>
    PySem.W.sortingHeap_old (by rw [← hD]; exact Nat.ne_of_lt (Heap.lt_size e)) (kp b o e)
  have I2 : Inv X pins σ H { s with heap := PySem.W.sortingHeap (h'.push (seqObj "list" us.toArray 0)) D us, toks := tk } := I1.kept (t' := tk) old
  have ev : PySem.W.EachIs (fun u d => ∃ v, RelV v u ∧ DR X.K H w v d) us ds := each_of rv dr
  have er : PySem.W.EachIs (fun u d => ∃ as, Reads (PySem.W.sortingHeap (h'.push (seqObj "list" us.toArray 0)) D us) u d as) us ds :=
    each_imp (fun u d ⟨v, r, h⟩ => Dp.reads I2 d v u (DR.dp d v h) r) ev
  refine wpAny_bind (wpAny_holding (wpAny_call_entry PyProof.Rows.slot_list_sort ⟨_, hoL, rfl⟩ PyProof.Rows.entry_list_sort
    (PySem.W.list_sort_vals (s := { s with heap := h'.push (seqObj "list" us.toArray 0), toks := tk }) (κ := PySem.W.dataKind (PySem.W.sortingHeap (h'.push (seqObj "list" us.toArray 0)) D us) ds) hoL
      (PySem.W.SortsAt.data (s := { s with heap := PySem.W.sortingHeap (h'.push (seqObj "list" us.toArray 0)) D us, toks := tk }) er so.alike so.able fun d hd => so.room d hd) lz ⟨_, rfl, ?_⟩) (PyProof.Rows.args_list_sort _)))
  have es := PySem.W.sortVals_data (R := fun u d => ∃ v, RelV v u ∧ DR X.K H w v d) (enc := id) (h' := PySem.W.sortingHeap (h'.push (seqObj "list" us.toArray 0)) D us) false ev (by simpa using er) (by simpa using so.alike)
  rw [List.map_id] at es
  obtain ⟨vs', rv', dr'⟩ := of_each es
  refine wpAny_pure ⟨_, rfl, ?_⟩
  obtain ⟨e, hat⟩ := sortedHeap_at (out := (PySem.W.sortVals (PySem.W.dataKind (PySem.W.sortingHeap (h'.push (seqObj "list" us.toArray 0)) D us) ds) false us us).toArray) hoL
  refine ⟨.ref D, upd H D (.lst vs'), I1.laid (t' := tk) (fun b o hb => ?_) (Nat.le_of_eq hD) ⟨?_, _, e, rv', hat⟩, rfl, q D vs' hnew dr'⟩
  · have hlt := Heap.lt_size hb
    have ne : b ≠ D := by rw [← hD]; exact Nat.ne_of_lt hlt
    rw [sortedHeap_old ne (Heap.lt_size (kp b o hb))]
    exact kp b o hb
  · rw [dr'.length]
    show (ds.mergeSort _).length ≤ _
    rw [List.length_mergeSort]
    exact so.len
theorem ca_sortedL {ra : R} {ds : List PyData} (e : seqOf ra = some ds) (so : SortOk X ds) : CaOk X (.builtin "sorted") [ra] (.ls (srt ds)) := fun H0 H w vs tr t Q q => by
  obtain ⟨v, rfl, t1⟩ := rts1 t
  obtain ⟨a, us, rfl, h, d⟩ := t1.seq e
  intro pins s σ ws I rv
  cases rv with
  | cons r0 rn =>
    cases rn
    cases r0
    obtain ⟨its, rv, ⟨o, n, ho, hc, _, hd⟩, hz⟩ := I.list h
    refine sorted_by (w := w) I so (fun E' R k => wpAny_collect_seq a (.inl rfl) ho hc hd (fun h' hk => ?_) (by rw [List.size_toArray, ← rv.length]; exact hz)) fun p vs n dr => ?_
    · exact k h' s.toks its us hk rv d
    · have sm : Same H (upd H p (.lst vs)) := same_upd n
      have st : StepE w H (ownT w p) (upd H p (.lst vs)) := sstep sm (ownT_old n)
      exact q _ _ (ownT w p) sm (ownT_old n) (ownT_tr tr) ⟨p, vs, rfl, n, ownT_at, upd_same, DRs.mv st.mv _ _ dr⟩
theorem ca_sortedT {ds : List PyData} (so : SortOk X ds) : CaOk X (.builtin "sorted") [.d (.tuple ds)] (.ls (srt ds)) := fun H0 H w vs tr t Q q => by
  obtain ⟨v, rfl, t1⟩ := rts1 t
  obtain ⟨a, us, rfl, h, d⟩ := drT t1
  intro pins s σ ws I rv
  cases rv with
  | cons r0 rn =>
    cases rn
    cases r0
    obtain ⟨its, rv, ⟨o, ho, hc, n, hd⟩, hz⟩ := I.tuple h
    refine sorted_by (w := w) I so (fun E' R k => wpAny_collect_seq a (.inr rfl) ho hc hd (fun h' hk => ?_) (by rw [List.size_toArray, ← rv.length]; exact hz)) fun p vs n dr => ?_
    · exact k h' s.toks its us hk rv d
    · have sm : Same H (upd H p (.lst vs)) := same_upd n
      have st : StepE w H (ownT w p) (upd H p (.lst vs)) := sstep sm (ownT_old n)
      exact q _ _ (ownT w p) sm (ownT_old n) (ownT_tr tr) ⟨p, vs, rfl, n, ownT_at, upd_same, DRs.mv st.mv _ _ dr⟩

/-! ### dicts by tuples -/
def dictOf : R → Option (List (PyData × PyData))
  | .dc kvs => some kvs
  | .vd _ kvs => some kvs
  | _ => none
theorem RT.dict {P : Program} {W : World} {K : PySem.W.Frag} {H0 H : Hp} {w : Own} {v : V} {r : R} {kvs : List (PyData × PyData)} (h : RT P W K H0 H w v r) (e : dictOf r = some kvs) : ∃ p o, v = .ref p ∧ H p = some (DO p o) ∧ DE P W K H w p o kvs := by
  cases r with
  | dc ys => cases e; obtain ⟨p, o, e, _, _, hp, h⟩ := h; exact ⟨p, o, e, hp, h⟩
  | vd _ ys => cases e; obtain ⟨p, o, e, _, hp, h⟩ := h; exact ⟨p, o, e, hp, h⟩
  | _ => cases e
/-- the keys of a dict, as values and as data -/
theorem ent_keys {K : PySem.W.Frag} {H : Hp} {w : Own} {kvs : List (PyData × PyData)} {xs : List (NestedKey × Addr × Value)} (h : Paired (EntR K H w) xs kvs) : DRs K H w (xs.map fun x => V.ref x.2.1) (kvs.map (·.1)) := by
  induction h with
  | nil => exact .nil
  | cons hx _ ih => exact .cons hx.2.2.2.1 ih
theorem ca_sortedD (hc : X.calm = true) {ra : R} {kvs : List (PyData × PyData)} (e : dictOf ra = some kvs) (so : SortOk X (kvs.map (·.1))) : CaOk X (.builtin "sorted") [ra] (.ls (srt (kvs.map (·.1)))) := fun H0 H w vs tr t Q q => by
  obtain ⟨v, rfl, t1⟩ := rts1 t
  obtain ⟨a, o, rfl, hp, de⟩ := t1.dict e
  intro pins s σ ws I rv
  cases rv with
  | cons r0 rn =>
    cases rn
    cases r0
    have ho := do_get I.hok hp
    obtain ⟨h1, h2, xs, es, ep, h3, h4, h5, h6, h7⟩ := de
    have l1 : es.size = xs.length := size_of_entries h5
    have l2 : xs.length = kvs.length := Paired.length h7
    refine sorted_by (w := w) I so (fun E' R k => PySem.W.kdu_collect (A := X.A.in1) (kdl_raw (prog := X.prog) (w := X.w) h1 h3 h4) (I.ok.hd hc) ho (by omega) fun h' tk acc hk hacc => ?_) fun p vs n dr => ?_
    · refine k h' tk acc.toList (xs.map fun x => V.ref x.2.1) hk ?_ (ent_keys h7)
      have ea : acc.toList = xs.map fun x => Value.ref x.2.1 := by
        have la : acc.toList.length = xs.length := by rw [Array.length_toList, hacc.1]; exact l1
        apply List.ext_getElem?
        intro j
        by_cases hj : j < xs.length
        · have hja : j < acc.toList.length := by omega
          rw [List.getElem?_eq_getElem hja, List.getElem?_map, List.getElem?_eq_getElem hj]
          have g : acc[j]? = some acc.toList[j] := by rw [← Array.getElem?_toList, List.getElem?_eq_getElem hja]
          obtain ⟨en, hen, hv⟩ := hacc.2 j _ g
          have qe := entry_at h5 j
          rw [hen, List.getElem?_eq_getElem hj] at qe
          cases qe
          rw [hv]; rfl
        · rw [List.getElem?_eq_none (by omega), List.getElem?_map, List.getElem?_eq_none (by omega)]; rfl
      rw [ea]
      have gen : ∀ xs : List (NestedKey × Addr × Value), Vals (xs.map fun x => V.ref x.2.1) (xs.map fun x => Value.ref x.2.1) := by
        intro xs
        induction xs with
        | nil => exact .nil
        | cons x xs ih => exact .cons rfl ih
      exact gen xs
    · have sm : Same H (upd H p (.lst vs)) := same_upd n
      have st : StepE w H (ownT w p) (upd H p (.lst vs)) := sstep sm (ownT_old n)
      exact q _ _ (ownT w p) sm (ownT_old n) (ownT_tr tr) ⟨p, vs, rfl, n, ownT_at, upd_same, DRs.mv st.mv _ _ dr⟩
/-- a key: a tuple that may be hashed -/
structure KeyOk (k : PyData) : Prop where
  im : imm k = true
  dep : (keyOf k).depth ≤ 8
  tup : ∃ xs, k = .tuple xs
theorem KeyOk.is {pins : List (Addr × Obj)} {s : Shared} {σ : Sl} {H : Hp} {w : Own} {k : PyData} {v : V} {u : Value} (I : Inv X pins σ H s) (h : KeyOk k) (d : DR X.K H w v k) (r : RelV v u) : ∃ b, u = .ref b ∧ v = .ref b ∧ (nestedKind X.prog X.w).is s.heap (keyOf k) b := by
  obtain ⟨xs, rfl⟩ := h.tup
  obtain ⟨a, vs, rfl, _, _⟩ := drT d
  cases r
  exact ⟨a, rfl, rfl, DR.nested I _ _ _ h.im d rfl, h.dep⟩
theorem inD_ok (hu : X.A.units + 64 < cLine) : OpR X (compareOp .In) (fun x y H Q => ∃ w k p o kvs, KeyOk k ∧ DR X.K H w x k ∧ y = .ref p ∧ H p = some (DO p o) ∧ DE X.prog X.w X.K H w p o kvs ∧ Q (.bl (dget kvs k).isSome) H) := by
  intro pins s σ H x y v u Q I rx ry ⟨w, k, p, o, kvs, hk, dk, e, hp, de, q⟩
  subst e
  cases ry
  obtain ⟨b, rfl, _, his⟩ := hk.is I dk rx
  obtain ⟨xs, hm, pr, hz⟩ := de.dict I (do_get I.hok hp)
  refine wpAny_in_heap (by show X.A.units + 1 + 8 < cLine; omega) his de.sys hm ⟨.bl _, H, I.tok _, rfl, ?_⟩
  rw [← dget_isSome pr]
  exact q
theorem notInD_ok (hu : X.A.units + 64 < cLine) : OpR X (compareOp .NotIn) (fun x y H Q => ∃ w k p o kvs, KeyOk k ∧ DR X.K H w x k ∧ y = .ref p ∧ H p = some (DO p o) ∧ DE X.prog X.w X.K H w p o kvs ∧ Q (.bl (!(dget kvs k).isSome)) H) := by
  intro pins s σ H x y v u Q I rx ry ⟨w, k, p, o, kvs, hk, dk, e, hp, de, q⟩
  subst e
  cases ry
  obtain ⟨b, rfl, _, his⟩ := hk.is I dk rx
  obtain ⟨xs, hm, pr, hz⟩ := de.dict I (do_get I.hok hp)
  show wpAny _ _ (do return Value.bool (!(← contains (.ref p) (.ref b)))) _ _ s
  refine wpAny_bind (wpAny_contains_heap (by show X.A.units + 1 + 8 < cLine; omega) his de.sys hm (wpAny_pure ⟨.bl _, H, I.tok _, rfl, ?_⟩))
  rw [← dget_isSome pr]
  exact q
theorem op_inDict (hu : X.A.units + 64 < cLine) {rb : R} {k : PyData} {kvs : List (PyData × PyData)} (hk : KeyOk k) (e : dictOf rb = some kvs) : OpOk X (compareOp .In) (.d k) rb (.d (.bool (dget kvs k).isSome)) :=
  .of (inD_ok hu) fun H0 H w x y ha hb Q q => by
    obtain ⟨p, o, rfl, hp, de⟩ := hb.dict e
    exact ⟨w, k, p, o, kvs, hk, ha, rfl, hp, de, q _ (.bl _)⟩
theorem op_notInDict (hu : X.A.units + 64 < cLine) {rb : R} {k : PyData} {kvs : List (PyData × PyData)} (hk : KeyOk k) (e : dictOf rb = some kvs) : OpOk X (compareOp .NotIn) (.d k) rb (.d (.bool (!(dget kvs k).isSome))) :=
  .of (notInD_ok hu) fun H0 H w x y ha hb Q q => by
    obtain ⟨p, o, rfl, hp, de⟩ := hb.dict e
    exact ⟨w, k, p, o, kvs, hk, ha, rfl, hp, de, q _ (.bl _)⟩

/-- behind a change of the dict at p -/
theorem dict_write {pins : List (Addr × Obj)} {s : Shared} {σ : Sl} {H : Hp} {w : Own} {p : Addr} {o : Obj} {h' : Heap} {t' : Nat} {xs' : List (NestedKey × Addr × Value)} {kvs' : List (PyData × PyData)} (I : Inv X pins σ H s) (hp : H p = some (DO p o)) (hs : Heap.SameBut p s.heap h') (hm : h'.DictOfH (nestedKind X.prog X.w) p xs') (pr : Paired (EntR X.K H w) xs' kvs')
    (sys : (p == sysModules) = false) (hz : kvs'.length ≤ sizeLine) : ∃ o', Inv X pins σ (upd H p (DO p o')) { s with heap := h', toks := t' } ∧ ∀ w', Mv w H w' (upd H p (DO p o')) → DE X.prog X.w X.K (upd H p (DO p o')) w' p o' kvs' := by
  obtain ⟨o', es, ep, ho, h1, h2, h3, _, h5⟩ := hm
  exact ⟨o', d_write I (by rw [hp]; exact True.intro) hs ⟨o', ho⟩ (do_ok ho), fun w' m => ⟨sys, hz, xs', es, ep, h1, h2, h3, h5, L2.Paired.mapP pr fun _ _ q => q.mv m⟩⟩
end

section
variable {X : Cx} {rs rs1 rs2 rs' : List R} {pu pu1 pu2 : Bool}
/-- del d[k], d a name's own dict -/
theorem Ex.delD (i : Nat) {x : Str} {e : Expr} {kvs : List (PyData × PyData)} {k : PyData} {px tpos pos : Pos} (hi0 : rs[i]? = some (.dc kvs)) (he : Ev X pu rs e (.d k) rs) (hk : KeyOk k) (hd : (dget kvs k).isSome = true) (hu : X.A.units + 64 < cLine)
    (hN : X.N[i]? = some x) (hv : Vis X.env.scope x) (hd1 : (x == ("__debug__" : Str)) = false) (hcd : (x == ("__classdict__" : Str)) = false) : Ex X rs (.Delete [.Subscript (.Name x px) e tpos] pos) (.nx (rs.set i (.dc (ddel kvs k)))) := fun σ H w S D q => by
  refine PSc (st := .Delete [.Subscript (.Name x px) e tpos] pos) (t := fun D σ H => ∃ v, σ[i]? = some (some v) ∧ cT X e σ H fun y H2 => ∃ w p o, KeyOk k ∧ DR X.K H2 w y k ∧ v = .ref p ∧ H2 p = some (DO p o) ∧ DE X.prog X.w X.K H2 w p o kvs ∧ ∀ o', (∀ w', Mv w H2 w' (upd H2 p (DO p o')) → DE X.prog X.w X.K (upd H2 p (DO p o')) w' p o' (ddel kvs k)) → D.nx σ (upd H2 p (DO p o'))) ⟨fun pins s σ H D I h => ?_⟩ ?_
  · obtain ⟨v, ev, h⟩ := h
    refine wpAny_Delete (wpAny_deleteEach_cons (wpAny_delete_Subscript (thn ((pe_var (pos := px) hN hv hd1 hcd).run pins s σ H (fun u H1 => u = v ∧ H1 = H) I ⟨v, ev, rfl, rfl⟩) fun u s1 ⟨x, H1, I1, rx, q1⟩ => ?_)))
    obtain ⟨rfl, rfl⟩ := q1
    refine thn (h pins s1 I1) fun iv s2 ⟨y, H2, I2, ry, w, p, o, hk, dk, e1, hp, de, q2⟩ => ?_
    subst e1
    cases rx
    obtain ⟨b, rfl, _, his⟩ := hk.is I2 dk ry
    obtain ⟨xs, hm, pr, hz⟩ := de.dict I2 (do_get I2.hok hp)
    rcases atKey_dget pr k with ⟨_, h2⟩ | ⟨a, u, v', d', h1, h2, h3, h4⟩
    · rw [h2] at hd; cases hd
    · refine wpAny_delItem_heap (hsz := hz) (by show X.A.units + 1 + 8 < cLine; omega) his de.sys hm h1 fun h' hm' hs => ?_
      obtain ⟨o', I3, de'⟩ := dict_write (t' := s2.toks + (nestedKind X.prog X.w).draws (keyOf k)) I2 hp hs hm' (withoutH_ddel pr k) de.sys (Nat.le_trans (ddel_length _ _) de.len)
      exact wpAny_deleteEach_nil ⟨σ, _, I3, q2 o' de'⟩
  · obtain ⟨p, o, e0, o0, hp, de⟩ := S.at_ i _ hi0
    refine ⟨.ref p, joinOf e0, he σ H w S _ fun y H1 w1 S1 st1 t1 s1 => ?_⟩
    obtain ⟨p1, o1, e1, ow1, hp1, de1⟩ := S1.at_ i _ hi0
    rw [e0] at e1
    cases e1
    refine ⟨w1, p, o1, hk, t1, rfl, hp1, de1, fun o' de' => ?_⟩
    obtain ⟨S2, st2⟩ := S1.change (o' := DO p o') (r' := .dc (ddel kvs k)) ow1 hp1 True.intro fun m => ⟨p, o', e0, ow1, upd_same, de' w1 m⟩
    exact q _ _ w1 S2 (st1.trans st2).step
/-- d[k] = v -/
theorem Ex.putD (i : Nat) {x : Str} {e ev : Expr} {kvs : List (PyData × PyData)} {k y : PyData} {px tpos pos : Pos} (hv0 : Ev X pu rs ev (.d y) rs1) (hi0 : rs1[i]? = some (.dc kvs)) (he : Ev X pu1 rs1 e (.d k) rs1) (hk : KeyOk k) (hz0 : kvs.length < sizeLine) (hu : X.A.units + 64 < cLine)
    (hN : X.N[i]? = some x) (hv : Vis X.env.scope x) (hd1 : (x == ("__debug__" : Str)) = false) (hcd : (x == ("__classdict__" : Str)) = false) (hs : swapsWith ev (some (.Subscript (.Name x px) e tpos)) pos.line X.env = pure false) : Ex X rs (.Assign [.Subscript (.Name x px) e tpos] ev pos) (.nx (rs1.set i (.dc (dput kvs k y)))) := fun σ H w S D q => by
  refine PSc (st := .Assign [.Subscript (.Name x px) e tpos] ev pos) (t := fun D σ H => cT X ev σ H fun z H1 => ∃ v, σ[i]? = some (some v) ∧ cT X e σ H1 fun y1 H2 => ∃ w p o, KeyOk k ∧ DR X.K H2 w y1 k ∧ DR X.K H2 w z y ∧ v = .ref p ∧ H2 p = some (DO p o) ∧ DE X.prog X.w X.K H2 w p o kvs ∧ ∀ o', (∀ w', Mv w H2 w' (upd H2 p (DO p o')) → DE X.prog X.w X.K (upd H2 p (DO p o')) w' p o' (dput kvs k y)) → D.nx σ (upd H2 p (DO p o'))) ⟨fun pins s σ H D I h => ?_⟩ ?_
  · refine wpAny_Assign_Subscript (thn (h pins s I) fun r s0 ⟨z, H0, I0, rz, v, ev, h⟩ => ?_) hs
    refine thn ((pe_var (pos := px) hN hv hd1 hcd).run pins s0 σ H0 (fun u H1 => u = v ∧ H1 = H0) I0 ⟨v, ev, rfl, rfl⟩) fun u s1 ⟨x, H1, I1, rx, q1⟩ => ?_
    obtain ⟨rfl, rfl⟩ := q1
    refine thn (h pins s1 I1) fun iv s2 ⟨y1, H2, I2, ry, w, p, o, hk, dk, dz, e1, hp, de, q2⟩ => ?_
    subst e1
    cases rx
    obtain ⟨b, rfl, e3, his⟩ := hk.is I2 dk ry
    subst e3
    obtain ⟨xs, hm, pr, hz⟩ := de.dict I2 (do_get I2.hok hp)
    refine wpAny_setItem_heap (hsz := hz) (by show X.A.units + 1 + 8 < cLine; omega) his hm fun h' hm' hs => ?_
    obtain ⟨o', I3, de'⟩ := dict_write (t' := s2.toks + (nestedKind X.prog X.w).draws (keyOf k)) I2 hp hs hm' (storedH_dput pr hk.im hk.dep dk rz dz) de.sys (by have := dput_length kvs k y; omega)
    exact ⟨σ, _, I3, q2 o' de'⟩
  · refine hv0 σ H w S _ fun z H1 w1 S1 st1 t1 s1 => ?_
    obtain ⟨p, o, e0, o0, hp, de⟩ := S1.at_ i _ hi0
    refine ⟨.ref p, joinOf e0, he σ H1 w1 S1 _ fun y1 H2 w2 S2 st2 t2 s2 => ?_⟩
    obtain ⟨p1, o1, e1, ow1, hp1, de1⟩ := S2.at_ i _ hi0
    rw [e0] at e1
    cases e1
    refine ⟨w2, p, o1, hk, t2, DR.mv st2.mv _ _ t1, rfl, hp1, de1, fun o' de' => ?_⟩
    obtain ⟨S3, st3⟩ := S2.change (o' := DO p o') (r' := .dc (dput kvs k y)) ow1 hp1 True.intro fun m => ⟨p, o', e0, ow1, upd_same, de' w2 m⟩
    exact q _ _ w2 S3 ((st1.trans st2).trans st3).step
end
end Ab

namespace Ab
open PySem PySem.Spec PyProof.Rows L2

/-! ### dict(list of pairs) -/
def pairD (kv : PyData × PyData) : PyData := .tuple [kv.1, kv.2]
def mergeD (acc ps : List (PyData × PyData)) : List (PyData × PyData) := ps.foldl (fun acc kv => dput acc kv.1 kv.2) acc
theorem mergeD_length : ∀ (ps acc : List (PyData × PyData)), (mergeD acc ps).length ≤ acc.length + ps.length
  | [], acc => by simp [mergeD]
  | p :: ps, acc => by
    have h1 := mergeD_length ps (dput acc p.1 p.2)
    have h2 := dput_length acc p.1 p.2
    show (mergeD (dput acc p.1 p.2) ps).length ≤ _
    rw [List.length_cons]; omega
section
variable {X : Cx}
theorem merge_ent {K : PySem.W.Frag} {H : Hp} {w : Own} : ∀ {xs acc : List (NestedKey × Addr × Value)} {ps kvs : List (PyData × PyData)}, Paired (EntR K H w) acc kvs → Paired (EntR K H w) xs ps → Paired (EntR K H w) (storedAllH acc xs) (mergeD kvs ps)
  | [], _, [], _, h, _ => h
  | x :: xs, acc, p :: ps, kvs, h, .cons hx hr => by
    obtain ⟨h1, h2, h3, h4, v, h5, h6⟩ := hx
    have e : storedAllH acc (x :: xs) = storedAllH (storedH acc (keyOf p.1) x.2.1 x.2.2) xs := by
      show List.foldl _ _ _ = List.foldl _ _ _
      rw [← h1]; rfl
    rw [e]
    show Paired _ _ (mergeD (dput kvs p.1 p.2) ps)
    exact merge_ent (storedH_dput h h2 h3 h4 h5 h6) hr
/-- the pairs of a list, as the library wants them -/
theorem pairs_read {pins : List (Addr × Obj)} {s : Shared} {σ : Sl} {H : Hp} {w : Own} (I : Inv X pins σ H s) : ∀ {ps : List (PyData × PyData)} {vs : List V} {us : List Value}, (∀ kv ∈ ps, KeyOk kv.1) → DRs X.K H w vs (ps.map pairD) → Vals vs us →
    ∃ (xs : List (NestedKey × Addr × Value)) (Ts : List Addr), Paired (EntR X.K H w) xs ps ∧ us = Ts.map Value.ref ∧ Ts.length = ps.length ∧ ∀ (j : Nat) (x : NestedKey × Addr × Value), xs[j]? = some x → ∃ t, Ts[j]? = some t ∧ s.heap.IsTuple t #[.ref x.2.1, x.2.2]
  | [], _, _, _, h, r => by
    rw [List.map_nil] at h
    cases h; cases r
    exact ⟨[], [], .nil, rfl, rfl, fun j x e => by simp at e⟩
  | p :: ps, vs, us, hk, h, r => by
    rw [List.map_cons] at h
    cases h with
    | cons h1 h2 =>
      cases r with
      | cons r1 r2 =>
        obtain ⟨xs, Ts, a1, a2, a3, a4⟩ := pairs_read I (fun kv m => hk kv (List.mem_cons_of_mem _ m)) h2 r2
        obtain ⟨t, ws, rfl, sq, dw⟩ := drT h1
        cases r1
        obtain ⟨its, rv, it, _⟩ := I.tuple sq
        cases dw with
        | cons dk dw2 =>
          cases dw2 with
          | cons dv dw3 =>
            cases dw3
            cases rv with
            | cons rk rv2 =>
              cases rv2 with
              | cons rvv rv3 =>
                cases rv3
                obtain ⟨xk, hxk⟩ := (hk p List.mem_cons_self).tup
                have ko := hk p List.mem_cons_self
                obtain ⟨b, rfl, rfl, _⟩ := ko.is I dk rk
                refine ⟨(keyOf p.1, b, _) :: xs, t :: Ts, .cons ⟨rfl, ko.im, ko.dep, dk, _, rvv, dv⟩ a1, by rw [a2]; rfl, by simp [a3], fun j x e => ?_⟩
                cases j with
                | zero => cases e; exact ⟨t, rfl, it⟩
                | succ j => exact a4 j x (by simpa using e)
theorem ca_dictL (hc : X.calm = true) (hu : X.A.units + 64 < cLine) {ra : R} {ps : List (PyData × PyData)} (e : seqOf ra = some (ps.map pairD)) (hk : ∀ kv ∈ ps, KeyOk kv.1) : CaOk X (.type "dict") [ra] (.dc (mergeD [] ps)) := fun H0 H w vs tr t Q q => by
  obtain ⟨v, rfl, t1⟩ := rts1 t
  obtain ⟨a, us, rfl, h, d⟩ := t1.seq e
  intro pins s σ ws I rv
  cases rv with
  | cons r0 rn =>
    cases rn
    cases r0
    obtain ⟨its, rv, pl, hz⟩ := I.list h
    obtain ⟨xs, Ts, a1, a2, a3, a4⟩ := pairs_read I hk d rv
    have lx : xs.length = ps.length := Paired.length a1
    have li : its.length = ps.length := by rw [a2, List.length_map, a3]
    have hps : ps.length ≤ sizeLine := by rw [← li, ← rv.length]; exact hz
    have key := PairArg.list (prog := X.prog) (w := X.w) a its.toArray (fun j => Ts.getD j 0) (xs.map fun x => (Value.ref x.2.1, x.2.2))
    have ok : PlainSeq "list" s.heap a its.toArray ∧ PairItems s.heap its.toArray (fun j => Ts.getD j 0) (xs.map fun x => (Value.ref x.2.1, x.2.2)) := by
      refine ⟨pl, ⟨by rw [List.size_toArray, List.length_map]; omega, fun j k v hj => ?_⟩⟩
      rw [List.getElem?_map] at hj
      cases ex : xs[j]? with
      | none => rw [ex] at hj; cases hj
      | some x =>
        rw [ex] at hj
        cases hj
        obtain ⟨t, ht, hit⟩ := a4 j x ex
        have eT : Ts.getD j 0 = t := by rw [List.getD_eq_getElem?_getD, ht]; rfl
        show its.toArray[j]? = some (Value.ref (Ts.getD j 0)) ∧ PairAt s.heap (Ts.getD j 0) _ _
        rw [eT]
        exact ⟨by simp [a2, ht], .inl hit⟩
    have nd : (nestedKind X.prog X.w).room X.A.in1.in1 := by show X.A.units + 1 + 1 + 8 < cLine; omega
    have stay : ∀ h', (∀ b o, b ≠ s.heap.objs.size → b ∉ ([] : List Addr) → s.heap.get? b = some o → h'.get? b = some o) → ∀ x ∈ xs, (nestedKind X.prog X.w).is h' x.1 x.2.1 := fun h' hk' x hx => by
      have I' : Inv X pins σ H { s with heap := h' } := I.kept (t' := s.toks) fun b o e => hk' b o (Nat.ne_of_lt (Heap.lt_size e)) (by simp) e
      have gen : ∀ {xs ps}, Paired (EntR X.K H w) xs ps → x ∈ xs → (nestedKind X.prog X.w).is h' x.1 x.2.1 := by
        intro xs ps p
        induction p with
        | nil => intro m; cases m
        | cons hy _ ih =>
          intro m
          rcases List.mem_cons.mp m with rfl | m
          · rw [hy.1]; exact ⟨DR.nested I' _ _ _ hy.2.1 hy.2.2.2.1 rfl, hy.2.2.1⟩
          · exact ih m
      exact gen a1 hx
    refine call_dict_pairsH (knd := nestedKind X.prog X.w) (ps := xs) key (I.ok.hd hc) nd ok ⟨by rw [List.length_map], fun i k v hr => ?_⟩ stay (by rw [List.length_map]; omega) fun h' tk hd' hk' => ?_
    · have hr' : (xs.map fun x => (Value.ref x.2.1, x.2.2))[i]? = some (k, v) := hr
      rw [List.getElem?_map] at hr'
      cases ex : xs[i]? with
      | none => rw [ex] at hr'; cases hr'
      | some x =>
        rw [ex] at hr'
        cases hr'
        exact ⟨x.1, x.2.1, rfl, rfl⟩
    · obtain ⟨o', es, ep, ho, h1, h2, h3, _, h5⟩ := hd'
      have hm : (s.heap.objs.size == sysModules) = false := beq_eq_false_iff_ne.mpr (Nat.ne_of_gt I.big)
      have n : H s.heap.objs.size = none := I.hok.fresh (Nat.le_refl _)
      have sm : Same H (upd H s.heap.objs.size (DO s.heap.objs.size o')) := same_upd n
      have st : StepE w H (ownT w s.heap.objs.size) (upd H s.heap.objs.size (DO s.heap.objs.size o')) := sstep sm (ownT_old n)
      have hl : (mergeD [] ps).length ≤ sizeLine := by have := mergeD_length ps []; simp at this; omega
      refine ⟨.ref s.heap.objs.size, _, I.laid (a := s.heap.objs.size) (o := DO s.heap.objs.size o') (t' := tk) (fun b o e => hk' b o (by simp) e) (Nat.le_refl _) (do_ok ho), rfl, ?_⟩
      exact q _ _ (ownT w s.heap.objs.size) sm (ownT_old n) (ownT_tr tr) ⟨_, o', rfl, n, ownT_at, upd_same, hm, hl, _, es, ep, h1, h2, h3, h5, L2.Paired.mapP (merge_ent .nil a1) fun _ _ z => z.mv st.mv⟩
end

section
variable {X : Cx} {rs rs1 rs2 rs' : List R} {pu pu1 pu2 pp : Bool}
/-- d.pop(k) of a name's own dict, k there; its value is not looked at -/
theorem Ev.popD (i : Nat) {x : Str} {e : Expr} {kvs : List (PyData × PyData)} {k : PyData} {px apos cpos : Pos} (hi0 : rs[i]? = some (.dc kvs)) (he : Ev X pu rs e (.d k) rs) (hk : KeyOk k) (hd : (dget kvs k).isSome = true) (hu : X.A.units + 64 < cLine)
    (hN : X.N[i]? = some x) (hv : Vis X.env.scope x) (hd1 : (x == ("__debug__" : Str)) = false) (hcd : (x == ("__classdict__" : Str)) = false)
    (hst : starEach (e :: []) X.env = (false, eval e X.env) :: starEach [] X.env)
    (hbase : attributeBase (.Name x px) "pop" X.env (eval (.Name x px) X.env) = eval (.Name x px) X.env)
    (hfew : ((backTo cpos (starEach (e :: []) X.env)).all (fun x => !x.1) && (backToKw cpos (keywordEach [] X.env)).all (fun x => x.1.isSome)
      && decide ((e :: []).length + ([] : List Keyword).length + (if ([] : List Keyword).isEmpty then 0 else 1) < 30)) = true)
    (hline : (apos.endLine == cpos.line) = true) (hplain : (backTo cpos (starEach [] X.env)).any (·.1) = false) : Ev X false rs (.Call (.Attribute (.Name x px) "pop" apos) [e] [] cpos) .un (rs.set i (.dc (ddel kvs k))) := fun σ H w S Q q => by
  obtain ⟨p, o, e0, o0, hp, de⟩ := S.at_ i _ hi0
  intro pins s I
  refine wpAny_Call_method_late hbase hfew hline rfl (thn ((pe_var (pos := px) hN hv hd1 hcd).run pins s σ H (fun u H1 => u = .ref p ∧ H1 = H) I ⟨.ref p, joinOf e0, rfl, rfl⟩) fun u s1 ⟨v, H1, I1, rx, q1⟩ => ?_)
  obtain ⟨rfl, rfl⟩ := q1
  cases rx
  obtain ⟨xs0, hm0, _, _⟩ := de.dict I1 (do_get I1.hok hp)
  obtain ⟨ob, es, ep, hob, hex, _⟩ := id hm0
  refine ⟨"dict", "dict.pop", PySem.F.plainAttrs_dict, PySem.F.slot_dict_pop, PySem.F.type_dict_pop, hm0.typeIs, (fun a ea => by cases ea; exact ⟨ob, hob, hex.2.1⟩), ?_⟩
  have hA : wpAny (model X.prog X.w) X.A (spliced (backTo cpos (starEach [e] X.env))) (AP X pins σ fun vs H2 => ∃ y w2, vs = [y] ∧ RSx X H2 w2 σ rs ∧ StepE w H1 w2 H2 ∧ DR X.K H2 w2 y k) X.xe s1 :=
    (pa_cons cT_ok pa_nil hst).run cpos pins s1 σ H1 _ I1 (he σ H1 w S _ fun y H2 w2 S2 st2 t2 s2 => ⟨y, w2, rfl, S2, st2, t2⟩)
  rw [hst] at hA ⊢
  refine Calls.callWith_builtin (by show (false || (backTo cpos (starEach [] X.env)).any (·.1)) = false; rw [hplain] <;> rfl) (Calls.evalArgs_plain ?_)
  refine thn hA fun us s2 ⟨vs, H2, I2, r2, y, w2, ey, S2, st2, dk⟩ => ?_
  subst ey
  cases r2 with
  | cons ry rn =>
    cases rn
    obtain ⟨p2, o2, e2, ow2, hp2, de2⟩ := S2.at_ i _ hi0
    rw [e0] at e2
    cases e2
    obtain ⟨b, rfl, _, his⟩ := hk.is I2 dk ry
    obtain ⟨xs, hm, pr, hz⟩ := de2.dict I2 (do_get I2.hok hp2)
    rcases atKey_dget pr k with ⟨_, h2⟩ | ⟨a, u, v', d', h1, h2, h3, h4⟩
    · rw [h2] at hd; cases hd
    · refine call_pop_heap (hsz := hz) (more := []) (.inl rfl) (PySem.F.args_dict_pop_2 _ _) (by show X.A.units + 1 + 8 < cLine; omega) his de2.sys hm h1 fun h' hm' hs => ?_
      obtain ⟨o', I3, de'⟩ := dict_write (t' := s2.toks + (nestedKind X.prog X.w).draws (keyOf k)) I2 hp2 hs hm' (withoutH_ddel pr k) de2.sys (Nat.le_trans (ddel_length _ _) de2.len)
      obtain ⟨S3, st3⟩ := S2.change (o' := DO p o') (r' := .dc (ddel kvs k)) ow2 hp2 True.intro fun m => ⟨p, o', e0, ow2, upd_same, de' w2 m⟩
      exact ⟨v', _, I3, h3, q v' _ w2 S3 (st2.trans st3) trivial fun e => nomatch e⟩

/-! ### dict comprehensions, the keys tuples -/
/-- a value stored under a key in the new dict at D -/
def stD (X : Cx) (D : Addr) (y z : V) (H : Hp) (Nx : Hp → Prop) : Prop :=
  ∃ w k d o kvs, KeyOk k ∧ DR X.K H w y k ∧ DR X.K H w z d ∧ H D = some (DO D o) ∧ DE X.prog X.w X.K H w D o kvs ∧ kvs.length < sizeLine ∧
    ∀ o', (∀ w', Mv w H w' (upd H D (DO D o')) → DE X.prog X.w X.K (upd H D (DO D o')) w' D o' (dput kvs k d)) → Nx (upd H D (DO D o'))
def tDx (X : Cx) (wi : TI) (g : TG) (tt : TT) (tk tv : TE) (vs : List Nat) : TE := fun σ H Q => wi σ H fun J H1 => ∀ D, H1 D = none → ∀ o0, (∀ w1 : Own, DE X.prog X.w X.K (upd H1 D (DO D o0)) w1 D o0 []) → ∃ W : Nat → Nat → Hp → Prop, (∃ m, W 0 m (upd H1 D (DO D o0))) ∧
  ∀ i m H, W i m H → (J.stop i H ∧ Q (.ref D) H) ∨ (J.go i H ∧ ∃ Nx : Hp → Prop, (∀ H', Nx H' → ∃ m', m' < m ∧ W (i + 1) m' H') ∧
    ∀ x H', J.yld i H x H' → g x (L2.wipe σ vs) H' fun σ2 H2 => L2.wipe σ2 vs = L2.wipe σ vs ∧ tt σ2 H2 fun b H3 => if b = true then tk σ2 H3 fun y H4 => tv σ2 H4 fun z H5 => stD X D y z H5 Nx else Nx H3)
theorem dx_core {pins : List (Addr × Obj)} {s : Shared} {σ : Sl} {H : Hp} {Q : VK} {kx vx tg iter : Expr} {ifs : List Expr} {scope : Scope} {own : List (Str × Nat)} {pos pos' : Pos} {wi : TI} {g : TG} {tt : TT} {tk tv : TE} {use : Option (Value → Sem Unit)} {Qf : Value → Shared → Prop}
    (ok : LcOk X scope own) (hu : X.A.units + 64 < cLine) (I : Inv X pins σ H s) (hi : PI X tg iter wi)
    (hg : AllB X scope fun B => PG B tg g) (ht : AllB X scope fun B => PTs B ifs tt) (hk : AllB X scope fun B => PE B kx tk) (he : AllB X scope fun B => PE B vx tv) (hs : ∀ x, foldedSetIterable iter X.env x = pure x)
    (h : tDx X wi g tt tk tv (own.map (·.2)) σ H Q)
    (hEnd : ∀ D C s' m H', Inv X pins σ H' s' → Q (.ref D) H' → s'.heap.Ns C m → FpOk X pins H' C → compPost (model X.prog X.w) X.A X.xe use Qf (.ref D) C (.ok .next) s') :
    wpAny (model X.prog X.w) X.A (comprehension (.DictComp kx vx [⟨tg, iter, ifs, 0⟩] scope pos) scope X.env pos' newDict false (eval iter X.env) use) Qf X.xe s := by
  have free : ∀ y ∈ scope.names, y.2 = .free → ∃ c, X.env.cells.lookup y.1 = some c := by
    intro y hy e
    rcases ok.blk.free y hy e with k | k <;> exact I.ok.has _ (by simp [Env.kindOf, k])
  refine wpAny_comprehension_free (use := use) rfl hs (closure_ok free) ok.blk.kind (fun y hy e => by rw [ok.blk.uniq y hy, e])
    (thn (hi.run pins s σ H _ I h) fun xv u1 hx => thn hx fun itv u2 walk => ?_)
  obtain ⟨it, fp, tn, J, Hb, rfl, Ib, T, stb, fb, qb⟩ := walk
  refine wpAny_newObj_type (newEnv_comp ?_)
  generalize eD : u2.heap.objs.size = D
  have nD : Hb D = none := Ib.hok.fresh (Nat.le_of_eq eD)
  have nSys : (D == sysModules) = false := by rw [← eD]; exact beq_eq_false_iff_ne.mpr (Nat.ne_of_gt Ib.big)
  obtain ⟨W, ⟨m0, start0⟩, turn⟩ := qb D nD { cls := .type "dict", data := .dict #[] } fun _ => ⟨nSys, Nat.zero_le _, [], #[], _, ⟨rfl, rfl, rfl⟩, rfl, rfl, .nil, .nil⟩
  generalize eu : ({ u2 with heap := u2.heap.push { cls := .type "dict", data := .dict #[] } } : Shared) = u3
  have hu3 : u3.heap = u2.heap.push { cls := .type "dict", data := .dict #[] } := by rw [← eu]
  have I3 : Inv X pins σ (upd Hb D (DO D { cls := .type "dict", data := .dict #[] })) u3 := by
    rw [← eu]
    exact Ib.laid (t' := u2.toks) (fun b o e => Heap.get?_push_of_some _ e) (Nat.le_of_eq eD) (do_ok (by rw [← eD]; exact Heap.get?_push_size _ rfl))
  have older : ∀ b ∈ fp, b < u2.heap.objs.size := by
    intro b hb
    obtain ⟨o, e, _⟩ := T.obj _ _ stb b hb
    exact Heap.lt_size e
  generalize eH : upd Hb D (DO D { cls := .type "dict", data := .dict #[] }) = Hc at I3 start0
  have fc : ∀ b ∈ fp, FpOk X pins Hc b ∧ b < u3.heap.objs.size := by
    intro b hb
    have lt := older b hb
    refine ⟨⟨?_, (fb b hb).2⟩, by rw [hu3, Heap.size_push]; exact Nat.lt_succ_of_lt lt⟩
    rw [← eH, upd_ne (Nat.ne_of_lt (Nat.lt_of_lt_of_eq lt eD))]
    exact (fb b hb).1
  have st3 : tn 0 u3.heap := T.keep _ _ _ stb fun b _ o e => by rw [hu3]; exact Heap.get?_push_of_some _ e
  have I4 := block_start I3 ok.blk ok.nd fc
  have cells := cellsFrom (u3.heap.objs.size + 1) scope.names (cloFrom X.env.cells scope.names [])
  show codeAny _ _ (.compStart (.DictComp kx vx [⟨tg, iter, ifs, 0⟩] scope pos) 0 (.ref it) (.ref D) (compEnvC scope (cellsFrom (u3.heap.objs.size + 1) scope.names (cloFrom X.env.cells scope.names [])) u3.heap.objs.size X.env))
    (compPost (model X.prog X.w) X.A X.xe use Qf (.ref D) u3.heap.objs.size) { u3 with heap := pushCells (u3.heap.push { cls := .type "dict", data := .dict #[] }) scope.names }
  have pg := hg u3 Hc u3.heap.objs.size (cellsFrom (u3.heap.objs.size + 1) scope.names (cloFrom X.env.cells scope.names [])) fp
  have pt := ht u3 Hc u3.heap.objs.size (cellsFrom (u3.heap.objs.size + 1) scope.names (cloFrom X.env.cells scope.names [])) fp
  have pk := hk u3 Hc u3.heap.objs.size (cellsFrom (u3.heap.objs.size + 1) scope.names (cloFrom X.env.cells scope.names [])) fp
  have pv := he u3 Hc u3.heap.objs.size (cellsFrom (u3.heap.objs.size + 1) scope.names (cloFrom X.env.cells scope.names [])) fp
  generalize ece : compEnvC scope (cellsFrom (u3.heap.objs.size + 1) scope.names (cloFrom X.env.cells scope.names [])) u3.heap.objs.size X.env = ce at I4 pg pt pk pv ⊢
  have locs : ce.locals = u3.heap.objs.size := by rw [← ece]; rfl
  have none3 : ∀ b ∈ fp, Hc b = none := fun b hb => (fc b hb).1.1
  generalize eu4 : ({ u3 with heap := pushCells (u3.heap.push { cls := .type "dict", data := .dict #[] }) scope.names } : Shared) = u4 at I4 ⊢
  have st4 : tn 0 u4.heap := T.keep _ _ _ st3 fun b _ o e => by rw [← eu4]; exact pushCells_keeps _ _ _ _ (Heap.get?_push_of_some _ e)
  have stays : ∀ {σ' : Sl} {H' : Hp} {s' : Shared}, Inv (X.blk u3 Hc scope ce fp) [] σ' H' s' → (∀ b ∈ fp, H' b = none) → ∀ b ∈ fp, FpOk (X.blk u3 Hc scope ce fp) [] H' b := by
    intro σ' H' s' I' hn b hb
    refine ⟨hn b hb, (I'.ok.exf b hb).1, I'.ok.exfs b hb, .inl hb, fun x c e => (I'.ok.exf b hb).2 x c e, fun p hp => ?_⟩
    simp at hp
  have loop : codeAny (model X.prog X.w) X.A (.compLoop (.DictComp kx vx [⟨tg, iter, ifs, 0⟩] scope pos) 0 (.ref it) (.ref D) ce) (compPost (model X.prog X.w) X.A X.xe use Qf (.ref D) u3.heap.objs.size) u4 := by
    refine compLoop_anyD (fun n s' => ∃ i H', Inv (X.blk u3 Hc scope ce fp) [] (L2.wipe σ (own.map (·.2))) H' s' ∧ tn i s'.heap ∧ (∀ b ∈ fp, H' b = none) ∧ W i n H') ?_ m0 ⟨0, Hc, I4, st4, none3, start0⟩
    rintro n u5 ⟨i, H5, I5, st5, n5, w5⟩
    rcases turn i n H5 w5 with ⟨stop, qq⟩ | ⟨go, Nx, hNx, step⟩
    · refine thnF (T.done (X.blk u3 Hc scope ce fp) rfl rfl rfl ok.calm i [] u5 _ H5 (fun _ _ => False) I5 (stays I5 n5) st5 stop) fun r u6 ⟨hr, I6⟩ => ?_
      subst hr
      have I7 : Inv X pins σ H5 u6 := by
        refine I3.call' (ch := fp) I6.os I6.base I6.hok I6.bare fun b hb => ?_
        obtain ⟨_, g1, g2, g3, g4, g5⟩ := (fc b hb).1
        exact ⟨g3, g1, g4, g5⟩
      have nC : H5 u3.heap.objs.size = none := by have z : H5 ce.locals = none := I6.free; rwa [locs] at z
      obtain ⟨m, hn, _⟩ := I6.loc
      have hn : u6.heap.Ns ce.locals m := hn
      rw [locs] at hn
      exact hEnd D u3.heap.objs.size u6 m H5 I7 qq hn (I3.fpOk (Nat.le_refl _) nC)
    · refine thnF (T.item (X.blk u3 Hc scope ce fp) rfl rfl rfl ok.calm i [] u5 _ H5 (fun _ _ => False) I5 (stays I5 n5) st5 go) fun r u6 ⟨u, hr, h6⟩ => ?_
      subst hr
      refine thnF h6 fun _ u7 ⟨x, H7, I7, r7, y7, st7, n7⟩ => ?_
      have I7' := I7.pinned (stays I7 n7) (T.obj _ _ st7)
      refine thnF (pg.run _ u7 _ H7 x u _ I7' r7 (step x H7 y7)) fun _ u8 ⟨σ8, H8, I8, hw8, q8⟩ => ?_
      refine thnF (pt.run _ u8 σ8 H8 _ I8 q8) fun b u9 ⟨H9, I9, q9⟩ => ?_
      have again : ∀ {s' : Shared} {H' : Hp}, Inv (X.blk u3 Hc scope ce fp) ([] ++ pinsAt fp u7.heap) σ8 H' s' → Nx H' → ∃ m, m < n ∧ ∃ i H', Inv (X.blk u3 Hc scope ce fp) [] (L2.wipe σ (own.map (·.2))) H' s' ∧ tn i s'.heap ∧ (∀ b ∈ fp, H' b = none) ∧ W i m H' := by
        intro s' H' I' nx
        obtain ⟨m', hm, w'⟩ := hNx H' nx
        have pinned : ∀ b ∈ fp, ∀ o, u7.heap.get? b = some o → s'.heap.get? b = some o ∧ H' b = none := fun b hb o e => by
          have z := I'.pin (b, o) (List.mem_append_right _ (List.mem_append_right _ (mem_pinsAt hb e)))
          exact ⟨z.1, z.2.1⟩
        refine ⟨m', hm, i + 1, H', (I'.unpinned (pins := [])).weak (by rw [← hw8, wipe_length]) (fun j v e => ?_), T.keep _ _ _ st7 fun b hb o e => (pinned b hb o e).1, fun b hb => ?_, w'⟩
        · rw [← hw8] at e
          exact (wipe_some e).1
        · obtain ⟨o, e, _⟩ := T.obj _ _ st7 b hb
          exact (pinned b hb o e).2
      cases b with
      | false =>
        rw [if_neg Bool.false_ne_true] at q9 ⊢
        exact again I9 q9
      | true =>
        rw [if_pos rfl] at q9 ⊢
        refine thnF (pk.run _ u9 σ8 H9 _ I9 q9) fun z u10 ⟨yk, H10, I10, r10, q10⟩ => ?_
        refine thnF (pv.run _ u10 σ8 H10 _ I10 q10) fun z2 u11 ⟨yv, H11, I11, r11, w, k, d, o, kvs, hk, dk, dd, hD, de, hz, nx⟩ => ?_
        obtain ⟨bk, rfl, ey, his⟩ := KeyOk.is (X := X.blk u3 Hc scope ce fp) I11 hk dk r10
        subst ey
        obtain ⟨xs, hm, pr, hzx⟩ := DE.dict (X := X.blk u3 Hc scope ce fp) I11 (do_get I11.hok hD) de
        refine wpAny_dictSet_heap (hsz := hzx) (by show X.A.units + 8 < cLine; omega) his hm fun h' hm' hs => ?_
        obtain ⟨o', I12, de'⟩ := dict_write (X := X.blk u3 Hc scope ce fp) (t' := u11.toks + (nestedKind X.prog X.w).draws (keyOf k)) I11 hD hs hm' (storedH_dput pr hk.im hk.dep dk r11 dd) de.sys (by have := dput_length kvs k d; omega)
        exact again I12 (nx o' de')
  exact codeAny_compStart_dict loop (T.self X.A 0 _ _ _ st4 loop)
theorem pe_dx {kx vx tg iter : Expr} {ifs : List Expr} {scope : Scope} {own : List (Str × Nat)} {pos : Pos} {wi : TI} {g : TG} {tt : TT} {tk tv : TE} (ok : LcOk X scope own) (hu : X.A.units + 64 < cLine) (hi : PI X tg iter wi)
    (hg : AllB X scope fun B => PG B tg g) (ht : AllB X scope fun B => PTs B ifs tt) (hk : AllB X scope fun B => PE B kx tk) (he : AllB X scope fun B => PE B vx tv) (hs : ∀ x, foldedSetIterable iter X.env x = pure x) :
    PE X (.DictComp kx vx [⟨tg, iter, ifs, 0⟩] scope pos) (tDx X wi g tt tk tv (own.map (·.2))) := by
  constructor
  intro pins s σ H Q I h
  rw [arm_eval_DictComp]
  refine dx_core ok hu I hi hg ht hk he hs h fun D C s' m H' I' q hn f => ⟨m, hn, fun h'' sb => ?_⟩
  obtain ⟨f0, f1, f2, f3, f4, f5⟩ := f
  refine ⟨.ref D, H', I'.turned (t' := s'.toks) ?_ f0 f1 f3 f4 f5, rfl, q⟩
  exact fun b o hb e => (sb.2 b hb).trans e
/-- name = {..} on one line, the name a local -/
theorem ps_setDx {i : Nat} {y : Str} {py : Pos} {kx vx tg iter : Expr} {ifs : List Expr} {scope : Scope} {own : List (Str × Nat)} {pos spos : Pos} {wi : TI} {g : TG} {tt : TT} {tk tv : TE} (ok : LcOk X scope own) (hu : X.A.units + 64 < cLine) (hy : X.N[i]? = some y) (hyl : X.env.scope.names.lookup y = some .local)
    (hsw : swapsWith (.DictComp kx vx [⟨tg, iter, ifs, 0⟩] scope pos) (some (.Name y py)) spos.line X.env = pure true) (hi : PI X tg iter wi)
    (hg : AllB X scope fun B => PG B tg g) (ht : AllB X scope fun B => PTs B ifs tt) (hk : AllB X scope fun B => PE B kx tk) (he : AllB X scope fun B => PE B vx tv) (hs : ∀ x, foldedSetIterable iter X.env x = pure x) :
    PS X (.Assign [.Name y py] (.DictComp kx vx [⟨tg, iter, ifs, 0⟩] scope pos) spos) (tAsg (tDx X wi g tt tk tv (own.map (·.2))) (gName i)) := by
  constructor
  intro pins s σ H D I h
  rw [exec_Assign_Name_used _ _ _ _ hsw]
  refine wpAny_bind (wpAny_standAt (wpAny_bind ?_))
  have h : tDx X wi g tt tk tv (own.map (·.2)) σ H (fun x H1 => gName i x σ H1 D.nx) := h
  show wpAny _ X.A (do let _ ← comprehension (.DictComp kx vx [⟨tg, iter, ifs, 0⟩] scope pos) scope X.env (firstIterPos [⟨tg, iter, ifs, 0⟩] pos) newDict false (eval iter X.env) (some (assign (.Name y py) X.env))) _ _ s
  refine wpAny_bind (thn (dx_core (Qf := fun _ s' => SP X pins D .next s') ok hu I hi hg ht hk he hs h fun L C s' m H' I' q hn f => ?_) fun _ s' hq => wpAny_pure (wpAny_pure hq))
  show wpAny _ _ (assign (.Name y py) X.env (.ref L)) _ _ _
  refine wpAny_assign_Name (store_ok2 (v := V.ref L) I' ok.nd hy (.inl hyl) rfl (fun s2 I2 ⟨a, sb, ha⟩ => ?_) (.inr hyl))
  obtain ⟨f0, f1, f2, f3, f4, f5⟩ := f
  have other : C ≠ a := by
    rcases ha with z | z
    · rw [z]; exact f1
    · intro e; exact f4 y a z e.symm
  exact ⟨m, hn.sameBut sb other, fun h3 sb3 => ⟨_, H', I2.turned (t' := s2.toks) (fun b o hb e => (sb3.2 b hb).trans e) f0 f1 f3 f4 f5, q⟩⟩
end
end Ab

namespace Ab
open PySem PySem.Spec PyProof.Rows L2
section
variable {X : Cx} {rs rs1 rs2 rs' : List R} {pu pu1 pu2 pp : Bool}
/-- one turn of a dict comprehension: nothing that stood is changed -/
def DxTurn (X : Cx) (scope : Scope) (vs : List Nat) (tg kx vx : Expr) (c : Option Expr) (x : PyData) (rs : List R) (acc : List (PyData × PyData)) (Nx : List (PyData × PyData) → Prop) : Prop :=
  ∃ rs2 js b, (AllB X scope fun B => Tg B tg x (wipeR vs rs) rs2 js) ∧ (∀ j ∈ js, j ∈ vs) ∧ EtB X scope true rs2 c b rs2 ∧
    (b = true → ∃ k y, KeyOk k ∧ (AllB X scope fun B => Ev B true rs2 kx (.d k) rs2) ∧ (AllB X scope fun B => Ev B true rs2 vx (.d y) rs2) ∧ Nx (dput acc k y)) ∧ (b = false → Nx acc)
def DxInv (X : Cx) (σ : Sl) (D : Addr) (rs : List R) (w1 : Own) (H1 : Hp) (Pn : List (PyData × PyData) → Prop) (H : Hp) : Prop :=
  ∃ w kvs o, RSx X H w σ rs ∧ Pn kvs ∧ H D = some (DO D o) ∧ DE X.prog X.w X.K H w D o kvs ∧ w D = some 0 ∧ StepE w1 H1 w H ∧ Same H1 H
theorem dx_turn {scope : Scope} {vs : List Nat} {tg kx vx : Expr} {c : Option Expr} {σ : Sl} {D : Addr} {w1 : Own} {H1 H : Hp} {Pn Nx : List (PyData × PyData) → Prop} {x : PyData} {v : V} (hD : H1 D = none)
    (turn : ∀ acc, Pn acc → DxTurn X scope vs tg kx vx c x rs acc Nx) (hz : ∀ acc, Nx acc → acc.length ≤ sizeLine) (hz0 : ∀ acc, Pn acc → acc.length < sizeLine) (hx : ∀ w, StepE w1 H1 w H → DR X.K H w v x) (h : DxInv X σ D rs w1 H1 Pn H) :
    gB X scope tg v (L2.wipe σ vs) H fun σ2 H2 => L2.wipe σ2 vs = L2.wipe σ vs ∧ tests X scope c σ2 H2 fun b H3 =>
      if b = true then eB X scope kx σ2 H3 fun y H4 => eB X scope vx σ2 H4 fun z H5 => stD X D y z H5 (DxInv X σ D rs w1 H1 Nx) else DxInv X σ D rs w1 H1 Nx H3 := by
  obtain ⟨w, kvs, o, S, p, hDl, de, wD, st, sm⟩ := h
  obtain ⟨rs2, js, b, htg, hj, ht, h1, h2⟩ := turn kvs p
  intro s H0 C cl fp
  refine htg s H0 C cl fp (L2.wipe σ vs) H w v S.wipe (hx w st) _ fun σ2 S2 ⟨k1, k2⟩ => ?_
  refine ⟨wipe_stored k1 k2 hj, ?_⟩
  have kl : σ2.length = σ.length := by rw [k1, wipe_length]
  have DS : ∀ {H' w'}, StepE w H w' H' → H' D = some (DO D o) ∧ w' D = some 0 := fun {H' w'} st' => ⟨st'.k _ _ hDl (.inl (.of_tmp wD)), by rw [st'.o D (some_ne hDl)]; exact wD⟩
  have outer : ∀ {H' w' σ' rs''}, RSx X H' w' σ' rs'' → StepE w H w' H' → Same H H' → RSx X H' w' σ rs := fun {H' w' σ' rs''} S' st' sm' => S.keep st' sm' S'.tr
  have main : ∀ H3 w3, RSx X H3 w3 σ2 rs2 → StepE w H w3 H3 → Same H H3 → (if b = true then eB X scope kx σ2 H3 fun y H4 => eB X scope vx σ2 H4 fun z H5 => stD X D y z H5 (DxInv X σ D rs w1 H1 Nx) else DxInv X σ D rs w1 H1 Nx H3) := fun H3 w3 S3 st3 sm3 => by
    cases b with
    | false =>
      rw [if_neg Bool.false_ne_true]
      exact ⟨w3, kvs, o, outer S3 st3 sm3, h2 rfl, (DS st3).1, de.mv st3.mv, (DS st3).2, st.trans st3, sm.trans sm3⟩
    | true =>
      rw [if_pos rfl]
      obtain ⟨k, y, hk, hek, hey, n⟩ := h1 rfl
      intro s H0 C cl fp
      refine hek s H0 C cl fp σ2 H3 w3 S3 _ fun u H4 w4 S4 st4 t4 sm4 => ?_
      intro s H0 C cl fp
      refine hey s H0 C cl fp σ2 H4 w4 S4 _ fun u5 H5 w5 S5 st5 t5 sm5 => ?_
      have sta := (st3.trans st4).trans st5
      have sma : Same H H5 := (sm3.trans (sm4 rfl)).trans (sm5 rfl)
      obtain ⟨d5, o5⟩ := DS sta
      refine ⟨w5, k, y, o, kvs, hk, DR.mv st5.mv _ _ t4, t5, d5, de.mv sta.mv, hz0 _ p, fun o' de' => ?_⟩
      have m6 : Mv w5 H5 w5 (upd H5 D (DO D o')) := ⟨fun b ob hb f => by
        rw [upd_ne fun z => ?_]; exact hb
        subst z
        rcases f with f | f
        · rw [o5] at f; cases f
        · rw [d5] at hb; cases hb; exact f True.intro, fun _ _ e => e⟩
      have B := outer S5 sta sma
      refine ⟨w5, dput kvs k y, o', ⟨B.len, tr_upd B.tr, fun i r e => (B.at_ i r e).keep m6 fun b ob hb ho => ⟨?_, hb⟩⟩, n, upd_same, de' w5 m6, o5, ?_, ?_⟩
      · rw [upd_ne fun z => by subst z; rw [o5] at hb; cases hb]; exact ho
      · have st15 := st.trans sta
        refine ⟨fun b ob hb f => ?_, st15.o, fun b hb => ?_⟩
        · rw [upd_ne fun z => by subst z; rw [hD] at hb; cases hb]; exact st15.k b ob hb f
        · by_cases z : b = D
          · subst z; rw [upd_same]; exact fun z => nomatch z
          · rw [upd_ne z]; exact st15.g b hb
      · intro b ob hb
        rw [upd_ne fun z => by subst z; rw [hD] at hb; cases hb]
        exact (sm.trans sma) b ob hb
  cases c with
  | none =>
    obtain ⟨rfl, _⟩ := ht
    exact main H w S2 .refl (Same.refl H)
  | some c =>
    intro s H0 C cl fp
    exact ht s H0 C cl fp σ2 H w S2 _ fun H3 w3 S3 st3 sm3 => main H3 w3 S3 st3 (sm3 rfl)
theorem dx_read {t : Bool} {scope : Scope} {vs : List Nat} {tg kx vx iter : Expr} {c : Option Expr} {r : R} {items : List PyData} {kvs : List (PyData × PyData)} (P : Nat → List (PyData × PyData) → Prop) (hl : Ev X pu rs iter r rs1) (hw : walkOf r = some (t, items)) (h0 : P 0 [])
    (turn : ∀ i x acc, items[i]? = some x → P i acc → DxTurn X scope vs tg kx vx c x rs1 acc (P (i + 1))) (fin : ∀ acc, P items.length acc → acc = kvs) (hz : ∀ i acc, P i acc → acc.length < sizeLine)
    {σ : Sl} {H : Hp} {w : Own} (S : RSx X H w σ rs) {Q : VK} (q : ∀ v H' w', RSx X H' w' σ rs1 → StepE w H w' H' → RTx X H H' w' v (.dc kvs) → (pu = true → Same H H') → Q v H') :
    tDx X (if t = true then iTup X.K (cT X iter) else iList X.K (cT X iter)) (gB X scope tg) (tests X scope c) (eB X scope kx) (eB X scope vx) vs σ H Q := by
  have body : ∀ (a : Addr) (us : List V) (H1 : Hp) (w1 : Own) (J : It), RSx X H1 w1 σ rs1 → StepE w H w1 H1 → (pu = true → Same H H1) → DRs X.K H1 w1 us items →
      (∀ H' i, (∃ w', StepE w1 H1 w' H') → i < us.length → J.go i H' ∧ ∀ x H'', J.yld i H' x H'' → H'' = H' ∧ us[i]? = some x) → (∀ H' i, (∃ w', StepE w1 H1 w' H') → i = us.length → J.stop i H') →
      ∀ D, H1 D = none → ∀ o0, (∀ w1 : Own, DE X.prog X.w X.K (upd H1 D (DO D o0)) w1 D o0 []) → ∃ W : Nat → Nat → Hp → Prop, (∃ m, W 0 m (upd H1 D (DO D o0))) ∧
        ∀ i m H, W i m H → (J.stop i H ∧ Q (.ref D) H) ∨ (J.go i H ∧ ∃ Nx : Hp → Prop, (∀ H', Nx H' → ∃ m', m' < m ∧ W (i + 1) m' H') ∧
          ∀ x H', J.yld i H x H' → gB X scope tg x (L2.wipe σ vs) H' fun σ2 H2 => L2.wipe σ2 vs = L2.wipe σ vs ∧ tests X scope c σ2 H2 fun b H3 => if b = true then eB X scope kx σ2 H3 fun y H4 => eB X scope vx σ2 H4 fun z H5 => stD X D y z H5 Nx else Nx H3) := by
    intro a us H1 w1 J S1 st1 s1 dr go stop D n o0 de0
    have sm : Same H1 (upd H1 D (DO D o0)) := same_upd n
    have st : StepE w1 H1 (ownT w1 D) (upd H1 D (DO D o0)) := sstep sm (ownT_old n)
    refine ⟨fun i m H' => m = us.length - i ∧ i ≤ us.length ∧ DxInv X σ D rs1 w1 H1 (P i) H', ⟨us.length, by simp, Nat.zero_le _, ownT w1 D, [], o0, S1.keep st sm (ownT_tr S1.tr), h0, upd_same, de0 _, ownT_at, st, sm⟩, ?_⟩
    rintro i m H' ⟨rfl, hi, inv⟩
    have stx : ∃ w', StepE w1 H1 w' H' := by obtain ⟨w', _, _, _, _, _, _, _, st', _⟩ := inv; exact ⟨w', st'⟩
    by_cases hlt : i < us.length
    · obtain ⟨g1, g2⟩ := go H' i stx hlt
      refine .inr ⟨g1, DxInv X σ D rs1 w1 H1 (P (i + 1)), fun H'' inv' => ⟨us.length - (i + 1), by omega, rfl, hlt, inv'⟩, fun x H'' y => ?_⟩
      obtain ⟨rfl, hx⟩ := g2 x H'' y
      obtain ⟨d, hd, dd⟩ := dr.getV hx
      exact dx_turn n (fun acc p => turn i d acc hd p) (fun acc p => Nat.le_of_lt (hz _ acc p)) (hz _) (fun w' st' => DR.mv st'.mv _ _ dd) inv
    · have e : i = us.length := by omega
      refine .inl ⟨stop H' i stx e, ?_⟩
      subst e
      obtain ⟨w', kvs', o, S', p, hDl, de, wD, st', sm'⟩ := inv
      have ek := fin kvs' (by rw [← dr.length]; exact p)
      subst ek
      exact q _ H' w' S' (st1.trans st') ⟨D, o, rfl, fresh_from st1.g n, wD, hDl, de⟩ fun e => (s1 e).trans sm'
  cases t with
  | true =>
    rw [if_pos rfl]
    refine hl σ H w S _ fun v H1 w1 S1 st1 t1 s1 => ?_
    cases r with
    | d x =>
      cases x with
      | tuple xs =>
        cases hw
        obtain ⟨a, us, rfl, sq, dr⟩ := drT t1
        refine ⟨a, rfl, ⟨us, sq⟩, body a us H1 w1 (Itt X.K a) S1 st1 s1 dr (fun H' i ⟨w', st'⟩ hi => ⟨⟨us, us[i], st'.mv.sqT sq, by simp [hi]⟩, fun x H'' y => ⟨y.1, y.2 us (st'.mv.sqT sq)⟩⟩) fun H' i ⟨w', st'⟩ hi => ⟨us, st'.mv.sqT sq, by omega⟩⟩
      | _ => cases hw
    | _ => cases hw
  | false =>
    rw [if_neg Bool.false_ne_true]
    refine hl σ H w S _ fun v H1 w1 S1 st1 t1 s1 => ?_
    have key : ∃ a us, v = .ref a ∧ DRs X.K H1 w1 us items ∧ (∀ H' w', StepE w1 H1 w' H' → SqL X.K H' a us) := by
      cases r with
      | d x =>
        cases x with
        | list xs =>
          cases hw
          obtain ⟨a, us, rfl, h1, dr⟩ := drL t1
          exact ⟨a, us, rfl, dr, fun H' w' st => (h1.mv st.mv).sq⟩
        | _ => cases hw
      | ls xs =>
        cases hw
        obtain ⟨a, us, rfl, _, o, hp, dr⟩ := t1
        exact ⟨a, us, rfl, dr, fun H' w' st => .inl (.inl (st.k _ _ hp (.inl (.of_tmp o))))⟩
      | _ => cases hw
    obtain ⟨a, us, rfl, dr, sq⟩ := key
    exact ⟨a, rfl, ⟨us, sq H1 w1 .refl⟩, body a us H1 w1 (Itl X.K a) S1 st1 s1 dr (fun H' i ⟨w', st'⟩ hi => ⟨⟨us, us[i], sq H' w' st', by simp [hi]⟩, fun x H'' y => ⟨y.1, y.2 us (sq H' w' st')⟩⟩) fun H' i ⟨w', st'⟩ hi => ⟨us, sq H' w' st', by omega⟩⟩
theorem Ev.dx {t : Bool} {scope : Scope} {own : List (Str × Nat)} {tg kx vx iter : Expr} {c : Option Expr} {r : R} {items : List PyData} {kvs : List (PyData × PyData)} {pos : Pos} (P : Nat → List (PyData × PyData) → Prop) (hl : Ev X pu rs iter r rs1) (hw : walkOf r = some (t, items)) (h0 : P 0 [])
    (turn : ∀ i x acc, items[i]? = some x → P i acc → DxTurn X scope (own.map (·.2)) tg kx vx c x rs1 acc (P (i + 1))) (fin : ∀ acc, P items.length acc → acc = kvs) (hz : ∀ i acc, P i acc → acc.length < sizeLine)
    (ok : LcOk X scope own) (hu : X.A.units + 64 < cLine) (hs : ∀ x, foldedSetIterable iter X.env x = pure x) : Ev X pu rs (.DictComp kx vx [⟨tg, iter, ifsOf c, 0⟩] scope pos) (.dc kvs) rs1 := fun σ H w S Q q => by
  have rd := dx_read P hl hw h0 turn fin hz S q
  cases t with
  | true => exact PEc (pe_dx ok hu (pi_tup cT_ok) gB_ok (tests_ok c) eB_ok eB_ok hs) rd
  | false => exact PEc (pe_dx ok hu (pi_list cT_ok) gB_ok (tests_ok c) eB_ok eB_ok hs) rd
theorem Ex.setDx (i : Nat) {y : Str} {py spos : Pos} {t : Bool} {scope : Scope} {own : List (Str × Nat)} {tg kx vx iter : Expr} {c : Option Expr} {r : R} {items : List PyData} {kvs : List (PyData × PyData)} {pos : Pos} (P : Nat → List (PyData × PyData) → Prop) (hl : Ev X pu rs iter r rs1) (hw : walkOf r = some (t, items)) (h0 : P 0 [])
    (turn : ∀ i x acc, items[i]? = some x → P i acc → DxTurn X scope (own.map (·.2)) tg kx vx c x rs1 acc (P (i + 1))) (fin : ∀ acc, P items.length acc → acc = kvs) (hz : ∀ i acc, P i acc → acc.length < sizeLine)
    (ok : LcOk X scope own) (hu : X.A.units + 64 < cLine) (hi : i < rs1.length) (hy : X.N[i]? = some y) (hyl : X.env.scope.names.lookup y = some .local) (hsw : swapsWith (.DictComp kx vx [⟨tg, iter, ifsOf c, 0⟩] scope pos) (some (.Name y py)) spos.line X.env = pure true) (hs : ∀ x, foldedSetIterable iter X.env x = pure x) :
    Ex X rs (.Assign [.Name y py] (.DictComp kx vx [⟨tg, iter, ifsOf c, 0⟩] scope pos) spos) (.nx (rs1.set i (.dc kvs))) := fun σ H w S D q => by
  have rd := dx_read (Q := fun x H1 => gName i x σ H1 D.nx) P hl hw h0 turn fin hz S fun v H' w' S' st t _ => by
    obtain ⟨w2, S2, st2⟩ := S'.store st t rfl hi
    exact q _ H' w2 S2 st2
  cases t with
  | true => exact PSc (ps_setDx ok hu hy hyl hsw (pi_tup cT_ok) gB_ok (tests_ok c) eB_ok eB_ok hs) rd
  | false => exact PSc (ps_setDx ok hu hy hyl hsw (pi_list cT_ok) gB_ok (tests_ok c) eB_ok eB_ok hs) rd
/-- list + list -/
def lstOf : R → Option (List PyData)
  | .ls xs => some xs
  | .vl _ xs => some xs
  | _ => none
theorem RT.lst {P : Program} {W : World} {K : PySem.W.Frag} {H0 H : Hp} {w : Own} {v : V} {r : R} {xs : List PyData} (h : RT P W K H0 H w v r) (e : lstOf r = some xs) : ∃ a vs, v = .ref a ∧ H a = some (.lst vs) ∧ DRs K H w vs xs := by
  cases r with
  | ls ys => cases e; obtain ⟨p, vs, e, _, _, hp, h⟩ := h; exact ⟨p, vs, e, hp, h⟩
  | vl _ ys => cases e; obtain ⟨p, vs, e, _, hp, h⟩ := h; exact ⟨p, vs, e, hp, h⟩
  | _ => cases e
theorem op_addL {ra rb : R} {xs ys : List PyData} (ea : lstOf ra = some xs) (eb : lstOf rb = some ys) (z : xs.length + ys.length ≤ sizeLine) : OpOk X (binaryOp .Add) ra rb (.ls (xs ++ ys)) := fun H0 H w x y tr ha hb Q q => by
  obtain ⟨a, vs, rfl, ta, da⟩ := ha.lst ea
  obtain ⟨b, us, rfl, tb, db⟩ := hb.lst eb
  refine OpRc op_cat ⟨a, b, vs, us, rfl, rfl, ta, tb, by rw [da.length, db.length]; exact z, fun p n => ?_⟩
  have sm : Same H (upd H p (.lst (vs ++ us))) := same_upd n
  have st : StepE w H (ownT w p) (upd H p (.lst (vs ++ us))) := sstep sm (ownT_old n)
  exact q _ _ (ownT w p) sm (ownT_old n) (ownT_tr tr) ⟨p, _, rfl, n, ownT_at, upd_same, DRs.mv st.mv _ _ (da.append db)⟩
end
end Ab

namespace Ab
open PySem PySem.Spec PyProof.Rows L2

/-! ### a def that may be called -/
structure Cal (P : Program) (W : World) (K : PySem.W.Frag) (mg : Str → Option Value) (base : Heap) (x : Str) (k : Nat) (S : List R → R → Prop) (f : Addr) : Prop where
  ex : ∃ fd ps, FnOk P W K mg base CX0 k f fd ps (spP P W K S) ∧ mg x = some (.ref f) ∧ PySem.W.keepIn K (.ref f) = true ∧ Binds K fd ps []
structure CalS (P : Program) (W : World) (K : PySem.W.Frag) (mg : Str → Option Value) (base : Heap) (x : Str) (k : Nat) (S : Src → List R → R → Src → Prop) (f : Addr) : Prop where
  ex : ∃ fd ps, FnOk P W K mg base CX0 k f fd ps (spS P W K S) ∧ mg x = some (.ref f) ∧ PySem.W.keepIn K (.ref f) = true ∧ Binds K fd ps []
/-- where a def of the text stands -/
structure At (K : PySem.W.Frag) (mg : Str → Option Value) (x : Str) (st : Stmt) (f : Addr) : Prop where
  ex : ∃ fd, Fun K x x st f fd
  mg : mg x = some (.ref f)
/-- how the arguments of a def bind -/
def BindsBy (x : Str) (st : Stmt) (ps : List Str) : Prop := ∀ (kV doc pm : Value) (an : Option Addr) (cdv ct : Value) (us : List Value), us.length = ps.length → bindArgs (PySem.W.fnOf x x (defArgs st) (defBody st) (defScope st) .none kV doc pm an cdv ct) ⟨us, []⟩ = pure (ps.zip us)
/-- the context of a def's body -/
abbrev bx (P : Program) (W : World) (K : PySem.W.Frag) (mg : Str → Option Value) (base : Heap) (x : Str) (N : List Str) (st : Stmt) (f : Addr) (cdv : Value) (A : Around) (outer : List Env) (s : Shared) (H : Hp) (E : XK) : Cx := (cxOf CX0 P W K mg base N x (defScope st) f cdv A outer s H E).nox
section
variable {P : Program} {W : World} {K : PySem.W.Frag} {mg : Str → Option Value} {base : Heap}
theorem cal_of {x : Str} {st : Stmt} {f : Addr} {N ps : List Str} {k : Nat} {S : List R → R → Prop} (D : At K mg x st f) (sc : FnScope N ps (defScope st)) (hb : BindsBy x st ps) (hN : ps.length ≤ N.length) (hl : ∀ rl r, S rl r → rl.length = ps.length ∧ imR r = true)
    (body : ∀ cdv A outer s H E, Room k (bx P W K mg base x N st f cdv A outer s H E).A → ∀ rl r, S rl r → ∃ rs', Exs (bx P W K mg base x N st f cdv A outer s H E) (begin_ N rl) (defBody st) (.rt r rs')) : Cal P W K mg base x (k + 1) S f := by
  obtain ⟨fd, F⟩ := D.ex
  exact ⟨fd, ps, fn_pure F sc hN hl body, D.mg, F.kp, F.binds hb⟩
theorem calS_of {x : Str} {st : Stmt} {f : Addr} {N ps : List Str} {k : Nat} {S : Src → List R → R → Src → Prop} (D : At K mg x st f) (sc : FnScope N ps (defScope st)) (hb : BindsBy x st ps) (hN : ps.length ≤ N.length) (hl : ∀ s rl r s', S s rl r s' → rl.length + 1 = ps.length ∧ imR r = true)
    (body : ∀ cdv A outer s H E, Room k (bx P W K mg base x N st f cdv A outer s H E).A → ∀ p q c rl r c', S c rl r c' → ∃ rs', Exs (bx P W K mg base x N st f cdv A outer s H E) (begin_ N (.src p q c :: rl)) (defBody st) (.rt r rs') ∧ rs'[0]? = some (.src p q c')) : CalS P W K mg base x (k + 1) S f := by
  obtain ⟨fd, F⟩ := D.ex
  exact ⟨fd, ps, fn_src F sc hN hl body, D.mg, F.kp, F.binds hb⟩
end
section
variable {X : Cx} {rs rs1 rs2 rs' : List R} {pu pu1 pu2 pp : Bool}
/-! short forms: the answers are read off -/
theorem nm (i : Nat) {x : Str} {pos : Pos} {r r' : R} (h : rs[i]? = some r := by rfl) (hw : viewOf i r = some r' := by rfl) (hN : X.N[i]? = some x := by rfl)
    (hv : Vis X.env.scope x := by first | exact Or.inl rfl | exact Or.inr (Or.inl rfl) | exact Or.inr (Or.inr rfl)) (hd : (x == ("__debug__" : Str)) = false := by decide) (hcd : (x == ("__classdict__" : Str)) = false := by decide) : Ev X true rs (.Name x pos) r' rs := Ev.name i h hw hN hv hd hcd
theorem call1 {f : Addr} {k j : Nat} {A : Around} {S : List R → R → Prop} {x : Str} {p pos : Pos} {e : Expr} {es : List Expr} {rl al : List R} {r : R} (c : Cal X.prog X.w X.K X.mg X.base x k S f) (hr : Room j A) (h : EvL X pu rs (e :: es) rl rs') (hS : S al r) (ha : argOf rl = some al := by rfl) (hj : k ≤ j := by decide) (hA : X.A = A := by rfl) (hg : Gl X x := by rfl)
    (hdb : (x == ("__debug__" : Str)) = false := by decide) (he : starEach (e :: es) X.env = (false, eval e X.env) :: starEach es X.env := by rfl) (hpl : (backTo pos (starEach es X.env)).any (·.1) = false := by rfl) : Ev X pu rs (.Call (.Name x p) (e :: es) [] pos) r rs' := by
  subst hA
  obtain ⟨fd, ps, G, hm, hk, hb⟩ := c.ex
  exact Ev.call h ha hS G (hr.mono hj) hg hm hk hb hdb he hpl
theorem callL (i : Nat) {f : Addr} {k j : Nat} {A : Around} {S : List R → R → Prop} {x y : Str} {p pos : Pos} {e : Expr} {es : List Expr} {rl al : List R} {r : R} (c : Cal X.prog X.w X.K X.mg X.base y k S f) (hr : Room j A) (h : EvL X pu rs (e :: es) rl rs') (hS : S al r) (hi : rs[i]? = some (.fn f) := by rfl) (ha : argOf rl = some al := by rfl) (hj : k ≤ j := by decide) (hA : X.A = A := by rfl) (hN : X.N[i]? = some x := by rfl)
    (hv : Vis X.env.scope x := by first | exact Or.inl rfl | exact Or.inr (Or.inl rfl) | exact Or.inr (Or.inr rfl))
    (hdb : (x == ("__debug__" : Str)) = false := by decide) (hcd : (x == ("__classdict__" : Str)) = false := by decide) (he : starEach (e :: es) X.env = (false, eval e X.env) :: starEach es X.env := by rfl) (hpl : (backTo pos (starEach es X.env)).any (·.1) = false := by rfl) : Ev X pu rs (.Call (.Name x p) (e :: es) [] pos) r rs' := by
  subst hA
  obtain ⟨fd, ps, G, hm, hk, hb⟩ := c.ex
  exact Ev.callL i hi h ha hS G (hr.mono hj) hN hv hk hb hdb hcd he hpl
theorem gfn {x : Str} {f : Addr} {k : Nat} {S : List R → R → Prop} {pos : Pos} (c : Cal X.prog X.w X.K X.mg X.base x k S f) (hg : Gl X x := by rfl) (hd : (x == ("__debug__" : Str)) = false := by decide) : Ev X true rs (.Name x pos) (.fn f) rs := by
  obtain ⟨_, _, _, hm, _⟩ := c.ex
  exact Ev.gfn hg hm hd
theorem callS (i : Nat) {f : Addr} {k j : Nat} {A : Around} {S : Src → List R → R → Src → Prop} {x y : Str} {p py pos : Pos} {es : List Expr} {rl al : List R} {r : R} {a b : Addr} {c0 c c' : Src} (C : CalS X.prog X.w X.K X.mg X.base x k S f) (hr : Room j A) (h : EvL X pu rs es rl rs1) (hS : S c al r c')
    (hi : rs[i]? = some (.src a b c0) := by rfl) (hi1 : rs1[i]? = some (.src a b c) := by rfl) (ha : argOf rl = some al := by rfl) (hj : k ≤ j := by decide) (hA : X.A = A := by rfl) (hg : Gl X x := by rfl)
    (hNy : X.N[i]? = some y := by rfl) (hvy : Vis X.env.scope y := by first | exact Or.inl rfl | exact Or.inr (Or.inl rfl) | exact Or.inr (Or.inr rfl)) (hdy : (y == ("__debug__" : Str)) = false := by decide) (hcy : (y == ("__classdict__" : Str)) = false := by decide)
    (hv : rl.all (fun r => match r with | .vl j _ => decide (j ≠ i) | _ => true) = true := by rfl)
    (hdb : (x == ("__debug__" : Str)) = false := by decide) (he : starEach (.Name y py :: es) X.env = (false, eval (.Name y py) X.env) :: starEach es X.env := by rfl) (hpl : (backTo pos (starEach es X.env)).any (·.1) = false := by rfl) : Ev X false rs (.Call (.Name x p) (.Name y py :: es) [] pos) r (rs1.set i (.src a b c')) := by
  subst hA
  obtain ⟨fd, ps, G, hm, hk, hb⟩ := C.ex
  exact Ev.callS i hi hNy hvy hdy hcy h hi1 ha hv hS G (hr.mono hj) hg hm hk hb hdb he hpl
/-- a built-in function, a built-in class -/
theorem blt {id : String} {x : Str} {e : Expr} {es : List Expr} {rl : List R} {r : R} {p pos : Pos} (hm : X.mg x = none) (hv : bootBuiltins x = some (.builtin id)) (h : EvL X pu rs (e :: es) rl rs') (hc : CaOk X (.builtin id) rl r) (hg : Gl X x := by rfl) (hn : x ≠ "__name__" := by decide) (hdb : (x == ("__debug__" : Str)) = false := by decide)
    (he : starEach (e :: es) X.env = (false, eval e X.env) :: starEach es X.env := by rfl) (hpl : (backTo pos (starEach es X.env)).any (·.1) = false := by rfl) : Ev X pu rs (.Call (.Name x p) (e :: es) [] pos) r rs' := Ev.blt h hc hg hm hv hn hdb he hpl
theorem typ {T : String} {x : Str} {e : Expr} {es : List Expr} {rl : List R} {r : R} {p pos : Pos} (hm : X.mg x = none) (hv : bootBuiltins x = some (.type T)) (h : EvL X pu rs (e :: es) rl rs') (hc : CaOk X (.type T) rl r) (hg : Gl X x := by rfl) (hn : x ≠ "__name__" := by decide) (hdb : (x == ("__debug__" : Str)) = false := by decide)
    (he : starEach (e :: es) X.env = (false, eval e X.env) :: starEach es X.env := by rfl) (hpl : (backTo pos (starEach es X.env)).any (·.1) = false := by rfl) : Ev X pu rs (.Call (.Name x p) (e :: es) [] pos) r rs' := Ev.typ h hc hg hm hv hn hdb he hpl
theorem a0 : EvL X true rs [] [] rs := EvL.nil
theorem a1 {e : Expr} {es : List Expr} {r : R} {rl : List R} (h : Ev X pu1 rs e r rs1) (hs : EvL X pu2 rs1 es rl rs2) (st : (stab r || pu2) = true := by rfl) (hst : starEach (e :: es) X.env = (false, eval e X.env) :: starEach es X.env := by rfl) : EvL X (pu1 && pu2) rs (e :: es) (r :: rl) rs2 := EvL.cons h hs st hst
theorem tup {es : List Expr} {rl : List R} {xs : List PyData} {k pos} (h : EvL X pu rs es rl rs') (e : datas rl = some xs := by rfl) (z : xs.length ≤ sizeLine := by exact Nat.le_of_ble_eq_true rfl) : Ev X pu rs (.Tuple es k pos) (.d (.tuple xs)) rs' := Ev.tup h e z
theorem lst {es : List Expr} {rl : List R} {xs : List PyData} {pos} (h : EvL X pu rs es rl rs') (e : datas rl = some xs := by rfl) (z : xs.length ≤ sizeLine := by exact Nat.le_of_ble_eq_true rfl) : Ev X pu rs (.List es pos) (.ls xs) rs' := Ev.lst h e z
theorem bin {a b : Expr} {op : Operator} {ra rb r : R} {pos : Pos} (ha : Ev X pu1 rs a ra rs1) (hb : Ev X pu2 rs1 b rb rs2) (ho : OpOk X (binaryOp op) ra rb r) (st : (stab ra || pu2) = true := by rfl) : Ev X (pu1 && pu2) rs (.BinOp a op b pos) r rs2 := Ev.bin ha hb st ho
theorem cmp {a b : Expr} {op : CmpOp} {ra rb r : R} {pos : Pos} (ha : Ev X pu1 rs a ra rs1) (hb : Ev X pu2 rs1 b rb rs2) (ho : OpOk X (compareOp op) ra rb r) (st : (stab ra || pu2) = true := by rfl) (hm : behindInMarks op b = false := by rfl) : Ev X (pu1 && pu2) rs (.Compare a [op] [b] pos) r rs2 := Ev.cmp ha hb st ho hm
theorem tcmp {a b : Expr} {op : CmpOp} {ra rb : R} {k : Bool} {pos : Pos} (ha : Ev X pu1 rs a ra rs1) (hb : Ev X pu2 rs1 b rb rs2) (ho : OpOk X (compareOp op) ra rb (.d (.bool k))) (st : (stab ra || pu2) = true := by rfl) (hm : behindInMarks op b = false := by rfl) : Et X (pu1 && pu2) rs (.Compare a [op] [b] pos) k rs2 := Et.cmp ha hb st ho hm
theorem tval {e : Expr} {b : Bool} (h : Ev X pu rs e (.d (.bool b)) rs') (he : ∀ whole, isTrue e X.env whole = (do let v ← whole; standAt e.pos; holding [v] (truthy v)) := by intro _; rfl) : Et X pu rs e b rs' := Et.val h he
theorem ixT {a b : Expr} {xs : List PyData} {i : Int} {y : PyData} {pos} (ha : Ev X pu1 rs a (.d (.tuple xs)) rs1) (hb : Ev X pu2 rs1 b (.d (.int i)) rs2) (h : atI xs i = some y := by rfl) (hs : PlainIx b := by exact fun _ _ => rfl) : Ev X (pu1 && pu2) rs (.Subscript a b pos) (.d y) rs2 := Ev.ixT ha hb h hs
theorem ixL {a b : Expr} {ra : R} {xs : List PyData} {i : Int} {y : PyData} {pos} (ha : Ev X pu1 rs a ra rs1) (hb : Ev X pu2 rs1 b (.d (.int i)) rs2) (h : atI xs i = some y) (he : seqOf ra = some xs := by rfl) (st : (stab ra || pu2) = true := by rfl) (hs : PlainIx b := by exact fun _ _ => rfl) : Ev X (pu1 && pu2) rs (.Subscript a b pos) (.d y) rs2 := Ev.ixL ha he hb st h hs
/-- statements -/
theorem sset (i : Nat) {x : Str} {e : Expr} {r r' : R} {pos pos' : Pos} (nd : X.N.Nodup) (h : Ev X pu rs e r rs1) (hk : keepOf r = some r' := by rfl) (hn : i < rs1.length := by exact Nat.le_of_ble_eq_true rfl) (hi : X.N[i]? = some x := by rfl) (hx : Loc X.env.scope x := by first | exact Or.inl rfl | exact Or.inr rfl)
    (hs : swapsWith e (some (.Name x pos')) pos.line X.env = pure false := by rfl) (hf : X.fn x = true ∨ X.env.scope.names.lookup x = some .local := by first | exact .inl rfl | exact .inr rfl) : Ex X rs (.Assign [.Name x pos'] e pos) (.nx (rs1.set i r')) := Ex.set i h hk hn nd hi hx hs hf
theorem sret {e : Expr} {r r' : R} {pos : Pos} (h : Ev X pu rs e r rs1) (hb : backOf rs1 r = some r' := by rfl) : Ex X rs (.Return (some e) pos) (.rt r' rs1) := Ex.ret h hb
theorem sexpr {e : Expr} {r : R} {pos : Pos} (h : Ev X pu rs e r rs1) (hs : swapsWith e none pos.line X.env = pure false := by rfl) : Ex X rs (.Expr e pos) (.nx rs1) := Ex.expr h hs
theorem spar (i j : Nat) {x y : Str} {a b : Expr} {ra rb ra' rb' : R} {px py pt pos : Pos} {kt k2 pt2} (nd : X.N.Nodup) (h : EvL X pu rs [a, b] [ra, rb] rs1) (ea : keepOf ra = some ra' := by rfl) (eb : keepOf rb = some rb' := by rfl) (hi' : i < rs1.length := by exact Nat.le_of_ble_eq_true rfl) (hj' : j < rs1.length := by exact Nat.le_of_ble_eq_true rfl)
    (hc : X.calm = true := by rfl) (hi : X.N[i]? = some x := by rfl) (hj : X.N[j]? = some y := by rfl) (hij : i ≠ j := by decide)
    (hx : X.env.scope.names.lookup x = some .local := by rfl) (hy : X.env.scope.names.lookup y = some .local := by rfl)
    (hw : swappedStores [.Tuple [.Name x px, .Name y py] kt pt] (.Tuple [a, b] k2 pt2) X.env = pure (some [x, y]) := by rfl)
    (hs : swapsWithSole [.Tuple [.Name x px, .Name y py] kt pt] (.Tuple [a, b] k2 pt2) pos.line X.env = pure false := by rfl) : Ex X rs (.Assign [.Tuple [.Name x px, .Name y py] kt pt] (.Tuple [a, b] k2 pt2) pos) (.nx ((rs1.set i ra').set j rb')) := Ex.par2 i j h ea eb hi' hj' hc nd hi hj hij hx hy hw hs
theorem spar3 (i j l : Nat) {x y z : Str} {a b c : Expr} {ra rb rc ra' rb' rc' : R} {px py pz pt pos : Pos} {kt k2 pt2} (nd : X.N.Nodup) (h : EvL X pu rs [a, b, c] [ra, rb, rc] rs1) (ea : keepOf ra = some ra' := by rfl) (eb : keepOf rb = some rb' := by rfl) (ec : keepOf rc = some rc' := by rfl) (hi' : i < rs1.length := by exact Nat.le_of_ble_eq_true rfl) (hj' : j < rs1.length := by exact Nat.le_of_ble_eq_true rfl) (hl' : l < rs1.length := by exact Nat.le_of_ble_eq_true rfl)
    (hc : X.calm = true := by rfl) (hi : X.N[i]? = some x := by rfl) (hj : X.N[j]? = some y := by rfl) (hl : X.N[l]? = some z := by rfl) (hij : i ≠ j := by decide) (hil : i ≠ l := by decide) (hjl : j ≠ l := by decide)
    (hx : X.env.scope.names.lookup x = some .local := by rfl) (hy : X.env.scope.names.lookup y = some .local := by rfl) (hz : X.env.scope.names.lookup z = some .local := by rfl)
    (hw : swappedStores [.Tuple [.Name x px, .Name y py, .Name z pz] kt pt] (.Tuple [a, b, c] k2 pt2) X.env = pure (some [x, y, z]) := by rfl)
    (hs : swapsWithSole [.Tuple [.Name x px, .Name y py, .Name z pz] kt pt] (.Tuple [a, b, c] k2 pt2) pos.line X.env = pure false := by rfl) : Ex X rs (.Assign [.Tuple [.Name x px, .Name y py, .Name z pz] kt pt] (.Tuple [a, b, c] k2 pt2) pos) (.nx (((rs1.set i ra').set j rb').set l rc')) := Ex.par3 i j l h ea eb ec hi' hj' hl' hc nd hi hj hl hij hil hjl hx hy hz hw hs
theorem stup (i j : Nat) {a b : Expr} {x y : Str} {pa pb pt pos : Pos} {ra rb ra' rb' : R} {kt k2 pt2} (nd : X.N.Nodup) (h : EvL X pu rs [a, b] [ra, rb] rs1) (ea : keepOf ra = some ra' := by rfl) (eb : keepOf rb = some rb' := by rfl) (hi' : i < rs1.length := by exact Nat.le_of_ble_eq_true rfl) (hj' : j < rs1.length := by exact Nat.le_of_ble_eq_true rfl)
    (hc : X.calm = true := by rfl) (hi : X.N[i]? = some x := by rfl) (hj : X.N[j]? = some y := by rfl) (hx : Loc X.env.scope x := by first | exact Or.inl rfl | exact Or.inr rfl) (hy : Loc X.env.scope y := by first | exact Or.inl rfl | exact Or.inr rfl) (hfx : X.fn x = true ∨ X.env.scope.names.lookup x = some .local := by first | exact .inl rfl | exact .inr rfl) (hfy : X.fn y = true ∨ X.env.scope.names.lookup y = some .local := by first | exact .inl rfl | exact .inr rfl)
    (hn : (assignEach [.Name x pa, .Name y pb] X.env).length = 2 := by rfl) (hst : (assignEach [.Name x pa, .Name y pb] X.env).findIdx? (·.1) = none := by rfl)
    (hp1 : (assignEach [.Name x pa, .Name y pb] X.env).map (·.2) = assign (.Name x pa) X.env :: (assignEach [.Name y pb] X.env).map (·.2) := by rfl) (hp2 : (assignEach [.Name y pb] X.env).map (·.2) = assign (.Name y pb) X.env :: (assignEach [] X.env).map (·.2) := by rfl)
    (hs : swapsWithSole [.Tuple [.Name x pa, .Name y pb] kt pt] (.Tuple [a, b] k2 pt2) pos.line X.env = pure false := by rfl) (hw : swappedStores [.Tuple [.Name x pa, .Name y pb] kt pt] (.Tuple [a, b] k2 pt2) X.env = pure none := by rfl)
    (h1 : (assignEach [.Tuple [.Name x pa, .Name y pb] kt pt] X.env).map (·.2) = [assign (.Tuple [.Name x pa, .Name y pb] kt pt) X.env] := by rfl) : Ex X rs (.Assign [.Tuple [.Name x pa, .Name y pb] kt pt] (.Tuple [a, b] k2 pt2) pos) (.nx ((rs1.set i ra').set j rb')) := Ex.tup2 (ta := a) (tb := b) i j h ea eb hi' hj' hc nd hi hj hx hy hfx hfy hn hst hp1 hp2 hs hw h1
theorem tgn (i : Nat) {x : Str} {pos : Pos} {d : PyData} (nd : X.N.Nodup) (hn : i < rs.length := by exact Nat.le_of_ble_eq_true rfl) (hi : X.N[i]? = some x := by rfl) (hx : Loc X.env.scope x := by first | exact Or.inl rfl | exact Or.inr rfl) (hf : X.fn x = true ∨ X.env.scope.names.lookup x = some .local := by first | exact .inl rfl | exact .inr rfl) : Tg X (.Name x pos) d rs (rs.set i (.d d)) [i] := Tg.name i hn nd hi hx hf
theorem tg1 {e : Expr} {es : List Expr} {d : PyData} {ds : List PyData} {j1 j2 : List Nat} (h : Tg X e d rs rs1 j1) (hs : TgL X es ds rs1 rs2 j2) (ha : (assignEach (e :: es) X.env).map (·.2) = assign e X.env :: (assignEach es X.env).map (·.2) := by rfl) : TgL X (e :: es) (d :: ds) rs rs2 (j1 ++ j2) := TgL.cons h hs ha
theorem tg0 : TgL X [] [] rs rs [] := TgL.nil
theorem tgt {es : List Expr} {xs : List PyData} {js : List Nat} {k : Nat} {pos : Pos} (h : TgL X es xs rs rs' js) (hc : X.calm = true := by rfl) (hn : (assignEach es X.env).length = xs.length := by rfl) (hst : (assignEach es X.env).findIdx? (·.1) = none := by rfl) : Tg X (.Tuple es k pos) (.tuple xs) rs rs' js := Tg.tup h hc hn hst
theorem stgt {tg e : Expr} {x : PyData} {pos : Pos} (h : Ev X pu rs e (.d x) rs1) {js : List Nat} (ht : Tg X tg x rs1 rs2 js) (hs : swapsWithSole [tg] e pos.line X.env = pure false := by rfl) (hw : swappedStores [tg] e X.env = pure none := by rfl) (h1 : (assignEach [tg] X.env).map (·.2) = [assign tg X.env] := by rfl) : Ex X rs (.Assign [tg] e pos) (.nx rs2) := Ex.tgt h ht hs hw h1
theorem sappend (i : Nat) {x : Str} {e : Expr} {xs : List PyData} {y : PyData} {px apos cpos pos : Pos} {xs0 : List PyData} (he : Ev X pu rs e (.d y) rs1) (hz : xs.length < sizeLine) (hi0 : rs[i]? = some (.ls xs0) := by rfl) (hi : rs1[i]? = some (.ls xs) := by rfl)
    (hN : X.N[i]? = some x := by rfl) (hv : Vis X.env.scope x := by first | exact Or.inl rfl | exact Or.inr (Or.inl rfl) | exact Or.inr (Or.inr rfl)) (hd : (x == ("__debug__" : Str)) = false := by decide) (hcd : (x == ("__classdict__" : Str)) = false := by decide)
    (hst : starEach (e :: []) X.env = (false, eval e X.env) :: starEach [] X.env := by rfl)
    (hbase : attributeBase (.Name x px) "append" X.env (eval (.Name x px) X.env) = eval (.Name x px) X.env := by rfl)
    (hfew : ((backTo cpos (starEach (e :: []) X.env)).all (fun x => !x.1) && (backToKw cpos (keywordEach [] X.env)).all (fun x => x.1.isSome)
      && decide ((e :: []).length + ([] : List Keyword).length + (if ([] : List Keyword).isEmpty then 0 else 1) < 30)) = true := by rfl)
    (hline : (apos.endLine == cpos.line) = true := by rfl) (hplain : (backTo cpos (starEach [] X.env)).any (·.1) = false := by rfl) (hs : swapsWith (.Call (.Attribute (.Name x px) "append" apos) [e] [] cpos) none pos.line X.env = pure false := by rfl) :
    Ex X rs (.Expr (.Call (.Attribute (.Name x px) "append" apos) [e] [] cpos) pos) (.nx (rs1.set i (.ls (xs ++ [y])))) := Ex.expr (Ev.append i hi0 he hi hz hN hv hd hcd hst hbase hfew hline hplain) hs
theorem epop (i : Nat) {x : Str} {xs : List PyData} {y : PyData} {px apos cpos : Pos} (hy : xs[xs.length - 1]? = some y) (hi : rs[i]? = some (.ls xs) := by rfl)
    (hN : X.N[i]? = some x := by rfl) (hv : Vis X.env.scope x := by first | exact Or.inl rfl | exact Or.inr (Or.inl rfl) | exact Or.inr (Or.inr rfl)) (hd : (x == ("__debug__" : Str)) = false := by decide) (hcd : (x == ("__classdict__" : Str)) = false := by decide)
    (hbase : attributeBase (.Name x px) "pop" X.env (eval (.Name x px) X.env) = eval (.Name x px) X.env := by rfl) (hline : (apos.endLine == cpos.line) = true := by rfl) : Ev X false rs (.Call (.Attribute (.Name x px) "pop" apos) [] [] cpos) (.d y) (rs.set i (.ls xs.dropLast)) := Ev.pop i hi hy hN hv hd hcd hbase hline
theorem sdelD (i : Nat) {x : Str} {e : Expr} {kvs : List (PyData × PyData)} {k : PyData} {px tpos pos : Pos} (hu : X.A.units + 64 < cLine) (he : Ev X pu rs e (.d k) rs) (hk : KeyOk k) (hd : (dget kvs k).isSome = true) (hi0 : rs[i]? = some (.dc kvs) := by rfl)
    (hN : X.N[i]? = some x := by rfl) (hv : Vis X.env.scope x := by first | exact Or.inl rfl | exact Or.inr (Or.inl rfl) | exact Or.inr (Or.inr rfl)) (hd1 : (x == ("__debug__" : Str)) = false := by decide) (hcd : (x == ("__classdict__" : Str)) = false := by decide) : Ex X rs (.Delete [.Subscript (.Name x px) e tpos] pos) (.nx (rs.set i (.dc (ddel kvs k)))) := Ex.delD i hi0 he hk hd hu hN hv hd1 hcd
theorem spopD (i : Nat) {x : Str} {e : Expr} {kvs : List (PyData × PyData)} {k : PyData} {px apos cpos pos : Pos} (hu : X.A.units + 64 < cLine) (he : Ev X pu rs e (.d k) rs) (hk : KeyOk k) (hd : (dget kvs k).isSome = true) (hi0 : rs[i]? = some (.dc kvs) := by rfl)
    (hN : X.N[i]? = some x := by rfl) (hv : Vis X.env.scope x := by first | exact Or.inl rfl | exact Or.inr (Or.inl rfl) | exact Or.inr (Or.inr rfl)) (hd1 : (x == ("__debug__" : Str)) = false := by decide) (hcd : (x == ("__classdict__" : Str)) = false := by decide)
    (hst : starEach (e :: []) X.env = (false, eval e X.env) :: starEach [] X.env := by rfl)
    (hbase : attributeBase (.Name x px) "pop" X.env (eval (.Name x px) X.env) = eval (.Name x px) X.env := by rfl)
    (hfew : ((backTo cpos (starEach (e :: []) X.env)).all (fun x => !x.1) && (backToKw cpos (keywordEach [] X.env)).all (fun x => x.1.isSome)
      && decide ((e :: []).length + ([] : List Keyword).length + (if ([] : List Keyword).isEmpty then 0 else 1) < 30)) = true := by rfl)
    (hline : (apos.endLine == cpos.line) = true := by rfl) (hplain : (backTo cpos (starEach [] X.env)).any (·.1) = false := by rfl) (hs : swapsWith (.Call (.Attribute (.Name x px) "pop" apos) [e] [] cpos) none pos.line X.env = pure false := by rfl) :
    Ex X rs (.Expr (.Call (.Attribute (.Name x px) "pop" apos) [e] [] cpos) pos) (.nx (rs.set i (.dc (ddel kvs k)))) := Ex.expr (Ev.popD i hi0 he hk hd hu hN hv hd1 hcd hst hbase hfew hline hplain) hs
end
end Ab

namespace Ab
open PySem PySem.Spec PyProof.Rows L2

/-! ### plain things as data -/
class En (α : Type) where
  e : α → PyData
  im : ∀ x, imm (e x) = true
  lay : ∀ x, (e x).canLay0 = true
  n : Nat
  dep : ∀ x, (e x).depth ≤ n
  eqv : ∀ x y, PyData.eqv (e x) (e y) = true ↔ x = y
  key : ∀ x y, keyOf (e x) = keyOf (e y) → x = y
  kdep : ∀ x, (keyOf (e x)).depth ≤ n
  alk : ∀ x y, PySem.W.alike (e x) (e y) = true
open En (e)
theorem depthAll_le {α : Type} {f : α → PyData} {n : Nat} (h : ∀ x, (f x).depth ≤ n) : ∀ l : List α, PyData.depthAll (l.map f) ≤ n
  | [] => by simp [PyData.depthAll]
  | x :: l => by
    rw [List.map_cons, PyData.depthAll]
    exact Nat.max_le.mpr ⟨h x, depthAll_le h l⟩
theorem keysDepth_le {α : Type} {f : α → PyData} {n : Nat} (h : ∀ x, (keyOf (f x)).depth ≤ n) : ∀ l : List α, NestedKey.depthAll (keysOf (l.map f)) ≤ n
  | [] => by simp [keysOf, NestedKey.depthAll]
  | x :: l => by
    rw [List.map_cons, keysOf, NestedKey.depthAll]
    exact Nat.max_le.mpr ⟨h x, keysDepth_le h l⟩
theorem canLayAll_map {α : Type} {f : α → PyData} (h : ∀ x, (f x).canLay0 = true) : ∀ l : List α, PyData.canLayAll0 (l.map f) = true
  | [] => by simp [PyData.canLayAll0]
  | x :: l => by rw [List.map_cons, PyData.canLayAll0, h x, canLayAll_map h l]; rfl
theorem eqvAll_map {α : Type} {f : α → PyData} (h : ∀ x y, PyData.eqv (f x) (f y) = true ↔ x = y) : ∀ l m : List α, PyData.eqvAll (l.map f) (m.map f) = true ↔ l = m
  | [], [] => by simp [PyData.eqvAll]
  | x :: l, [] => by simp [PyData.eqvAll]
  | [], y :: m => by simp [PyData.eqvAll]
  | x :: l, y :: m => by
    rw [List.map_cons, List.map_cons, PyData.eqvAll, Bool.and_eq_true, h x y, eqvAll_map h l m, List.cons.injEq]
theorem keysOf_map {α : Type} {f : α → PyData} (h : ∀ x y, keyOf (f x) = keyOf (f y) → x = y) : ∀ l m : List α, keysOf (l.map f) = keysOf (m.map f) → l = m
  | [], [], _ => rfl
  | x :: l, [], q => by simp [keysOf] at q
  | [], y :: m, q => by simp [keysOf] at q
  | x :: l, y :: m, q => by
    simp only [List.map_cons, keysOf, List.cons.injEq] at q
    rw [h x y q.1, keysOf_map h l m q.2]
theorem alikeAll_map {α : Type} {f : α → PyData} (h : ∀ x y, PySem.W.alike (f x) (f y) = true) : ∀ l m : List α, PySem.W.alikeAll (l.map f) (m.map f) = true
  | [], [] => by simp [PySem.W.alikeAll]
  | x :: l, [] => by simp [PySem.W.alikeAll]
  | [], y :: m => by simp [PySem.W.alikeAll]
  | x :: l, y :: m => by
    rw [List.map_cons, List.map_cons, PySem.W.alikeAll, h x y, alikeAll_map h l m]; rfl
instance : En Int where
  e := .int
  im _ := rfl
  lay _ := rfl
  n := 0
  dep _ := Nat.le_refl _
  eqv x y := by simp [PyData.eqv]
  key x y h := by simpa [keyOf] using h
  kdep x := by simp [keyOf, NestedKey.depth]
  alk x y := by simp [PySem.W.alike]
instance : En Bool where
  e := .bool
  im _ := rfl
  lay _ := rfl
  n := 0
  dep _ := Nat.le_refl _
  eqv x y := by simp [PyData.eqv]
  key x y h := by cases x <;> cases y <;> simp [keyOf] at h <;> rfl
  kdep x := by simp [keyOf, NestedKey.depth]
  alk x y := by simp [PySem.W.alike]
instance {α β : Type} [En α] [En β] : En (α × β) where
  e p := .tuple [e p.1, e p.2]
  im p := by simp [imm, imms, En.im]
  lay p := by simp [PyData.canLay0, PyData.canLayAll0, En.lay]
  n := max (En.n α) (En.n β) + 1
  dep p := by
    have h1 := En.dep p.1
    have h2 := En.dep p.2
    simp only [PyData.depth, PyData.depthAll]
    omega
  eqv p q := by
    obtain ⟨a, b⟩ := p
    obtain ⟨c, d⟩ := q
    simp [PyData.eqv, PyData.eqvAll, En.eqv]
  key p q h := by
    obtain ⟨a, b⟩ := p
    obtain ⟨c, d⟩ := q
    simp [keyOf, keysOf] at h
    rw [En.key _ _ h.1, En.key _ _ h.2]
  kdep p := by
    have h1 := En.kdep p.1
    have h2 := En.kdep p.2
    simp only [keyOf, keysOf, NestedKey.depth, NestedKey.depthAll]
    omega
  alk p q := by simp [PySem.W.alike, PySem.W.alikeAll, En.alk]
instance {α : Type} [En α] : En (List α) where
  e l := .tuple (l.map e)
  im l := by rw [imm]; exact imms_map fun x _ => En.im x
  lay l := by rw [PyData.canLay0]; exact canLayAll_map En.lay l
  n := En.n α + 1
  dep l := by
    rw [PyData.depth]
    exact Nat.succ_le_succ (depthAll_le En.dep l)
  eqv l m := by rw [PyData.eqv]; exact eqvAll_map En.eqv l m
  key l m h := by
    simp only [keyOf, NestedKey.tup.injEq] at h
    exact keysOf_map En.key l m h
  kdep l := by
    rw [keyOf, NestedKey.depth]
    exact Nat.succ_le_succ (keysDepth_le En.kdep l)
  alk l m := by rw [PySem.W.alike]; exact alikeAll_map En.alk l m
/-- three things in a tuple -/
structure T3 (α β γ : Type) where
  a : α
  b : β
  c : γ
instance {α β γ : Type} [En α] [En β] [En γ] : En (T3 α β γ) where
  e p := .tuple [e p.a, e p.b, e p.c]
  im p := by simp [imm, imms, En.im]
  lay p := by simp [PyData.canLay0, PyData.canLayAll0, En.lay]
  n := max (En.n α) (max (En.n β) (En.n γ)) + 1
  dep p := by
    have h1 := En.dep p.a
    have h2 := En.dep p.b
    have h3 := En.dep p.c
    simp only [PyData.depth, PyData.depthAll]
    omega
  eqv p q := by
    obtain ⟨a, b, x⟩ := p
    obtain ⟨c, d, y⟩ := q
    simp [PyData.eqv, PyData.eqvAll, En.eqv]
  key p q h := by
    obtain ⟨a, b, x⟩ := p
    obtain ⟨c, d, y⟩ := q
    simp [keyOf, keysOf] at h
    rw [En.key _ _ h.1, En.key _ _ h.2.1, En.key _ _ h.2.2]
  kdep p := by
    have h1 := En.kdep p.a
    have h2 := En.kdep p.b
    have h3 := En.kdep p.c
    simp only [keyOf, keysOf, NestedKey.depth, NestedKey.depthAll]
    omega
  alk p q := by simp [PySem.W.alike, PySem.W.alikeAll, En.alk]

abbrev es {α : Type} [En α] (l : List α) : List PyData := l.map e
/-- values -/
abbrev rd {α : Type} [En α] (x : α) : R := .d (e x)
abbrev rl {α : Type} [En α] (x : List α) : R := .ls (es x)

section
variable {α β : Type} [En α] [En β]
theorem shp (x : α) (h : En.n α ≤ 64 := by decide) : SeqAt.shaped (e x) = true := by
  unfold SeqAt.shaped
  rw [En.lay, decide_eq_true (Nat.le_trans (En.dep x) h)]
  rfl
theorem shpL (l : List α) (h : En.n α ≤ 63 := by decide) : SeqAt.shaped (.list (es l)) = true := by
  unfold SeqAt.shaped
  rw [PyData.canLay0, canLayAll_map En.lay, PyData.depth, decide_eq_true (Nat.succ_le_of_lt (Nat.lt_of_le_of_lt (depthAll_le En.dep l) (by omega)))]
  rfl
theorem eqv_dec [DecidableEq α] (x y : α) : PyData.eqv (e x) (e y) = decide (x = y) := by
  rw [Bool.eq_iff_iff, En.eqv, decide_eq_true_iff]
theorem eqvL_dec [DecidableEq α] (x y : List α) : PyData.eqv (.list (es x)) (.list (es y)) = decide (x = y) := by
  rw [PyData.eqv, Bool.eq_iff_iff, eqvAll_map En.eqv, decide_eq_true_iff]
theorem any_dec [DecidableEq α] (l : List α) (x : α) : ((es l).any fun z => PyData.eqv z (e x)) = decide (x ∈ l) := by
  rw [Bool.eq_iff_iff, List.any_eq_true, decide_eq_true_iff]
  constructor
  · rintro ⟨z, hz, h⟩
    obtain ⟨y, hy, rfl⟩ := List.mem_map.mp hz
    rw [En.eqv] at h
    exact h ▸ hy
  · exact fun h => ⟨_, List.mem_map_of_mem h, (En.eqv _ _).mpr rfl⟩
end
section
variable {X : Cx} {rs rs1 rs2 rs' : List R} {pu pu1 pu2 : Bool} {α β : Type} [En α] [En β]
theorem rm65 {k : Nat} {A : Around} (r : Room k A) : A.units + 65 < cLine := by have := r.un; omega
theorem op_eqE [DecidableEq α] {ra rb : R} {x y : α} {k : Nat} {A : Around} (r : Room k A) (ea : datOf ra = some (e x) := by rfl) (eb : datOf rb = some (e y) := by rfl) (h : En.n α ≤ 64 := by decide) (hA : X.A = A := by rfl) : OpOk X (compareOp .Eq) ra rb (.d (.bool (decide (x = y)))) := by
  subst hA
  have hu := rm65 r
  have := op_eqX (X := X) r.units ea eb (shp x h) (shp y h)
  rwa [eqv_dec] at this
theorem op_neE [DecidableEq α] {ra rb : R} {x y : α} {k : Nat} {A : Around} (r : Room k A) (ea : datOf ra = some (e x) := by rfl) (eb : datOf rb = some (e y) := by rfl) (h : En.n α ≤ 64 := by decide) (hA : X.A = A := by rfl) : OpOk X (compareOp .NotEq) ra rb (.d (.bool (!decide (x = y)))) := by
  subst hA
  have hu := rm65 r
  have := op_neX (X := X) r.units ea eb (shp x h) (shp y h)
  rwa [eqv_dec] at this
theorem op_eqEL [DecidableEq α] {ra rb : R} {x y : List α} {k : Nat} {A : Around} (r : Room k A) (ea : datOf ra = some (.list (es x)) := by rfl) (eb : datOf rb = some (.list (es y)) := by rfl) (h : En.n α ≤ 63 := by decide) (hA : X.A = A := by rfl) : OpOk X (compareOp .Eq) ra rb (.d (.bool (decide (x = y)))) := by
  subst hA
  have hu := rm65 r
  have := op_eqX (X := X) r.units ea eb (shpL x h) (shpL y h)
  rwa [eqvL_dec] at this
theorem op_neEL [DecidableEq α] {ra rb : R} {x y : List α} {k : Nat} {A : Around} (r : Room k A) (ea : datOf ra = some (.list (es x)) := by rfl) (eb : datOf rb = some (.list (es y)) := by rfl) (h : En.n α ≤ 63 := by decide) (hA : X.A = A := by rfl) : OpOk X (compareOp .NotEq) ra rb (.d (.bool (!decide (x = y)))) := by
  subst hA
  have hu := rm65 r
  have := op_neX (X := X) r.units ea eb (shpL x h) (shpL y h)
  rwa [eqvL_dec] at this
theorem op_inE [DecidableEq α] {ra : R} {x : α} {l : List α} {k : Nat} {A : Around} (r : Room k A) (ea : datOf ra = some (e x) := by rfl) (h : En.n α ≤ 63 := by decide) (hA : X.A = A := by rfl) : OpOk X (compareOp .In) ra (rd l) (.d (.bool (decide (x ∈ l)))) := by
  subst hA
  have hu := rm65 r
  have := op_inT (X := X) hu ea (shp x (by omega)) (shpL l h)
  rwa [any_dec] at this
theorem op_notInE [DecidableEq α] {ra : R} {x : α} {l : List α} {k : Nat} {A : Around} (r : Room k A) (ea : datOf ra = some (e x) := by rfl) (h : En.n α ≤ 63 := by decide) (hA : X.A = A := by rfl) : OpOk X (compareOp .NotIn) ra (rd l) (.d (.bool (!decide (x ∈ l)))) := by
  subst hA
  have hu := rm65 r
  have := op_notInT (X := X) hu ea (shp x (by omega)) (shpL l h)
  rwa [any_dec] at this
theorem op_inEL [DecidableEq α] {ra rb : R} {x : α} {l : List α} {k : Nat} {A : Around} (r : Room k A) (ea : datOf ra = some (e x) := by rfl) (eb : datOf rb = some (.list (es l)) := by rfl) (h : En.n α ≤ 63 := by decide) (hA : X.A = A := by rfl) : OpOk X (compareOp .In) ra rb (.d (.bool (decide (x ∈ l)))) := by
  subst hA
  have hu := rm65 r
  have := op_inX (X := X) hu ea eb (shp x (by omega)) (shpL l h)
  rwa [any_dec] at this
theorem op_notInEL [DecidableEq α] {ra rb : R} {x : α} {l : List α} {k : Nat} {A : Around} (r : Room k A) (ea : datOf ra = some (e x) := by rfl) (eb : datOf rb = some (.list (es l)) := by rfl) (h : En.n α ≤ 63 := by decide) (hA : X.A = A := by rfl) : OpOk X (compareOp .NotIn) ra rb (.d (.bool (!decide (x ∈ l)))) := by
  subst hA
  have hu := rm65 r
  have := op_notInX (X := X) hu ea eb (shp x (by omega)) (shpL l h)
  rwa [any_dec] at this
end

/-! ### dicts: their keys, in order; one value for all -/
section
variable {α : Type} [En α]
def dcOf (v : PyData) (l : List α) : List (PyData × PyData) := l.map fun c => (e c, v)
theorem keyE [DecidableEq α] {x y : α} : keyOf (e x) = keyOf (e y) ↔ x = y := ⟨En.key x y, fun h => by rw [h]⟩
theorem dget_dc [DecidableEq α] (v : PyData) (l : List α) (x : α) : (dget (dcOf v l) (e x)).isSome = decide (x ∈ l) := by
  unfold dget dcOf
  rw [Option.isSome_map, Bool.eq_iff_iff, List.find?_isSome, decide_eq_true_iff]
  constructor
  · rintro ⟨kv, hk, h⟩
    obtain ⟨c, hc, rfl⟩ := List.mem_map.mp hk
    have := of_decide_eq_true h
    exact keyE.mp this ▸ hc
  · exact fun h => ⟨_, List.mem_map_of_mem h, decide_eq_true rfl⟩
theorem ddel_dc [DecidableEq α] (v : PyData) (l : List α) (x : α) : ddel (dcOf v l) (e x) = dcOf v (l.filter fun c => decide (c ≠ x)) := by
  unfold ddel dcOf
  rw [List.filter_map]
  congr 1
  apply List.filter_congr
  intro c _
  simp only [Function.comp]
  exact decide_eq_decide.mpr (not_congr keyE)
/-- one more -/
def ins [DecidableEq α] (l : List α) (x : α) : List α := if x ∈ l then l else l ++ [x]
theorem dput_dc [DecidableEq α] (v : PyData) (l : List α) (x : α) : dput (dcOf v l) (e x) v = dcOf v (ins l x) := by
  unfold dput ins
  rw [dget_dc]
  by_cases h : x ∈ l
  · rw [decide_eq_true h, if_pos rfl, if_pos h]
    unfold dcOf
    rw [List.map_map]
    apply List.map_congr_left
    intro c _
    simp only [Function.comp]
    split <;> rfl
  · rw [decide_eq_false h, if_neg Bool.false_ne_true, if_neg h]
    simp [dcOf]
def dd [DecidableEq α] (l : List α) : List α := l.foldl ins []
theorem mergeD_dc [DecidableEq α] (v : PyData) : ∀ (l acc : List α), mergeD (dcOf v acc) (l.map fun c => (e c, v)) = dcOf v (l.foldl ins acc)
  | [], acc => rfl
  | x :: l, acc => by
    rw [List.map_cons, mergeD, List.foldl_cons]
    show mergeD (dput (dcOf v acc) (e x) v) _ = _
    rw [dput_dc, mergeD_dc v l (ins acc x)]
    rfl
theorem ins_mem [DecidableEq α] {l : List α} {x y : α} : y ∈ ins l x ↔ y ∈ l ∨ y = x := by
  unfold ins
  split
  · constructor
    · exact .inl
    · rintro (h | rfl)
      · exact h
      · assumption
  · simp
theorem ins_nodup [DecidableEq α] {l : List α} {x : α} (h : l.Nodup) : (ins l x).Nodup := by
  unfold ins
  split
  · exact h
  · next q =>
    refine List.nodup_append.mpr ⟨h, by simp, ?_⟩
    intro a ha b hb e
    simp at hb
    subst hb; subst e
    exact q ha
theorem ins_length [DecidableEq α] (l : List α) (x : α) : (ins l x).length ≤ l.length + 1 := by
  unfold ins
  split
  · omega
  · simp
theorem foldl_ins_mem [DecidableEq α] : ∀ {l acc : List α} {y : α}, y ∈ l.foldl ins acc ↔ y ∈ acc ∨ y ∈ l
  | [], acc, y => by simp
  | x :: l, acc, y => by
    rw [List.foldl_cons, foldl_ins_mem, ins_mem, List.mem_cons, or_assoc]
theorem foldl_ins_nodup [DecidableEq α] : ∀ {l acc : List α}, acc.Nodup → (l.foldl ins acc).Nodup
  | [], _, h => h
  | x :: l, acc, h => foldl_ins_nodup (l := l) (ins_nodup h)
theorem foldl_ins_length [DecidableEq α] : ∀ (l acc : List α), (l.foldl ins acc).length ≤ acc.length + l.length
  | [], acc => by simp
  | x :: l, acc => by
    rw [List.foldl_cons]
    have h1 := foldl_ins_length l (ins acc x)
    have h2 := ins_length acc x
    simp only [List.length_cons]
    omega
theorem dd_mem [DecidableEq α] {l : List α} {y : α} : y ∈ dd l ↔ y ∈ l := by unfold dd; rw [foldl_ins_mem]; simp
theorem dd_nodup [DecidableEq α] {l : List α} : (dd l).Nodup := foldl_ins_nodup List.nodup_nil
theorem dd_length [DecidableEq α] (l : List α) : (dd l).length ≤ l.length := by have := foldl_ins_length l []; simpa [dd] using this
theorem foldl_ins_id [DecidableEq α] : ∀ {l acc : List α}, (acc ++ l).Nodup → l.foldl ins acc = acc ++ l
  | [], acc, _ => by simp
  | x :: l, acc, h => by
    rw [List.foldl_cons]
    have hx : x ∉ acc := fun q => (List.nodup_append.mp h).2.2 x q x (by simp) rfl
    have e1 : ins acc x = acc ++ [x] := by unfold ins; rw [if_neg hx]
    rw [e1, foldl_ins_id (by simpa using h)]
    simp
theorem dd_id [DecidableEq α] {l : List α} (h : l.Nodup) : dd l = l := by unfold dd; rw [foldl_ins_id (by simpa using h)]; simp
end

/-! ### orders -/
class EnO (α : Type) extends En α where
  le : α → α → Bool
  leE : ∀ x y, PySem.W.dataLe false id (e x) (e y) = le x y
  able : ∀ l : List α, PySem.W.Sortable (l.map e)
instance : EnO Int where
  le x y := decide (x ≤ y)
  leE x y := congrFun (congrFun (PySem.W.dataLe_int (id : Int → Int)) x) y
  able l := PySem.W.Sortable.others fun b => ⟨(fun h => nomatch h), fun _ h => nomatch h⟩
def leC (p q : Int × Int) : Bool := decide (p.1 < q.1 ∨ (p.1 = q.1 ∧ p.2 ≤ q.2))
instance : EnO (Int × Int) where
  le := leC
  leE x y := congrFun (congrFun (PySem.W.dataLe_ii (fun p : Int × Int => p.1) (fun p : Int × Int => p.2)) x) y
  able l := PySem.W.Sortable.tuples fun b => ⟨_, _, rfl⟩
section
variable {X : Cx} {α : Type} [EnO α]
def sorted (l : List α) : List α := l.mergeSort EnO.le
theorem srtE (l : List α) : srt (es l) = es (sorted l) := by
  unfold srt sorted es
  exact (PySem.W.sort_maps e fun a _ b _ => (EnO.leE a b).symm).symm
theorem sortOkE {k : Nat} (r : Room k X.A) (l : List α) (hl : l.length ≤ sizeLine) (h : En.n α ≤ 100 := by decide) : SortOk X (es l) where
  alike := PySem.W.AllAlike.of En.alk
  able := EnO.able l
  len := by rw [List.length_map]; exact hl
  room d hd := by
    obtain ⟨x, _, rfl⟩ := List.mem_map.mp hd
    have h1 := En.dep x
    have := r.un
    omega
theorem sorted_length (l : List α) : (sorted l).length = l.length := List.length_mergeSort l
theorem sorted_mem {l : List α} {x : α} : x ∈ sorted l ↔ x ∈ l := List.mem_mergeSort
theorem ca_sortL {k : Nat} (r : Room k X.A) {ra : R} {l : List α} (hl : l.length ≤ sizeLine) (ea : seqOf ra = some (es l) := by rfl) (h : En.n α ≤ 100 := by decide) : CaOk X (.builtin "sorted") [ra] (rl (sorted l)) := by
  have := ca_sortedL (X := X) ea (sortOkE r l hl h)
  rwa [srtE] at this
theorem ca_sortT {k : Nat} (r : Room k X.A) {l : List α} (hl : l.length ≤ sizeLine) (h : En.n α ≤ 100 := by decide) : CaOk X (.builtin "sorted") [rd l] (rl (sorted l)) := by
  have := ca_sortedT (X := X) (sortOkE r l hl h)
  rwa [srtE] at this
theorem ca_sortD {k : Nat} (r : Room k X.A) (hc : X.calm = true) {v : PyData} {ra : R} {l : List α} (hl : l.length ≤ sizeLine) (ea : dictOf ra = some (dcOf v l) := by rfl) (h : En.n α ≤ 100 := by decide) : CaOk X (.builtin "sorted") [ra] (rl (sorted l)) := by
  have e1 : (dcOf v l).map (·.1) = es l := by unfold dcOf; rw [List.map_map]; rfl
  have := ca_sortedD (X := X) hc ea (by rw [e1]; exact sortOkE r l hl h)
  rwa [e1, srtE] at this
end
section
variable {X : Cx} {rs rs1 rs2 rs' : List R} {pu pu1 pu2 : Bool} {α β : Type} [En α] [En β]
theorem keyOk {x : α} (h : En.n α ≤ 8 := by decide) (ht : ∃ ys, e x = .tuple ys := by exact ⟨_, rfl⟩) : KeyOk (e x) := ⟨En.im x, Nat.le_trans (En.kdep x) h, ht⟩
theorem op_inD [DecidableEq α] {k : Nat} {A : Around} {v : PyData} {rb : R} {l : List α} {x : α} (r : Room k A) (eb : dictOf rb = some (dcOf v l) := by rfl) (hA : X.A = A := by rfl) (h : En.n α ≤ 8 := by decide) (ht : ∃ ys, e x = .tuple ys := by exact ⟨_, rfl⟩) : OpOk X (compareOp .In) (rd x) rb (.d (.bool (decide (x ∈ l)))) := by
  subst hA
  have := op_inDict (X := X) r.units (keyOk h ht) eb
  rwa [dget_dc] at this
theorem op_notInD [DecidableEq α] {k : Nat} {A : Around} {v : PyData} {rb : R} {l : List α} {x : α} (r : Room k A) (eb : dictOf rb = some (dcOf v l) := by rfl) (hA : X.A = A := by rfl) (h : En.n α ≤ 8 := by decide) (ht : ∃ ys, e x = .tuple ys := by exact ⟨_, rfl⟩) : OpOk X (compareOp .NotIn) (rd x) rb (.d (.bool (!decide (x ∈ l)))) := by
  subst hA
  have := op_notInDict (X := X) r.units (keyOk h ht) eb
  rwa [dget_dc] at this
theorem ca_dict [DecidableEq α] {k : Nat} {v : PyData} {ra : R} {l : List α} (r : Room k X.A) (hc : X.calm = true) (ea : seqOf ra = some (l.map fun c => .tuple [e c, v])) (h : En.n α ≤ 8 := by decide) (ht : ∀ x : α, ∃ ys, e x = .tuple ys := by exact fun _ => ⟨_, rfl⟩) : CaOk X (.type "dict") [ra] (.dc (dcOf v (dd l))) := by
  have e1 : (l.map fun c => PyData.tuple [e c, v]) = (l.map fun c => (e c, v)).map pairD := by rw [List.map_map]; rfl
  rw [e1] at ea
  have := ca_dictL (X := X) hc r.units ea (fun kv hk => by obtain ⟨c, _, rfl⟩ := List.mem_map.mp hk; exact keyOk h (ht c))
  rwa [show (mergeD [] (l.map fun c => (e c, v))) = dcOf v (dd l) from mergeD_dc v l []] at this
end
end Ab

namespace Ab
open PySem PySem.Spec PyProof.Rows L2
open En (e)

/-! ### what defs compute, as plain functions -/
def S1 {α : Type} (pre : α → Prop) (a : α → R) (r : α → R) : List R → R → Prop := fun al x => ∃ z, pre z ∧ al = [a z] ∧ x = r z
def S2 {α β : Type} (pre : α → β → Prop) (a : α → R) (b : β → R) (r : α → β → R) : List R → R → Prop := fun al x => ∃ z w, pre z w ∧ al = [a z, b w] ∧ x = r z w
def S3 {α β γ : Type} (pre : α → β → γ → Prop) (a : α → R) (b : β → R) (c : γ → R) (r : α → β → γ → R) : List R → R → Prop := fun al x => ∃ z w u, pre z w u ∧ al = [a z, b w, c u] ∧ x = r z w u
def S4 {α β γ δ : Type} (pre : α → β → γ → δ → Prop) (a : α → R) (b : β → R) (c : γ → R) (d : δ → R) (r : α → β → γ → δ → R) : List R → R → Prop := fun al x => ∃ z w u t, pre z w u t ∧ al = [a z, b w, c u, d t] ∧ x = r z w u t

section
variable {X : Cx} {rs rs1 rs2 rs' : List R} {pu pu1 pu2 pp : Bool} {α β : Type} [En α] [En β]
theorem es_get {l : List α} {i : Nat} {x : PyData} (h : (es l)[i]? = some x) : ∃ y, l[i]? = some y ∧ x = e y := by
  rw [List.getElem?_map] at h
  obtain ⟨y, h1, h2⟩ := Option.map_eq_some_iff.mp h
  exact ⟨y, h1, h2.symm⟩
theorem take_succ_get {α : Type} {l : List α} {i : Nat} {y : α} (h : l[i]? = some y) : l.take (i + 1) = l.take i ++ [y] := by
  rw [List.take_add_one, h]; rfl
theorem mem_of_get {α : Type} {l : List α} {i : Nat} {y : α} (h : l[i]? = some y) : y ∈ l := List.mem_of_getElem? h

/-- {k: v for .. in ..}, v the same for all -/
theorem Ev.dxC [DecidableEq α] {t : Bool} {scope : Scope} {own : List (Str × Nat)} {tg kx vx iter : Expr} {c : Option Expr} {r : R} {l : List β} {v : PyData} {pos : Pos} (cf : β → Bool) (g : β → α) (rz : β → List R) (js : List Nat)
    (hl : Ev X pu rs iter r rs1) (hw : walkOf r = some (t, es l)) (hz : l.length < sizeLine)
    (ht : ∀ x ∈ l, AllB X scope fun B => Tg B tg (e x) (wipeR (own.map (·.2)) rs1) (rz x) js) (hj : ∀ j ∈ js, j ∈ own.map (·.2)) (hc : ∀ x ∈ l, EtB X scope true (rz x) c (cf x) (rz x))
    (hk : ∀ x ∈ l, cf x = true → AllB X scope fun B => Ev B true (rz x) kx (rd (g x)) (rz x)) (hv : ∀ x ∈ l, cf x = true → AllB X scope fun B => Ev B true (rz x) vx (.d v) (rz x))
    (ok : LcOk X scope own) {k : Nat} (hr : Room k X.A) (hs : ∀ x, foldedSetIterable iter X.env x = pure x := by intro _; rfl) (hn : En.n α ≤ 8 := by decide) (hT : ∀ x : α, ∃ ys, e x = .tuple ys := by exact fun _ => ⟨_, rfl⟩) :
    Ev X pu rs (.DictComp kx vx [⟨tg, iter, ifsOf c, 0⟩] scope pos) (.dc (dcOf v (dd ((l.filter cf).map g)))) rs1 := by
  refine Ev.dx (t := t) (items := es l) (fun i acc => acc = dcOf v (dd (((l.take i).filter cf).map g))) hl hw rfl ?_ ?_ ?_ ok hr.units hs
  · rintro i x acc hx rfl
    obtain ⟨y, hy, rfl⟩ := es_get hx
    have hm := mem_of_get hy
    refine ⟨rz y, js, cf y, ht y hm, hj, hc y hm, fun q => ⟨e (g y), v, keyOk hn (hT _), hk y hm q, hv y hm q, ?_⟩, fun q => ?_⟩
    · show dput _ _ _ = _
      rw [dput_dc, take_succ_get hy]
      simp [q, dd]
    · show dcOf _ _ = dcOf _ _
      rw [take_succ_get hy]
      simp [q]
  · rintro acc h
    rw [h]
    simp [List.take_of_length_le]
  · rintro i acc rfl
    have h1 := dd_length (((l.take i).filter cf).map g)
    have h2 : ((l.take i).filter cf).length ≤ (l.take i).length := List.length_filter_le _ _
    have h3 : (l.take i).length ≤ l.length := List.length_take_le' _ _
    unfold dcOf
    rw [List.length_map] at h1 ⊢
    omega
/-- [g x for x in l if cf x] without a change -/
theorem Ev.lcM {t : Bool} {scope : Scope} {own : List (Str × Nat)} {tg elt iter : Expr} {c : Option Expr} {r : R} {l : List β} {pos : Pos} (cf : β → Bool) (g : β → PyData) (rz : β → List R) (js : List Nat)
    (hl : Ev X pu rs iter r rs1) (hw : walkOf r = some (t, es l)) (hz : l.length ≤ sizeLine)
    (ht : ∀ x ∈ l, AllB X scope fun B => Tg B tg (e x) (wipeR (own.map (·.2)) rs1) (rz x) js) (hj : ∀ j ∈ js, j ∈ own.map (·.2)) (hc : ∀ x ∈ l, EtB X scope pp (rz x) c (cf x) (rz x))
    (hk : ∀ x ∈ l, cf x = true → AllB X scope fun B => Ev B pp (rz x) elt (.d (g x)) (rz x)) (hb : ∀ x ∈ l, back (own.map (·.2)) rs1 (rz x) = rs1)
    (ok : LcOk X scope own) (hs : ∀ x, foldedSetIterable iter X.env x = pure x := by intro _; rfl) :
    Ev X (pu && pp) rs (.ListComp elt [⟨tg, iter, ifsOf c, 0⟩] scope pos) (.ls ((l.filter cf).map g)) rs1 := by
  refine Ev.lc (t := t) (items := es l) (fun i rs acc => rs = rs1 ∧ acc = ((l.take i).filter cf).map g) hl hw ⟨rfl, rfl⟩ ?_ ?_ ?_ ok hs
  · rintro i x rs acc hx ⟨rfl, rfl⟩
    obtain ⟨y, hy, rfl⟩ := es_get hx
    have hm := mem_of_get hy
    refine ⟨rz y, js, cf y, rz y, ht y hm, hj, hc y hm, fun q => ⟨g y, rz y, hk y hm q, hb y hm, ?_⟩, fun q => ⟨hb y hm, ?_⟩⟩
    · rw [take_succ_get hy]; simp [q]
    · rw [take_succ_get hy]; simp [q]
  · rintro rs acc ⟨rfl, rfl⟩
    simp [List.take_of_length_le]
  · rintro i rs acc ⟨rfl, rfl⟩
    have h2 : ((l.take i).filter cf).length ≤ (l.take i).length := List.length_filter_le _ _
    have h3 : (l.take i).length ≤ l.length := List.length_take_le' _ _
    rw [List.length_map]
    omega
/-- name = [g x for x in l if cf x] -/
theorem Ex.setLcM (i : Nat) {y : Str} {py spos : Pos} {t : Bool} {scope : Scope} {own : List (Str × Nat)} {tg elt iter : Expr} {c : Option Expr} {r : R} {l : List β} {pos : Pos} (cf : β → Bool) (g : β → PyData) (rz : β → List R) (js : List Nat)
    (hl : Ev X pu rs iter r rs1) (hw : walkOf r = some (t, es l)) (hz : l.length ≤ sizeLine)
    (ht : ∀ x ∈ l, AllB X scope fun B => Tg B tg (e x) (wipeR (own.map (·.2)) rs1) (rz x) js) (hj : ∀ j ∈ js, j ∈ own.map (·.2)) (hc : ∀ x ∈ l, EtB X scope pp (rz x) c (cf x) (rz x))
    (hk : ∀ x ∈ l, cf x = true → AllB X scope fun B => Ev B pp (rz x) elt (.d (g x)) (rz x)) (hb : ∀ x ∈ l, back (own.map (·.2)) rs1 (rz x) = rs1)
    (ok : LcOk X scope own) (hi : i < rs1.length := by exact Nat.le_of_ble_eq_true rfl) (hy : X.N[i]? = some y := by rfl) (hyl : X.env.scope.names.lookup y = some .local := by rfl) (hsw : swapsWith (.ListComp elt [⟨tg, iter, ifsOf c, 0⟩] scope pos) (some (.Name y py)) spos.line X.env = pure true := by rfl) (hs : ∀ x, foldedSetIterable iter X.env x = pure x := by intro _; rfl) :
    Ex X rs (.Assign [.Name y py] (.ListComp elt [⟨tg, iter, ifsOf c, 0⟩] scope pos) spos) (.nx (rs1.set i (.ls ((l.filter cf).map g)))) := by
  refine Ex.setLc (rs' := rs1) (pp := pp) i (t := t) (items := es l) (fun i rs acc => rs = rs1 ∧ acc = ((l.take i).filter cf).map g) hl hw ⟨rfl, rfl⟩ ?_ ?_ ?_ ok hi hy hyl hsw hs
  · rintro i x rs acc hx ⟨rfl, rfl⟩
    obtain ⟨y, hy, rfl⟩ := es_get hx
    have hm := mem_of_get hy
    refine ⟨rz y, js, cf y, rz y, ht y hm, hj, hc y hm, fun q => ⟨g y, rz y, hk y hm q, hb y hm, ?_⟩, fun q => ⟨hb y hm, ?_⟩⟩
    · rw [take_succ_get hy]; simp [q]
    · rw [take_succ_get hy]; simp [q]
  · rintro rs acc ⟨rfl, rfl⟩
    simp [List.take_of_length_le]
  · rintro i rs acc ⟨rfl, rfl⟩
    have h2 : ((l.take i).filter cf).length ≤ (l.take i).length := List.length_filter_le _ _
    have h3 : (l.take i).length ≤ l.length := List.length_take_le' _ _
    rw [List.length_map]
    omega
/-- name = {k: v for ..} -/
theorem Ex.setDxC [DecidableEq α] (i : Nat) {y : Str} {py spos : Pos} {t : Bool} {scope : Scope} {own : List (Str × Nat)} {tg kx vx iter : Expr} {c : Option Expr} {r : R} {l : List β} {v : PyData} {pos : Pos} (cf : β → Bool) (g : β → α) (rz : β → List R) (js : List Nat)
    (hl : Ev X pu rs iter r rs1) (hw : walkOf r = some (t, es l)) (hz : l.length < sizeLine)
    (ht : ∀ x ∈ l, AllB X scope fun B => Tg B tg (e x) (wipeR (own.map (·.2)) rs1) (rz x) js) (hj : ∀ j ∈ js, j ∈ own.map (·.2)) (hc : ∀ x ∈ l, EtB X scope true (rz x) c (cf x) (rz x))
    (hk : ∀ x ∈ l, cf x = true → AllB X scope fun B => Ev B true (rz x) kx (rd (g x)) (rz x)) (hv : ∀ x ∈ l, cf x = true → AllB X scope fun B => Ev B true (rz x) vx (.d v) (rz x))
    (ok : LcOk X scope own) {k : Nat} (hr : Room k X.A) (hi : i < rs1.length := by exact Nat.le_of_ble_eq_true rfl) (hy : X.N[i]? = some y := by rfl) (hyl : X.env.scope.names.lookup y = some .local := by rfl) (hsw : swapsWith (.DictComp kx vx [⟨tg, iter, ifsOf c, 0⟩] scope pos) (some (.Name y py)) spos.line X.env = pure true := by rfl) (hs : ∀ x, foldedSetIterable iter X.env x = pure x := by intro _; rfl) (hn : En.n α ≤ 8 := by decide) (hT : ∀ x : α, ∃ ys, e x = .tuple ys := by exact fun _ => ⟨_, rfl⟩) :
    Ex X rs (.Assign [.Name y py] (.DictComp kx vx [⟨tg, iter, ifsOf c, 0⟩] scope pos) spos) (.nx (rs1.set i (.dc (dcOf v (dd ((l.filter cf).map g)))))) := by
  refine Ex.setDx i (t := t) (items := es l) (fun i acc => acc = dcOf v (dd (((l.take i).filter cf).map g))) hl hw rfl ?_ ?_ ?_ ok hr.units hi hy hyl hsw hs
  · rintro i x acc hx rfl
    obtain ⟨y, hy, rfl⟩ := es_get hx
    have hm := mem_of_get hy
    refine ⟨rz y, js, cf y, ht y hm, hj, hc y hm, fun q => ⟨e (g y), v, keyOk hn (hT _), hk y hm q, hv y hm q, ?_⟩, fun q => ?_⟩
    · show dput _ _ _ = _
      rw [dput_dc, take_succ_get hy]
      simp [q, dd]
    · show dcOf _ _ = dcOf _ _
      rw [take_succ_get hy]
      simp [q]
  · rintro acc h
    rw [h]
    simp [List.take_of_length_le]
  · rintro i acc rfl
    have h1 := dd_length (((l.take i).filter cf).map g)
    have h2 : ((l.take i).filter cf).length ≤ (l.take i).length := List.length_filter_le _ _
    have h3 : (l.take i).length ≤ l.length := List.length_take_le' _ _
    unfold dcOf
    rw [List.length_map] at h1 ⊢
    omega

/-- for .. in ..: a fold -/
theorem Ex.forF {ι : Type} {tg iter : Expr} {body : List Stmt} {pos : Pos} {r : R} {t : Bool} {l : List β} (st : ι → List R) (step : ι → β → ι) (s0 : ι) (I : Nat → ι → Prop)
    (hl : Ev X pu rs iter r (st s0)) (hw : walkOf r = some (t, es l)) (i0 : I 0 s0)
    (turn : ∀ i x s, l[i]? = some x → I i s → I (i + 1) (step s x) ∧ ∃ rs2 js, Tg X tg (e x) (st s) rs2 js ∧ Exs X rs2 body (.nx (st (step s x))))
    (hp : PassesOwn (model X.prog X.w) X.A X.env X.xe) (hc : X.calm = true := by rfl) (hs : ∀ x, foldedSetIterable iter X.env x = pure x := by intro _; rfl) : Ex X rs (.For tg iter body [] pos) (.nx (st (l.foldl step s0))) := by
  refine Ex.for_ (t := t) (items := es l) (fun i rs => rs = st ((l.take i).foldl step s0) ∧ I i ((l.take i).foldl step s0)) hl hw ⟨rfl, i0⟩ ?_ ?_ hp hc hs
  · rintro i x rs hx ⟨rfl, hi⟩
    obtain ⟨y, hy, rfl⟩ := es_get hx
    obtain ⟨hi', rs2, js, h1, h2⟩ := turn i y _ hy hi
    refine ⟨rs2, js, _, h1, h2, ?_⟩
    show _ ∧ _
    rw [take_succ_get hy, List.foldl_append]
    exact ⟨rfl, hi'⟩
  · rintro rs ⟨rfl, _⟩
    rw [List.take_of_length_le (by simp)]
/-- for i in range(n): a fold -/
theorem Ex.forN {ι : Type} {tg a : Expr} {body : List Stmt} {p pos pos' : Pos} {n : Int} (st : ι → List R) (step : ι → Nat → ι) (s0 : ι) (I : Nat → ι → Prop) (hl : Ev X pu rs a (.d (.int n)) (st s0)) (hn : -(2 ^ 62) ≤ n ∧ n < 2 ^ 62) (i0 : I 0 s0)
    (turn : ∀ (i : Nat) s, i < n.toNat → I i s → I (i + 1) (step s i) ∧ ∃ rs2 js, Tg X tg (.int i) (st s) rs2 js ∧ Exs X rs2 body (.nx (st (step s i))))
    (hp : PassesOwn (model X.prog X.w) X.A X.env X.xe) (hm : X.mg "range" = none) (hc : X.calm = true := by rfl) (hg : Gl X "range" := by rfl)
    (hst : starEach [a] X.env = [(false, eval a X.env)] := by rfl) (hst2 : starEach (a :: []) X.env = (false, eval a X.env) :: starEach [] X.env := by rfl) (hs : ∀ x, foldedSetIterable (.Call (.Name "range" p) [a] [] pos) X.env x = pure x := by intro _; rfl) : Ex X rs (.For tg (.Call (.Name "range" p) [a] [] pos) body [] pos') (.nx (st ((List.range n.toNat).foldl step s0))) := by
  refine Ex.forR_ (fun i rs => rs = st ((List.range i).foldl step s0) ∧ I i ((List.range i).foldl step s0)) hl hn ⟨rfl, i0⟩ ?_ ?_ hp hc hg hm hst hst2 hs
  · rintro i rs hx ⟨rfl, hi⟩
    obtain ⟨hi', rs2, js, h1, h2⟩ := turn i _ hx hi
    refine ⟨rs2, js, _, h1, h2, ?_⟩
    show _ ∧ _
    rw [List.range_succ, List.foldl_append]
    exact ⟨rfl, hi'⟩
  · rintro rs ⟨rfl, _⟩
    rfl
/-- while: with so much fuel -/
def wh {ι : Type} (c : ι → Bool) (step : ι → ι) : Nat → ι → ι
  | 0, s => s
  | n + 1, s => if c s = true then wh c step n (step s) else s
theorem wh_more {ι : Type} {c : ι → Bool} {step : ι → ι} (μ : ι → Nat) {I : ι → Prop} (h : ∀ s, I s → c s = true → I (step s) ∧ μ (step s) < μ s) : ∀ (n m : Nat) (s : ι), I s → μ s < n → μ s < m → wh c step n s = wh c step m s
  | 0, _, _, _, h1, _ => absurd h1 (Nat.not_lt_zero _)
  | _, 0, _, _, _, h2 => absurd h2 (Nat.not_lt_zero _)
  | n + 1, m + 1, s, hi, h1, h2 => by
    unfold wh
    by_cases q : c s = true
    · rw [if_pos q, if_pos q]
      obtain ⟨a, b⟩ := h s hi q
      exact wh_more μ h n m _ a (by omega) (by omega)
    · rw [if_neg q, if_neg q]
theorem Ex.whileF {ι : Type} {cnd : Expr} {body : List Stmt} {pos : Pos} (st : ι → List R) (c : ι → Bool) (step : ι → ι) (μ : ι → Nat) (I : ι → Prop) (s0 : ι) (n : Nat) (hn : μ s0 < n) (i0 : I s0)
    (turn : ∀ s, I s → (∃ pu, Et X pu (st s) cnd (c s) (st s)) ∧ (c s = true → Exs X (st s) body (.nx (st (step s))) ∧ I (step s) ∧ μ (step s) < μ s))
    (hp : PassesOwn (model X.prog X.w) X.A X.env X.xe) : Ex X (st s0) (.While cnd body [] pos) (.nx (st (wh c step n s0))) := by
  have mm : ∀ s, I s → c s = true → I (step s) ∧ μ (step s) < μ s := fun s hi q => (turn s hi).2 q |>.2
  refine Ex.while_ (fun m rs => ∃ s, rs = st s ∧ I s ∧ μ s = m ∧ wh c step n s0 = wh c step (μ s + 1) s) (n := μ s0) ⟨s0, rfl, i0, rfl, wh_more μ mm _ _ _ i0 hn (Nat.lt_succ_self _)⟩ ?_ hp
  rintro m rs ⟨s, rfl, hi, rfl, hw⟩
  obtain ⟨⟨pu, h1⟩, h2⟩ := turn s hi
  refine ⟨pu, c s, st s, h1, fun q => ?_, fun q => ?_⟩
  · obtain ⟨h3, h4, h5⟩ := h2 q
    refine ⟨_, h3, μ (step s), h5, step s, rfl, h4, rfl, ?_⟩
    rw [hw]
    conv => lhs; unfold wh
    rw [if_pos q]
    exact wh_more μ mm _ _ _ h4 h5 (Nat.lt_succ_self _)
  · rw [hw]
    unfold wh
    rw [if_neg (by rw [q]; exact Bool.false_ne_true)]
end
end Ab

namespace Ab
open PySem PySem.Spec PyProof.Rows L2
open En (e)

/-! ### the law's source of numbers: made, read, written -/
abbrev srcK (q : Addr) (s : Src) : List (Key × V) := [(.inr "cells", .ref q), (.inr "left", .int s.left), (.inr "mixed", .int s.mixed), (.inr "turn", .int s.turn)]
section
variable {X : Cx} {rs rs1 rs2 rs' : List R} {pu pu1 pu2 : Bool}
/-- xs[::-1] -/
theorem Ev.slRev {a : Expr} {ra : R} {xs : List PyData} {k : Nat} {p1 p2 p3 pos : Pos} (ha : Ev X pu rs a ra rs1) (he : seqOf ra = some xs := by rfl) : Ev X pu rs (.Subscript a (.Slice none none (some (.UnaryOp .USub (.Constant (.int 1) k p1) p2)) p3) pos) (.ls xs.reverse) rs1 := fun σ H w S Q q => by
  refine PEc (pe_revL cT_ok) ?_
  refine ha σ H w S _ fun v H1 w1 S1 st1 t1 s1 => ?_
  obtain ⟨a, us, rfl, h, d⟩ := t1.seq he
  refine ⟨a, us, rfl, h, fun p n => ?_⟩
  have sm : Same H1 (upd H1 p (.lst us.reverse)) := same_upd n
  have st2 : StepE w1 H1 (ownT w1 p) (upd H1 p (.lst us.reverse)) := sstep sm (ownT_old n)
  exact q _ _ (ownT w1 p) (S1.keep st2 sm (ownT_tr S1.tr)) (st1.trans st2) ⟨p, us.reverse, rfl, fresh_from st1.g n, ownT_at, upd_same, (DRs.mv st2.mv _ _ d).reverse⟩ fun e => (s1 e).trans sm
theorem nosl_str {z : Str} {j pk} : NoSl (.Constant (.str z) j pk) := fun _ _ => rfl
/-- source["left"] -/
theorem Ev.srcI (i : Nat) {x z : Str} {px pk pos : Pos} {j} {a b : Addr} {c : Src} {n : Int} (hu : X.A.units + 1 < cLine) (hk : valV (srcK b c) (.inr z) = some (.int n)) (hi : rs[i]? = some (.src a b c)) (hN : X.N[i]? = some x) (hv : Vis X.env.scope x) (hd : (x == ("__debug__" : Str)) = false) (hcd : (x == ("__classdict__" : Str)) = false) :
    Ev X true rs (.Subscript (.Name x px) (.Constant (.str z) j pk) pos) (.d (.int n)) rs := fun σ H w S Q q => by
  refine PEc (pe_dget hu (pe_var hN hv hd hcd) pe_str nosl_str) ?_
  obtain ⟨e0, o1, o2, sa⟩ := S.at_ i _ hi
  exact ⟨.ref a, joinOf e0, a, _, rfl, hk ▸ DGet.k (k := .inr z) sa.d, q _ H w S .refl (.int n) fun _ => Same.refl H⟩
theorem Ev.srcL (i : Nat) {x : Str} {px pk pos : Pos} {j} {a b : Addr} {c : Src} (hu : X.A.units + 1 < cLine) (hi : rs[i]? = some (.src a b c)) (hN : X.N[i]? = some x) (hv : Vis X.env.scope x) (hd : (x == ("__debug__" : Str)) = false) (hcd : (x == ("__classdict__" : Str)) = false) :
    Ev X true rs (.Subscript (.Name x px) (.Constant (.str "cells") j pk) pos) (.fn b) rs := fun σ H w S Q q => by
  refine PEc (pe_dget hu (pe_var hN hv hd hcd) pe_str nosl_str) ?_
  obtain ⟨e0, o1, o2, sa⟩ := S.at_ i _ hi
  have hk : valV (srcK b c) (.inr "cells") = some (.ref b) := by simp [srcK, valV]
  exact ⟨.ref a, joinOf e0, a, _, rfl, hk ▸ DGet.k (k := .inr "cells") sa.d, q _ H w S .refl rfl fun _ => Same.refl H⟩
/-- len(cells) -/
theorem Ev.srcLen (i j : Nat) {x y : Str} {px py pos : Pos} {a b : Addr} {c : Src} (hm : X.mg x = none) (hv : bootBuiltins x = some (.builtin "len")) (hi : rs[i]? = some (.src a b c)) (hj : rs[j]? = some (.fn b)) (hN : X.N[j]? = some y) (hy : Vis X.env.scope y) (hd : (y == ("__debug__" : Str)) = false) (hcd : (y == ("__classdict__" : Str)) = false)
    (hg : Gl X x := by rfl) (hn : x ≠ "__name__" := by decide) (hdb : (x == ("__debug__" : Str)) = false := by decide) (he : starEach (.Name y py :: []) X.env = (false, eval (.Name y py) X.env) :: starEach [] X.env := by rfl) (hpl : (backTo pos (starEach [] X.env)).any (·.1) = false := by rfl) : Ev X true rs (.Call (.Name x px) [.Name y py] [] pos) (.d (.int c.cells.length)) rs := fun σ H w S Q q => by
  refine PEc (pe_callB call_len_seq hg hm hv (pa_cons (pe_var hN hy hd hcd) pa_nil he) hn hdb he hpl) ?_
  obtain ⟨e0, o1, o2, sa⟩ := S.at_ i _ hi
  refine ⟨.ref b, joinOf (S.at_ j _ hj), b, c.cells.map V.int, rfl, .inl (.inl (.inl sa.l)), ?_⟩
  rw [List.length_map]
  exact q _ H w S .refl (.int _) fun _ => Same.refl H
/-- cells.pop() -/
theorem Ev.srcPop (i j : Nat) {y : Str} {py apos cpos : Pos} {a b : Addr} {c : Src} {n : Int} (hy : c.cells[c.cells.length - 1]? = some n) (hi : rs[i]? = some (.src a b c)) (hj : rs[j]? = some (.fn b)) (hN : X.N[j]? = some y) (hv : Vis X.env.scope y) (hd : (y == ("__debug__" : Str)) = false) (hcd : (y == ("__classdict__" : Str)) = false)
    (hbase : attributeBase (.Name y py) "pop" X.env (eval (.Name y py) X.env) = eval (.Name y py) X.env) (hline : (apos.endLine == cpos.line) = true) : Ev X false rs (.Call (.Attribute (.Name y py) "pop" apos) [] [] cpos) (.d (.int n)) (rs.set i (.src a b { c with cells := c.cells.dropLast })) := fun σ H w S Q q => by
  refine PEc (pe_bm0 PySem.F.plainAttrs_list PySem.F.slot_list_pop PySem.F.type_list_pop mt_pop (pe_var (pos := py) hN hv hd hcd) hbase hline) ?_
  obtain ⟨e0, o1, o2, sa⟩ := S.at_ i _ hi
  refine ⟨.ref b, joinOf (S.at_ j _ hj), .inl ⟨rfl, c.cells.map V.int, .inl (.inl sa.l)⟩, ?_⟩
  refine ⟨b, c.cells.map V.int, .int n, rfl, rfl, sa.l, by rw [List.getElem?_map, List.length_map, hy]; rfl, ?_⟩
  have nab : a ≠ b := fun z => by have h1 := sa.d; rw [z, sa.l] at h1; cases h1
  obtain ⟨S2, st2⟩ := S.change (o' := .lst (c.cells.map V.int).dropLast) (r' := .src a b { c with cells := c.cells.dropLast }) o2 sa.l True.intro fun m => ⟨e0, o1, o2, ⟨by rw [upd_ne nab]; exact sa.d, by rw [upd_same, List.map_dropLast]⟩⟩
  exact q _ _ w S2 st2 (.int n) fun e => nomatch e
/-- source["left"] = n -/
theorem Ex.srcPut (i : Nat) {x z : Str} {ev : Expr} {px pk tpos pos : Pos} {j} {a b : Addr} {c c' : Src} {n : Int} (hu : X.A.units + 1 < cLine) (h : Ev X pu rs ev (.d (.int n)) rs1) (hi : rs1[i]? = some (.src a b c)) (hk : putK (srcK b c) (.inr z) (.int n) = srcK b c') (hcell : c'.cells = c.cells) (hN : X.N[i]? = some x) (hv : Vis X.env.scope x) (hd : (x == ("__debug__" : Str)) = false) (hcd : (x == ("__classdict__" : Str)) = false)
    (hs : swapsWith ev (some (.Subscript (.Name x px) (.Constant (.str z) j pk) tpos)) pos.line X.env = pure false) : Ex X rs (.Assign [.Subscript (.Name x px) (.Constant (.str z) j pk) tpos] ev pos) (.nx (rs1.set i (.src a b c'))) := fun σ H w S D q => by
  refine PSc (ps_dput hu (pe_var hN hv hd hcd) pe_str cT_ok hs) ?_
  refine h σ H w S _ fun v H1 w1 S1 st1 t1 s1 => ?_
  obtain ⟨e0, o1, o2, sa⟩ := S1.at_ i _ hi
  cases (show DR X.K H1 w1 v (.int n) from t1)
  have nab : a ≠ b := fun z => by have h1 := sa.d; rw [z, sa.l] at h1; cases h1
  refine ⟨.ref a, joinOf e0, a, _, rfl, DPut.k (k := .inr z) sa.d (Nat.le_of_ble_eq_true rfl), ?_⟩
  obtain ⟨S2, st2⟩ := S1.change (o' := .dK (putK (srcK b c) (.inr z) (.int n))) (r' := .src a b c') o1 sa.d True.intro fun m => ⟨e0, o1, o2, ⟨by rw [upd_same, hk], by rw [upd_ne (Ne.symm nab), hcell]; exact sa.l⟩⟩
  exact q _ _ w1 S2 (st1.trans st2).step
end

/-! a def that makes the source -/
def spO (P : Program) (W : World) (K : PySem.W.Frag) (S : List R → Src → Prop) : Sp := fun vs H Q _ => ∃ rl c, S rl c ∧ RAs K H w0 vs rl ∧ ∀ p q H', Same H H' → H p = none → H q = none → SrcAt H' p q c → Q (.ref p) H'
/-- a body that ends by handing back a new source -/
def BodyO (X : Cx) (rs : List R) (st : List Stmt) (c : Src) : Prop := ∀ σ H w, RSx X H w σ rs → ∀ D : L2.Ends, (∀ p q H', (∀ b o, H b = some o → (Fre w b ∨ ¬ Mut (some o)) → H' b = some o) → H p = none → H q = none → SrcAt H' p q c → D.rt (.ref p) H') → cSs X st D σ H
section
variable {X : Cx} {rs rs1 rs2 rs' : List R} {pu pu1 pu2 : Bool}
theorem BodyO.cons {s : Stmt} {ss : List Stmt} {c : Src} (h : Ex X rs s (.nx rs1)) (hs : BodyO X rs1 ss c) : BodyO X rs (s :: ss) c := fun σ H w S D q =>
  PSsc (pss_cons cS_ok cSs_ok) (h σ H w S _ fun σ' H' w' S' st => hs σ' H' w' S' D fun p q' H2 k n1 n2 sa => q p q' H2 (fun b o e f => k b o (st.k b o e f) (f.imp (fun z => st.s b (some_ne e) z) id)) (fresh_from st.g n1) (fresh_from st.g n2) sa)
theorem BodyO.ret {v1 v2 v3 v4 : Expr} {l m t : Int} {cells : List Int} {j1 j2 j3 j4 p1 p2 p3 p4 pos pos' ss} (h1 : Ev X true rs v1 (.ls (cells.map PyData.int)) rs) (h2 : Ev X true rs v2 (.d (.int l)) rs) (h3 : Ev X true rs v3 (.d (.int m)) rs) (h4 : Ev X true rs v4 (.d (.int t)) rs) :
    BodyO X rs (.Return (some (.Dict [some (.Constant (.str "cells") j1 p1), some (.Constant (.str "left") j2 p2), some (.Constant (.str "mixed") j3 p3), some (.Constant (.str "turn") j4 p4)] [v1, v2, v3, v4] pos)) pos' :: ss) ⟨cells, l, m, t⟩ := fun σ H w S D q => by
  refine PSsc (pss_cons (ps_ret (pe_disp (pps_cons pe_str cT_ok (pps_cons pe_str cT_ok (pps_cons pe_str cT_ok (pps_cons pe_str cT_ok pps_nil)))) rfl rfl (fun z => by cases z) (Nat.le_of_ble_eq_true rfl))) cSs_ok) ?_
  intro p n
  have sm0 : Same H (upd H p (.dK [])) := same_upd n
  have st0 : StepE w H w (upd H p (.dK [])) := sstep sm0 fun _ _ => rfl
  have S0 := S.keep st0 sm0 (tr_upd S.tr)
  refine h1 σ _ w S0 _ fun u1 H1 w1 S1 st1 t1 s1 => ?_
  refine h2 σ _ w1 S1 _ fun u2 H2 w2 S2 st2 t2 s2 => ?_
  refine h3 σ _ w2 S2 _ fun u3 H3 w3 S3 st3 t3 s3 => ?_
  refine h4 σ _ w3 S3 _ fun u4 H4 w4 S4 st4 t4 s4 => ?_
  obtain ⟨a, vs, rfl, n1, o1, ha, dr⟩ := t1
  cases (show DR X.K H2 w2 u2 (.int l) from t2)
  cases (show DR X.K H3 w3 u3 (.int m) from t3)
  cases (show DR X.K H4 w4 u4 (.int t) from t4)
  have ev := DRs.ints_inv dr
  subst ev
  have sm14 : Same H1 H4 := ((s2 rfl).trans (s3 rfl)).trans (s4 rfl)
  have sm04 := (s1 rfl).trans sm14
  have hp : H4 p = some (.dK []) := sm04 _ _ upd_same
  have hnp : a ≠ p := fun z => by subst z; rw [upd_same] at n1; cases n1
  refine ⟨hp, [(.inr "cells", .ref a), (.inr "left", .int l), (.inr "mixed", .int m), (.inr "turn", .int t)], rfl, Nat.le_of_ble_eq_true rfl, ?_⟩
  refine q p a _ (fun b o e f => ?_) n ?_ ⟨?_, ?_⟩
  · have nb : b ≠ p := fun z => by subst z; rw [n] at e; cases e
    rw [upd_ne nb]
    exact sm04 _ _ (sm0 _ _ e)
  · rw [upd_ne hnp] at n1; exact n1
  · rw [upd_same]; rfl
  · rw [upd_ne hnp]; exact sm14 _ _ ha
end
section
variable {P : Program} {W : World} {K : PySem.W.Frag} {mg : Str → Option Value} {base : Heap}
structure CalO (P : Program) (W : World) (K : PySem.W.Frag) (mg : Str → Option Value) (base : Heap) (x : Str) (k : Nat) (S : List R → Src → Prop) (f : Addr) : Prop where
  ex : ∃ fd ps, FnOk P W K mg base CX0 k f fd ps (spO P W K S) ∧ mg x = some (.ref f) ∧ PySem.W.keepIn K (.ref f) = true ∧ Binds K fd ps []
theorem calO_of {x : Str} {st : Stmt} {f : Addr} {N ps : List Str} {k : Nat} {S : List R → Src → Prop} (D : At K mg x st f) (sc : FnScope N ps (defScope st)) (hb : BindsBy x st ps) (hN : ps.length ≤ N.length) (hl : ∀ rl r, S rl r → rl.length = ps.length)
    (body : ∀ cdv A outer s H E, Room k (bx P W K mg base x N st f cdv A outer s H E).A → ∀ rl c, S rl c → BodyO (bx P W K mg base x N st f cdv A outer s H E) (begin_ N rl) (defBody st) c) : CalO P W K mg base x (k + 1) S f := by
  obtain ⟨fd, F⟩ := D.ex
  refine ⟨fd, ps, F.ok sc (fun vs H Q E h => ?_) (fun cdv A outer s H vs Q E hr h => ?_), D.mg, F.kp, F.binds hb⟩
  · obtain ⟨rl, c, hS, ha, _⟩ := h
    rw [ha.length]; exact hl rl c hS
  · obtain ⟨rl, c, hS, ha, q⟩ := h
    refine ⟨_, cSs_ok, body cdv A outer s H E hr rl c hS (L2.start N vs) H w0 (RS.begin0 ha (by rw [hl rl c hS]; exact hN)) _ fun p q' H' k n1 n2 sa => ?_⟩
    exact q p q' H' (fun b o e => k b o e (.inl (.of_none rfl))) n1 n2 sa
end
section
variable {X : Cx} {rs rs1 rs2 rs' : List R} {pu pu1 pu2 : Bool}
/-- name = open_cells(..): then with any source -/
theorem Exs.callO (i : Nat) {k j : Nat} {f : Addr} {S : List R → Src → Prop} {x y : Str} {py p pos pos' : Pos} {e : Expr} {es : List Expr} {rl al : List R} {c : Src} {ss : List Stmt} {o : O} (C : CalO X.prog X.w X.K X.mg X.base x k S f) (hr : Room j X.A) (nd : X.N.Nodup) (h : EvL X pu rs (e :: es) rl rs1) (hS : S al c) (rest : ∀ a b, Exs X (rs1.set i (.src a b c)) ss o) (ha : argOf rl = some al := by rfl) (hj : k ≤ j := by decide) (hn : i < rs1.length := by exact Nat.le_of_ble_eq_true rfl) (hi : X.N[i]? = some y := by rfl) (hx : Loc X.env.scope y := by first | exact Or.inl rfl | exact Or.inr rfl)
    (hs : swapsWith (.Call (.Name x p) (e :: es) [] pos) (some (.Name y py)) pos'.line X.env = pure false := by rfl) (hf : X.fn y = true ∨ X.env.scope.names.lookup y = some .local := by first | exact .inl rfl | exact .inr rfl) (hg : Gl X x := by rfl)
    (hdb : (x == ("__debug__" : Str)) = false := by decide) (he : starEach (e :: es) X.env = (false, eval e X.env) :: starEach es X.env := by rfl) (hpl : (backTo pos (starEach es X.env)).any (·.1) = false := by rfl) :
    Exs X rs (.Assign [.Name y py] (.Call (.Name x p) (e :: es) [] pos) pos' :: ss) o := fun σ H w S0 D q => by
  obtain ⟨fd, ps, G, hm, hk, hb⟩ := C.ex
  refine PSsc (pss_cons (ps_set nd hi hx (pe_call G (hr.mono hj) hg hm hk hb .nil pass0 cA_ok hdb he hpl) hs hf) cSs_ok) ?_
  refine h σ H w S0 _ fun vs H1 w1 S1 st1 t1 s1 => ?_
  rw [List.append_nil]
  refine ⟨al, c, hS, t1.args mv0 ha fun _ _ => rfl, fun a b H2 sm n1 n2 sa => ?_⟩
  let w2 : Own := fun d => if d = a ∨ d = b then some (i + 1) else w1 d
  have old : ∀ d, H1 d ≠ none → w2 d = w1 d := fun d hd => by
    show (if d = a ∨ d = b then some (i + 1) else w1 d) = w1 d
    rw [if_neg]
    rintro (rfl | rfl)
    · exact hd n1
    · exact hd n2
  have stE : StepE w1 H1 w2 H2 := sstep sm old
  have hl : i < σ.length := by rw [← S1.len]; exact hn
  refine rest a b (σ.set i (some (.ref a))) H2 w2 ⟨by rw [List.length_set, List.length_set]; exact S1.len, fun d hd => ?_, fun j' r e => ?_⟩ D (q.step (st1.trans stE).step)
  · by_cases z : d = a ∨ d = b
    · rcases z with rfl | rfl
      · exact some_ne sa.d
      · exact some_ne sa.l
    · have : w2 d = w1 d := by show (if d = a ∨ d = b then some (i + 1) else w1 d) = w1 d; rw [if_neg z]
      rw [this] at hd
      exact stE.g d (S1.tr d hd)
  · by_cases hj' : j' = i
    · subst hj'
      rw [List.getElem?_set_self hn] at e
      cases e
      rw [List.getElem?_set_self hl]
      exact ⟨rfl, by show (if a = a ∨ a = b then some (j' + 1) else w1 a) = _; rw [if_pos (.inl rfl)], by show (if b = a ∨ b = b then some (j' + 1) else w1 b) = _; rw [if_pos (.inr rfl)], sa⟩
    · rw [List.getElem?_set_ne (Ne.symm hj')] at e
      rw [List.getElem?_set_ne (Ne.symm hj')]
      exact (S1.at_ j' r e).keep stE.mv fun d o hd ho => ⟨sm d o ho, by rw [old d (some_ne ho)]; exact hd⟩
/-- what the slots hold is let go with the answer -/
theorem Exs.retw {ss : List Stmt} {x : PyData} {r : R} (h : Exs X rs ss (.rt r rs1)) (hr : r = .d x := by rfl) : ∃ n, Exs X rs ss (.rt (.d x) (List.replicate n .un)) := by
  subst hr
  refine ⟨rs1.length, fun σ H w S D q => h σ H w S D fun v σ' H' w' S' st rr => ?_⟩
  refine q v σ' H' w' ⟨by rw [List.length_replicate]; exact S'.len, S'.tr, fun i r e => ?_⟩ st rr
  rw [List.getElem?_replicate] at e
  split at e
  · cases e; trivial
  · cases e
theorem Exs.retN {ss : List Stmt} {x : PyData} (h : Exs X rs ss (.rt (.d x) rs1)) (n : Nat) (hn : rs1.length = n) : Exs X rs ss (.rt (.d x) (List.replicate n .un)) := by
  subst hn
  intro σ H w S D q
  refine h σ H w S D fun v σ' H' w' S' st rr => ?_
  refine q v σ' H' w' ⟨by rw [List.length_replicate]; exact S'.len, S'.tr, fun i r e => ?_⟩ st rr
  rw [List.getElem?_replicate] at e
  split at e
  · cases e; trivial
  · cases e
theorem Exs.wk {ss : List Stmt} {o : O} (h : Exs X rs1 ss o) (f : Fg rs rs1 := by repeat first | exact Fg.nil | apply Fg.keep | apply Fg.un) : Exs X rs ss o := Exs.pre f.weak h
theorem Exs.fin {rs1 : List R} (f : Fg rs rs1 := by repeat first | exact Fg.nil | apply Fg.keep | apply Fg.un) : Exs X rs [] (.nx rs1) := Exs.end_ (ss := []) f
end
end Ab

namespace Ab
open PySem PySem.Spec PyProof.Rows L2
open En (e)

/-! ### the built-in names, short -/
theorem bb_len : bootBuiltins "len" = some (.builtin "len") := boot_len
theorem bb_sorted : bootBuiltins "sorted" = some (.builtin "sorted") := by decide +kernel
theorem bb_abs : bootBuiltins "abs" = some (.builtin "abs") := by decide +kernel
theorem bb_max : bootBuiltins "max" = some (.builtin "max") := by decide +kernel
theorem bb_min : bootBuiltins "min" = some (.builtin "min") := by decide +kernel
theorem bb_any : bootBuiltins "any" = some (.builtin "any") := by decide +kernel
theorem bb_all : bootBuiltins "all" = some (.builtin "all") := by decide +kernel
theorem bb_sum : bootBuiltins "sum" = some (.builtin "sum") := by decide +kernel
theorem bb_tuple : bootBuiltins "tuple" = some (.type "tuple") := by decide +kernel
theorem bb_list : bootBuiltins "list" = some (.type "list") := by decide +kernel
theorem bb_int : bootBuiltins "int" = some (.type "int") := by decide +kernel
theorem bb_dict : bootBuiltins "dict" = some (.type "dict") := by decide +kernel
theorem bb_set : bootBuiltins "set" = some (.type "set") := by decide +kernel

section
variable {X : Cx} {rs rs1 rs2 rs' : List R} {pu pu1 pu2 : Bool} {α β : Type} [En α] [En β]
theorem xlen {a : Expr} {ra : R} {xs : List PyData} {p pos : Pos} (m : X.mg "len" = none) (h : Ev X pu rs a ra rs1) (e : seqOf ra = some xs := by rfl) (hg : Gl X "len" := by rfl)
    (he : starEach [a] X.env = (false, eval a X.env) :: starEach [] X.env := by rfl) (hpl : (backTo pos (starEach [] X.env)).any (·.1) = false := by rfl) : Ev X (pu && true) rs (.Call (.Name "len" p) [a] [] pos) (.d (.int xs.length)) rs1 :=
  Ev.blt (EvL.cons h EvL.nil (Bool.or_true _) he) (ca_lenL e) hg m bb_len (by decide) (by decide) he hpl
theorem xlenT {a : Expr} {xs : List PyData} {p pos : Pos} (m : X.mg "len" = none) (h : Ev X pu rs a (.d (.tuple xs)) rs1) (hg : Gl X "len" := by rfl)
    (he : starEach [a] X.env = (false, eval a X.env) :: starEach [] X.env := by rfl) (hpl : (backTo pos (starEach [] X.env)).any (·.1) = false := by rfl) : Ev X (pu && true) rs (.Call (.Name "len" p) [a] [] pos) (.d (.int xs.length)) rs1 :=
  Ev.blt (EvL.cons h EvL.nil (Bool.or_true _) he) ca_lenT hg m bb_len (by decide) (by decide) he hpl
theorem xlenE {a : Expr} {l : List α} {p pos : Pos} (m : X.mg "len" = none) (h : Ev X pu rs a (rd l) rs1) (hg : Gl X "len" := by rfl)
    (he : starEach [a] X.env = (false, eval a X.env) :: starEach [] X.env := by rfl) (hpl : (backTo pos (starEach [] X.env)).any (·.1) = false := by rfl) : Ev X (pu && true) rs (.Call (.Name "len" p) [a] [] pos) (.d (.int l.length)) rs1 :=
  (xlenT m h hg he hpl).conv (by simp) rfl
theorem xlenL {a : Expr} {ra : R} {l : List α} {p pos : Pos} (m : X.mg "len" = none) (h : Ev X pu rs a ra rs1) (e : seqOf ra = some (es l) := by rfl) (hg : Gl X "len" := by rfl)
    (he : starEach [a] X.env = (false, eval a X.env) :: starEach [] X.env := by rfl) (hpl : (backTo pos (starEach [] X.env)).any (·.1) = false := by rfl) : Ev X (pu && true) rs (.Call (.Name "len" p) [a] [] pos) (.d (.int l.length)) rs1 :=
  (xlen m h e hg he hpl).conv (by simp) rfl
/-- tuple(list) -/
theorem xtup {a : Expr} {ra : R} {xs : List PyData} {p pos : Pos} (m : X.mg "tuple" = none) (h : Ev X pu rs a ra rs1) (e : seqOf ra = some xs := by rfl) (hg : Gl X "tuple" := by rfl)
    (he : starEach [a] X.env = (false, eval a X.env) :: starEach [] X.env := by rfl) (hpl : (backTo pos (starEach [] X.env)).any (·.1) = false := by rfl) : Ev X (pu && true) rs (.Call (.Name "tuple" p) [a] [] pos) (.d (.tuple xs)) rs1 :=
  Ev.typ (EvL.cons h EvL.nil (Bool.or_true _) he) (ca_tupL e) hg m bb_tuple (by decide) (by decide) he hpl
theorem xtupE {a : Expr} {ra : R} {l : List α} {p pos : Pos} (m : X.mg "tuple" = none) (h : Ev X pu rs a ra rs1) (e : seqOf ra = some (es l) := by rfl) (hg : Gl X "tuple" := by rfl)
    (he : starEach [a] X.env = (false, eval a X.env) :: starEach [] X.env := by rfl) (hpl : (backTo pos (starEach [] X.env)).any (·.1) = false := by rfl) : Ev X (pu && true) rs (.Call (.Name "tuple" p) [a] [] pos) (rd l) rs1 := xtup m h e hg he hpl
/-- list(tuple) -/
theorem xlst {a : Expr} {l : List α} {p pos : Pos} (m : X.mg "list" = none) (h : Ev X pu rs a (rd l) rs1) (hg : Gl X "list" := by rfl)
    (he : starEach [a] X.env = (false, eval a X.env) :: starEach [] X.env := by rfl) (hpl : (backTo pos (starEach [] X.env)).any (·.1) = false := by rfl) : Ev X (pu && true) rs (.Call (.Name "list" p) [a] [] pos) (rl l) rs1 :=
  Ev.typ (EvL.cons h EvL.nil (Bool.or_true _) he) ca_lstT hg m bb_list (by decide) (by decide) he hpl
/-- int(n) -/
theorem xint {a : Expr} {i : Int} {p pos : Pos} (m : X.mg "int" = none) (h : Ev X pu rs a (.d (.int i)) rs1) (hg : Gl X "int" := by rfl)
    (he : starEach [a] X.env = (false, eval a X.env) :: starEach [] X.env := by rfl) (hpl : (backTo pos (starEach [] X.env)).any (·.1) = false := by rfl) : Ev X (pu && true) rs (.Call (.Name "int" p) [a] [] pos) (.d (.int i)) rs1 :=
  Ev.typ (EvL.cons h EvL.nil (Bool.or_true _) he) ca_int hg m bb_int (by decide) (by decide) he hpl
theorem xabs {a : Expr} {i : Int} {p pos : Pos} (m : X.mg "abs" = none) (h : Ev X pu rs a (.d (.int i)) rs1) (hg : Gl X "abs" := by rfl)
    (he : starEach [a] X.env = (false, eval a X.env) :: starEach [] X.env := by rfl) (hpl : (backTo pos (starEach [] X.env)).any (·.1) = false := by rfl) : Ev X (pu && true) rs (.Call (.Name "abs" p) [a] [] pos) (.d (.int (if i < 0 then -i else i))) rs1 :=
  Ev.blt (EvL.cons h EvL.nil (Bool.or_true _) he) ca_abs hg m bb_abs (by decide) (by decide) he hpl
theorem xmax2 {a b : Expr} {i j : Int} {p pos : Pos} (m : X.mg "max" = none) (h : Ev X pu1 rs a (.d (.int i)) rs1) (h2 : Ev X pu2 rs1 b (.d (.int j)) rs2) (hc : X.calm = true := by rfl) (hg : Gl X "max" := by rfl)
    (he : starEach [a, b] X.env = (false, eval a X.env) :: starEach [b] X.env := by rfl) (he2 : starEach [b] X.env = (false, eval b X.env) :: starEach [] X.env := by rfl) (hpl : (backTo pos (starEach [b] X.env)).any (·.1) = false := by rfl) : Ev X (pu1 && (pu2 && true)) rs (.Call (.Name "max" p) [a, b] [] pos) (.d (.int (max i j))) rs2 :=
  (Ev.blt (EvL.cons h (EvL.cons h2 EvL.nil (Bool.or_true _) he2) (by rfl) he) (ca_max2 hc) hg m bb_max (by decide) (by decide) he hpl).conv (by congr 2; split <;> omega) rfl
theorem xany {a : Expr} {ra : R} {bs : List Bool} {p pos : Pos} (m : X.mg "any" = none) (h : Ev X pu rs a ra rs1) (e : seqOf ra = some (bs.map PyData.bool) := by rfl) (hc : X.calm = true := by rfl) (hg : Gl X "any" := by rfl)
    (he : starEach [a] X.env = (false, eval a X.env) :: starEach [] X.env := by rfl) (hpl : (backTo pos (starEach [] X.env)).any (·.1) = false := by rfl) : Ev X (pu && true) rs (.Call (.Name "any" p) [a] [] pos) (.d (.bool (bs.any id))) rs1 :=
  Ev.blt (EvL.cons h EvL.nil (Bool.or_true _) he) (ca_any hc e) hg m bb_any (by decide) (by decide) he hpl
theorem xall {a : Expr} {ra : R} {bs : List Bool} {p pos : Pos} (m : X.mg "all" = none) (h : Ev X pu rs a ra rs1) (e : seqOf ra = some (bs.map PyData.bool) := by rfl) (hc : X.calm = true := by rfl) (hg : Gl X "all" := by rfl)
    (he : starEach [a] X.env = (false, eval a X.env) :: starEach [] X.env := by rfl) (hpl : (backTo pos (starEach [] X.env)).any (·.1) = false := by rfl) : Ev X (pu && true) rs (.Call (.Name "all" p) [a] [] pos) (.d (.bool (bs.all id))) rs1 :=
  Ev.blt (EvL.cons h EvL.nil (Bool.or_true _) he) (ca_all hc e) hg m bb_all (by decide) (by decide) he hpl
theorem xsum {a : Expr} {ra : R} {ns : List Int} {p pos : Pos} (m : X.mg "sum" = none) (h : Ev X pu rs a ra rs1) (e : seqOf ra = some (ns.map PyData.int) := by rfl) (hc : X.calm = true := by rfl) (hg : Gl X "sum" := by rfl)
    (he : starEach [a] X.env = (false, eval a X.env) :: starEach [] X.env := by rfl) (hpl : (backTo pos (starEach [] X.env)).any (·.1) = false := by rfl) : Ev X (pu && true) rs (.Call (.Name "sum" p) [a] [] pos) (.d (.int ns.sum)) rs1 :=
  Ev.blt (EvL.cons h EvL.nil (Bool.or_true _) he) (ca_sum hc e) hg m bb_sum (by decide) (by decide) he hpl
/-- dict([(k, v) for ..]) -/
theorem xdict [DecidableEq α] {a : Expr} {ra : R} {l : List α} {v : PyData} {k : Nat} {p pos : Pos} (m : X.mg "dict" = none) (r : Room k X.A) (h : Ev X pu rs a ra rs1) (e : seqOf ra = some (l.map fun c => .tuple [En.e c, v])) (hn : En.n α ≤ 8 := by decide) (ht : ∀ x : α, ∃ ys, En.e x = .tuple ys := by exact fun _ => ⟨_, rfl⟩) (hc : X.calm = true := by rfl) (hg : Gl X "dict" := by rfl)
    (he : starEach [a] X.env = (false, eval a X.env) :: starEach [] X.env := by rfl) (hpl : (backTo pos (starEach [] X.env)).any (·.1) = false := by rfl) : Ev X (pu && true) rs (.Call (.Name "dict" p) [a] [] pos) (.dc (dcOf v (dd l))) rs1 :=
  Ev.typ (EvL.cons h EvL.nil (Bool.or_true _) he) (ca_dict r hc e hn ht) hg m bb_dict (by decide) (by decide) he hpl
end
section
variable {X : Cx} {rs rs1 rs2 rs' : List R} {pu pu1 pu2 : Bool} {α : Type} [EnO α]
/-- sorted(..) of a list, a tuple, a dict -/
theorem xsrtL {a : Expr} {ra : R} {l : List α} {k : Nat} {p pos : Pos} (m : X.mg "sorted" = none) (r : Room k X.A) (h : Ev X pu rs a ra rs1) (hl : l.length ≤ sizeLine) (e : seqOf ra = some (es l) := by rfl) (hn : En.n α ≤ 100 := by decide) (hg : Gl X "sorted" := by rfl)
    (he : starEach [a] X.env = (false, eval a X.env) :: starEach [] X.env := by rfl) (hpl : (backTo pos (starEach [] X.env)).any (·.1) = false := by rfl) : Ev X (pu && true) rs (.Call (.Name "sorted" p) [a] [] pos) (rl (sorted l)) rs1 :=
  Ev.blt (EvL.cons h EvL.nil (Bool.or_true _) he) (ca_sortL r hl e hn) hg m bb_sorted (by decide) (by decide) he hpl
theorem xsrtT {a : Expr} {l : List α} {k : Nat} {p pos : Pos} (m : X.mg "sorted" = none) (r : Room k X.A) (h : Ev X pu rs a (rd l) rs1) (hl : l.length ≤ sizeLine) (hn : En.n α ≤ 100 := by decide) (hg : Gl X "sorted" := by rfl)
    (he : starEach [a] X.env = (false, eval a X.env) :: starEach [] X.env := by rfl) (hpl : (backTo pos (starEach [] X.env)).any (·.1) = false := by rfl) : Ev X (pu && true) rs (.Call (.Name "sorted" p) [a] [] pos) (rl (sorted l)) rs1 :=
  Ev.blt (EvL.cons h EvL.nil (Bool.or_true _) he) (ca_sortT r hl hn) hg m bb_sorted (by decide) (by decide) he hpl
theorem xsrtD {a : Expr} {ra : R} {l : List α} {v : PyData} {k : Nat} {p pos : Pos} (m : X.mg "sorted" = none) (r : Room k X.A) (h : Ev X pu rs a ra rs1) (hl : l.length ≤ sizeLine) (e : dictOf ra = some (dcOf v l) := by rfl) (hn : En.n α ≤ 100 := by decide) (hc : X.calm = true := by rfl) (hg : Gl X "sorted" := by rfl)
    (he : starEach [a] X.env = (false, eval a X.env) :: starEach [] X.env := by rfl) (hpl : (backTo pos (starEach [] X.env)).any (·.1) = false := by rfl) : Ev X (pu && true) rs (.Call (.Name "sorted" p) [a] [] pos) (rl (sorted l)) rs1 :=
  Ev.blt (EvL.cons h EvL.nil (Bool.or_true _) he) (ca_sortD r hc hl e hn) hg m bb_sorted (by decide) (by decide) he hpl
end
/-- items by index -/
theorem atI_nat {α : Type} {xs : List α} {i : Nat} {y : α} (h : xs[i]? = some y) : atI xs (i : Int) = some y := by
  unfold atI ixN
  have hl := (List.getElem?_eq_some_iff.mp h).1
  rw [if_pos (by omega), if_pos (by omega)]
  show xs[(i : Int).toNat]? = _
  rw [Int.toNat_natCast]; exact h
theorem atI_int {α : Type} {xs : List α} {i : Int} {y : α} (h0 : 0 ≤ i) (h : xs[i.toNat]? = some y) : atI xs i = some y := by
  have := atI_nat h
  rwa [Int.toNat_of_nonneg h0] at this
theorem atI_last {α : Type} {xs : List α} {y : α} (h : xs.getLast? = some y) : atI xs (-1) = some y := by
  unfold atI ixN
  have hne : xs ≠ [] := fun z => by subst z; cases h
  have hl : 0 < xs.length := List.length_pos_iff.mpr hne
  rw [if_neg (by omega), if_pos (by omega)]
  show xs[((-1 : Int) + xs.length).toNat]? = _
  rw [show ((-1 : Int) + xs.length).toNat = xs.length - 1 by omega]
  rw [List.getLast?_eq_getElem?] at h
  exact h
theorem es_at {α : Type} [En α] {l : List α} {i : Nat} {x : α} (h : l[i]? = some x) : (es l)[i]? = some (e x) := by rw [List.getElem?_map, h]; rfl
section
variable {X : Cx} {rs rs1 rs2 rs' : List R} {pu pu1 pu2 pp : Bool} {α β : Type} [En α] [En β]
theorem ft {α : Type} (l : List α) : l.filter (fun _ => true) = l := List.filter_eq_self.mpr fun _ _ => rfl
theorem lcok {scope : Scope} {own : List (Str × Nat)} (nd : X.N.Nodup) (h : blkC X.N X.env.scope scope own = true := by rfl) (hc : X.calm = true := by rfl) : LcOk X scope own := ⟨hc, nd, blkOk_by h⟩
/-- {x: v for x in l} -/
theorem Ev.dx0 [DecidableEq α] {t : Bool} {scope : Scope} {own : List (Str × Nat)} {tg kx vx iter : Expr} {r : R} {l : List α} {v : PyData} {pos : Pos} (rz : α → List R) (js : List Nat)
    (hl : Ev X pu rs iter r rs1) (hw : walkOf r = some (t, es l)) (hz : l.length < sizeLine)
    (ht : ∀ x ∈ l, AllB X scope fun B => Tg B tg (e x) (wipeR (own.map (·.2)) rs1) (rz x) js) (hj : ∀ j ∈ js, j ∈ own.map (·.2))
    (hk : ∀ x ∈ l, AllB X scope fun B => Ev B true (rz x) kx (rd x) (rz x)) (hv : ∀ x ∈ l, AllB X scope fun B => Ev B true (rz x) vx (.d v) (rz x))
    (ok : LcOk X scope own) {k : Nat} (hr : Room k X.A) (hs : ∀ x, foldedSetIterable iter X.env x = pure x := by intro _; rfl) (hn : En.n α ≤ 8 := by decide) (hT : ∀ x : α, ∃ ys, e x = .tuple ys := by exact fun _ => ⟨_, rfl⟩) :
    Ev X pu rs (.DictComp kx vx [⟨tg, iter, [], 0⟩] scope pos) (.dc (dcOf v (dd l))) rs1 :=
  (Ev.dxC (c := none) (fun _ => true) id rz js hl hw hz ht hj (fun _ _ => ⟨rfl, rfl⟩) (fun x hx _ => hk x hx) (fun x hx _ => hv x hx) ok hr hs hn hT).conv (by simp [ft]) rfl
theorem Ex.setDx0 [DecidableEq α] (i : Nat) {y : Str} {py spos : Pos} {t : Bool} {scope : Scope} {own : List (Str × Nat)} {tg kx vx iter : Expr} {r : R} {l : List α} {v : PyData} {pos : Pos} (rz : α → List R) (js : List Nat)
    (hl : Ev X pu rs iter r rs1) (hw : walkOf r = some (t, es l)) (hz : l.length < sizeLine)
    (ht : ∀ x ∈ l, AllB X scope fun B => Tg B tg (e x) (wipeR (own.map (·.2)) rs1) (rz x) js) (hj : ∀ j ∈ js, j ∈ own.map (·.2))
    (hk : ∀ x ∈ l, AllB X scope fun B => Ev B true (rz x) kx (rd x) (rz x)) (hv : ∀ x ∈ l, AllB X scope fun B => Ev B true (rz x) vx (.d v) (rz x))
    (ok : LcOk X scope own) {k : Nat} (hr : Room k X.A) (hi : i < rs1.length := by exact Nat.le_of_ble_eq_true rfl) (hy : X.N[i]? = some y := by rfl) (hyl : X.env.scope.names.lookup y = some .local := by rfl) (hsw : swapsWith (.DictComp kx vx [⟨tg, iter, [], 0⟩] scope pos) (some (.Name y py)) spos.line X.env = pure true := by rfl) (hs : ∀ x, foldedSetIterable iter X.env x = pure x := by intro _; rfl) (hn : En.n α ≤ 8 := by decide) (hT : ∀ x : α, ∃ ys, e x = .tuple ys := by exact fun _ => ⟨_, rfl⟩) :
    Ex X rs (.Assign [.Name y py] (.DictComp kx vx [⟨tg, iter, [], 0⟩] scope pos) spos) (.nx (rs1.set i (.dc (dcOf v (dd l))))) :=
  (Ex.setDxC (c := none) i (fun _ => true) id rz js hl hw hz ht hj (fun _ _ => ⟨rfl, rfl⟩) (fun x hx _ => hk x hx) (fun x hx _ => hv x hx) ok hr hi hy hyl hsw hs hn hT).conv (by simp [ft])
/-- [g x for x in l] -/
theorem Ev.lc0 {t : Bool} {scope : Scope} {own : List (Str × Nat)} {tg elt iter : Expr} {r : R} {l : List β} {pos : Pos} (g : β → PyData) (rz : β → List R) (js : List Nat)
    (hl : Ev X pu rs iter r rs1) (hw : walkOf r = some (t, es l)) (hz : l.length ≤ sizeLine)
    (ht : ∀ x ∈ l, AllB X scope fun B => Tg B tg (e x) (wipeR (own.map (·.2)) rs1) (rz x) js) (hj : ∀ j ∈ js, j ∈ own.map (·.2))
    (hk : ∀ x ∈ l, AllB X scope fun B => Ev B pp (rz x) elt (.d (g x)) (rz x)) (hb : ∀ x ∈ l, back (own.map (·.2)) rs1 (rz x) = rs1)
    (ok : LcOk X scope own) (hs : ∀ x, foldedSetIterable iter X.env x = pure x := by intro _; rfl) :
    Ev X (pu && pp) rs (.ListComp elt [⟨tg, iter, [], 0⟩] scope pos) (.ls (l.map g)) rs1 :=
  (Ev.lcM (c := none) (fun _ => true) g rz js hl hw hz ht hj (fun _ _ => ⟨rfl, rfl⟩) (fun x hx _ => hk x hx) hb ok hs).conv (by simp [ft]) rfl
theorem Ex.setLc0 (i : Nat) {y : Str} {py spos : Pos} {t : Bool} {scope : Scope} {own : List (Str × Nat)} {tg elt iter : Expr} {r : R} {l : List β} {pos : Pos} (g : β → PyData) (rz : β → List R) (js : List Nat)
    (hl : Ev X pu rs iter r rs1) (hw : walkOf r = some (t, es l)) (hz : l.length ≤ sizeLine)
    (ht : ∀ x ∈ l, AllB X scope fun B => Tg B tg (e x) (wipeR (own.map (·.2)) rs1) (rz x) js) (hj : ∀ j ∈ js, j ∈ own.map (·.2))
    (hk : ∀ x ∈ l, AllB X scope fun B => Ev B pp (rz x) elt (.d (g x)) (rz x)) (hb : ∀ x ∈ l, back (own.map (·.2)) rs1 (rz x) = rs1)
    (ok : LcOk X scope own) (hi : i < rs1.length := by exact Nat.le_of_ble_eq_true rfl) (hy : X.N[i]? = some y := by rfl) (hyl : X.env.scope.names.lookup y = some .local := by rfl) (hsw : swapsWith (.ListComp elt [⟨tg, iter, [], 0⟩] scope pos) (some (.Name y py)) spos.line X.env = pure true := by rfl) (hs : ∀ x, foldedSetIterable iter X.env x = pure x := by intro _; rfl) :
    Ex X rs (.Assign [.Name y py] (.ListComp elt [⟨tg, iter, [], 0⟩] scope pos) spos) (.nx (rs1.set i (.ls (l.map g)))) :=
  (Ex.setLcM (c := none) i (fun _ => true) g rz js hl hw hz ht hj (fun _ _ => ⟨rfl, rfl⟩) (fun x hx _ => hk x hx) hb ok hi hy hyl hsw hs).conv (by simp [ft])
/-- [x for x in l if cf x] -/
theorem Ev.lcF {t : Bool} {scope : Scope} {own : List (Str × Nat)} {tg elt iter c : Expr} {r : R} {l : List β} {pos : Pos} (cf : β → Bool) (rz : β → List R) (js : List Nat)
    (hl : Ev X pu rs iter r rs1) (hw : walkOf r = some (t, es l)) (hz : l.length ≤ sizeLine)
    (ht : ∀ x ∈ l, AllB X scope fun B => Tg B tg (e x) (wipeR (own.map (·.2)) rs1) (rz x) js) (hj : ∀ j ∈ js, j ∈ own.map (·.2)) (hc : ∀ x ∈ l, AllB X scope fun B => Et B pp (rz x) c (cf x) (rz x))
    (hk : ∀ x ∈ l, AllB X scope fun B => Ev B pp (rz x) elt (rd x) (rz x)) (hb : ∀ x ∈ l, back (own.map (·.2)) rs1 (rz x) = rs1)
    (ok : LcOk X scope own) (hs : ∀ x, foldedSetIterable iter X.env x = pure x := by intro _; rfl) :
    Ev X (pu && pp) rs (.ListComp elt [⟨tg, iter, [c], 0⟩] scope pos) (rl (l.filter cf)) rs1 :=
  Ev.lcM (c := some c) cf e rz js hl hw hz ht hj hc (fun x hx _ => hk x hx) hb ok hs
end
section
variable {X : Cx} {rs rs1 rs2 rs' : List R} {pu pu1 pu2 pp : Bool} {α β : Type} [En α] [En β]
/-- del d[x] -/
theorem sdelE [DecidableEq α] (i : Nat) {y : Str} {ex : Expr} {v : PyData} {l : List α} {x : α} {k : Nat} {px tpos pos : Pos} (r : Room k X.A) (he : Ev X pu rs ex (rd x) rs) (hx : x ∈ l) (hi0 : rs[i]? = some (.dc (dcOf v l)) := by rfl) (hn : En.n α ≤ 8 := by decide) (ht : ∃ ys, En.e x = .tuple ys := by exact ⟨_, rfl⟩)
    (hN : X.N[i]? = some y := by rfl) (hv : Vis X.env.scope y := by first | exact Or.inl rfl | exact Or.inr (Or.inl rfl) | exact Or.inr (Or.inr rfl)) (hd1 : (y == ("__debug__" : Str)) = false := by decide) (hcd : (y == ("__classdict__" : Str)) = false := by decide) : Ex X rs (.Delete [.Subscript (.Name y px) ex tpos] pos) (.nx (rs.set i (.dc (dcOf v (l.filter fun c => decide (c ≠ x)))))) := by
  have := sdelD (pos := pos) (tpos := tpos) (px := px) i r.units he (keyOk hn ht) (by rw [dget_dc]; exact decide_eq_true hx) hi0 hN hv hd1 hcd
  rwa [ddel_dc] at this
/-- d.pop(x) as a statement -/
theorem spopE [DecidableEq α] (i : Nat) {y : Str} {ex : Expr} {v : PyData} {l : List α} {x : α} {k : Nat} {px apos cpos pos : Pos} (r : Room k X.A) (he : Ev X pu rs ex (rd x) rs) (hx : x ∈ l) (hi0 : rs[i]? = some (.dc (dcOf v l)) := by rfl) (hn : En.n α ≤ 8 := by decide) (ht : ∃ ys, En.e x = .tuple ys := by exact ⟨_, rfl⟩)
    (hN : X.N[i]? = some y := by rfl) (hv : Vis X.env.scope y := by first | exact Or.inl rfl | exact Or.inr (Or.inl rfl) | exact Or.inr (Or.inr rfl)) (hd1 : (y == ("__debug__" : Str)) = false := by decide) (hcd : (y == ("__classdict__" : Str)) = false := by decide)
    (hst : starEach (ex :: []) X.env = (false, eval ex X.env) :: starEach [] X.env := by rfl)
    (hbase : attributeBase (.Name y px) "pop" X.env (eval (.Name y px) X.env) = eval (.Name y px) X.env := by rfl)
    (hfew : ((backTo cpos (starEach (ex :: []) X.env)).all (fun x => !x.1) && (backToKw cpos (keywordEach [] X.env)).all (fun x => x.1.isSome)
      && decide ((ex :: []).length + ([] : List Keyword).length + (if ([] : List Keyword).isEmpty then 0 else 1) < 30)) = true := by rfl)
    (hline : (apos.endLine == cpos.line) = true := by rfl) (hplain : (backTo cpos (starEach [] X.env)).any (·.1) = false := by rfl) (hs : swapsWith (.Call (.Attribute (.Name y px) "pop" apos) [ex] [] cpos) none pos.line X.env = pure false := by rfl) :
    Ex X rs (.Expr (.Call (.Attribute (.Name y px) "pop" apos) [ex] [] cpos) pos) (.nx (rs.set i (.dc (dcOf v (l.filter fun c => decide (c ≠ x)))))) := by
  have := spopD i r.units he (keyOk hn ht) (by rw [dget_dc]; exact decide_eq_true hx) hi0 hN hv hd1 hcd hst hbase hfew hline hplain hs
  rwa [ddel_dc] at this
/-- l.pop() -/
theorem epopE (i : Nat) {x : Str} {l : List α} {y : α} {px apos cpos : Pos} (hy : l.getLast? = some y) (hi : rs[i]? = some (rl l) := by rfl)
    (hN : X.N[i]? = some x := by rfl) (hv : Vis X.env.scope x := by first | exact Or.inl rfl | exact Or.inr (Or.inl rfl) | exact Or.inr (Or.inr rfl)) (hd : (x == ("__debug__" : Str)) = false := by decide) (hcd : (x == ("__classdict__" : Str)) = false := by decide)
    (hbase : attributeBase (.Name x px) "pop" X.env (eval (.Name x px) X.env) = eval (.Name x px) X.env := by rfl) (hline : (apos.endLine == cpos.line) = true := by rfl) : Ev X false rs (.Call (.Attribute (.Name x px) "pop" apos) [] [] cpos) (rd y) (rs.set i (rl l.dropLast)) := by
  have := epop (px := px) (apos := apos) (cpos := cpos) i (xs := es l) (y := e y) (by rw [List.length_map]; rw [List.getLast?_eq_getElem?] at hy; exact es_at hy) hi hN hv hd hcd hbase hline
  rwa [show (es l).dropLast = es l.dropLast from List.map_dropLast.symm] at this
/-- l.append(y) -/
theorem sappE (i : Nat) {x : Str} {ex : Expr} {l l0 : List α} {y : α} {px apos cpos pos : Pos} (he : Ev X pu rs ex (rd y) rs1) (hz : l.length < sizeLine) (hi0 : rs[i]? = some (rl l0) := by rfl) (hi : rs1[i]? = some (rl l) := by rfl)
    (hN : X.N[i]? = some x := by rfl) (hv : Vis X.env.scope x := by first | exact Or.inl rfl | exact Or.inr (Or.inl rfl) | exact Or.inr (Or.inr rfl)) (hd : (x == ("__debug__" : Str)) = false := by decide) (hcd : (x == ("__classdict__" : Str)) = false := by decide)
    (hst : starEach (ex :: []) X.env = (false, eval ex X.env) :: starEach [] X.env := by rfl)
    (hbase : attributeBase (.Name x px) "append" X.env (eval (.Name x px) X.env) = eval (.Name x px) X.env := by rfl)
    (hfew : ((backTo cpos (starEach (ex :: []) X.env)).all (fun x => !x.1) && (backToKw cpos (keywordEach [] X.env)).all (fun x => x.1.isSome)
      && decide ((ex :: []).length + ([] : List Keyword).length + (if ([] : List Keyword).isEmpty then 0 else 1) < 30)) = true := by rfl)
    (hline : (apos.endLine == cpos.line) = true := by rfl) (hplain : (backTo cpos (starEach [] X.env)).any (·.1) = false := by rfl) (hs : swapsWith (.Call (.Attribute (.Name x px) "append" apos) [ex] [] cpos) none pos.line X.env = pure false := by rfl) :
    Ex X rs (.Expr (.Call (.Attribute (.Name x px) "append" apos) [ex] [] cpos) pos) (.nx (rs1.set i (rl (l ++ [y])))) := by
  have := sappend i he (by rw [List.length_map]; exact hz) hi0 hi hN hv hd hcd hst hbase hfew hline hplain hs
  rwa [show es l ++ [En.e y] = es (l ++ [y]) by simp [es]] at this
end
section
variable {X : Cx} {rs rs1 rs2 rs' : List R} {pu pu1 pu2 pp : Bool}
/-- a if c else b, without a change -/
theorem xife {c a b : Expr} {x : Bool} {r : R} {pos} (hc : Et X true rs c x rs) (ha : x = true → Ev X true rs a r rs) (hb : x = false → Ev X true rs b r rs) : Ev X true rs (.IfExp c a b pos) r rs := Ev.ife (pu1 := true) (pu2 := true) hc ha hb
end
end Ab

namespace Ab
open PySem PySem.Spec PyProof.Rows L2
open En (e)

/-! ### sources that stay while they are walked -/
/-- all stays but the list at D -/
structure Go (D : Addr) (w : Own) (H : Hp) (w' : Own) (H' : Hp) : Prop where
  k : ∀ b o, b ≠ D → H b = some o → H' b = some o
  o : ∀ b, H b ≠ none → w' b = w b
  g : ∀ b, H b ≠ none → H' b ≠ none
theorem Go.refl {D : Addr} {w : Own} {H : Hp} : Go D w H w H := ⟨fun _ _ _ h => h, fun _ _ => rfl, fun _ h => h⟩
theorem Go.trans {D : Addr} {w w1 w2 : Own} {H H1 H2 : Hp} (a : Go D w H w1 H1) (b : Go D w1 H1 w2 H2) : Go D w H w2 H2 := ⟨fun c o n e => b.k c o n (a.k c o n e), fun c h => by rw [b.o c (a.g c h), a.o c h], fun c h => b.g c (a.g c h)⟩
theorem Go.of {D : Addr} {w w1 : Own} {H H1 : Hp} (a : StepE w H w1 H1) (s : Same H H1) : Go D w H w1 H1 := ⟨fun c o _ e => s c o e, a.o, a.g⟩
/-- the list that is made: not there yet, or a temporary -/
def Free1 (D : Addr) (w : Own) (H0 H : Hp) : Prop := H D = none ∨ (H0 D ≠ none ∧ w D = some 0 ∧ ∃ us, H D = some (.lst us))
theorem Go.mv {D : Addr} {w w1 : Own} {H0 H H1 : Hp} (a : Go D w H w1 H1) (f : Free1 D w H0 H) : Mv w H w1 H1 := ⟨fun b o h c => by
  refine a.k b o (fun z => ?_) h
  subst z
  rcases f with f | ⟨_, f, us, e⟩
  · rw [h] at f; cases f
  · rw [h] at e; cases e
    rcases c with c | c
    · rw [f] at c; cases c
    · exact c True.intro, fun b h e => by rw [a.o b h]; exact e⟩
theorem RS.go {P : Program} {W : World} {K : PySem.W.Frag} {D : Addr} {w w1 : Own} {H0 H H1 : Hp} {σ : Sl} {rs : List R} (S : RS P W K H w σ rs) (a : Go D w H w1 H1) (f : Free1 D w H0 H) (tr : ∀ b, w1 b ≠ none → H1 b ≠ none) : RS P W K H1 w1 σ rs :=
  ⟨S.len, tr, fun i r e => (S.at_ i r e).keep (a.mv f) fun b o hb ho => by
    have nD : b ≠ D := fun z => by
      subst z
      rcases f with f | ⟨_, f, _⟩
      · rw [ho] at f; cases f
      · rw [hb] at f; cases f
    exact ⟨a.k b o nD ho, by rw [a.o b (some_ne ho)]; exact hb⟩⟩
/-- J walks the items, whatever D becomes -/
def ItOk (X : Cx) (J : It) (items : List PyData) (w1 : Own) (H0 H1 : Hp) : Prop := ∀ D, Free1 D w1 H0 H1 → ∀ H' w', Go D w1 H1 w' H' → J.stop items.length H' ∧ ∀ i, i < items.length → J.go i H' ∧ ∀ x H'', J.yld i H' x H'' → H'' = H' ∧ ∃ d, items[i]? = some d ∧ DR X.K H' w' x d
def cI (X : Cx) (tg iter : Expr) : TI := fun σ H R => ∀ pins s, Inv X pins σ H s → wpAny (model X.prog X.w) X.A (eval iter X.env) (fun v s1 => wpAny (model X.prog X.w) X.A (pyIter v) (PIE X pins σ tg R) X.xe s1) X.xe s
theorem cI_ok {X : Cx} {tg iter : Expr} : PI X tg iter (cI X tg iter) := ⟨fun pins s σ H R I h => h pins s I⟩
theorem PIc {X : Cx} {tg iter : Expr} {t : TI} (h : PI X tg iter t) {σ : Sl} {H : Hp} {R : It → Hp → Prop} (q : t σ H R) : cI X tg iter σ H R := fun pins s I => h.run pins s σ H R I q
def EvI (X : Cx) (rs : List R) (tg iter : Expr) (items : List PyData) : Prop := ∀ σ H w, RSx X H w σ rs → ∀ Q : It → Hp → Prop, (∀ J H1 w1, RSx X H1 w1 σ rs → StepE w H w1 H1 → Same H H1 → ItOk X J items w1 H H1 → Q J H1) → cI X tg iter σ H Q
section
variable {X : Cx} {rs rs1 rs2 rs' : List R} {pu pu1 pu2 pp : Bool} {tg : Expr}
theorem seqT_of {K : PySem.W.Frag} {H : Hp} {a : Addr} {us vs : List V} (h : SqT K H a us) (g : SqT K H a vs) : True := trivial
theorem EvI.tup {iter : Expr} {xs : List PyData} (h : Ev X true rs iter (.d (.tuple xs)) rs) : EvI X rs tg iter xs := fun σ H w S Q q => by
  refine PIc (pi_tup cT_ok) ?_
  refine h σ H w S _ fun v H1 w1 S1 st1 t1 s1 => ?_
  obtain ⟨a, us, rfl, sq, dr⟩ := drT t1
  refine ⟨a, rfl, ⟨us, sq⟩, q (Itt X.K a) H1 w1 S1 st1 (s1 rfl) fun D f H' w' go => ?_⟩
  have m := go.mv f
  refine ⟨⟨us, m.sqT sq, by rw [dr.length]; exact Nat.le_refl _⟩, fun i hi => ?_⟩
  have hl : i < us.length := by rw [dr.length]; exact hi
  refine ⟨⟨us, us[i], m.sqT sq, by simp [hl]⟩, fun x H'' y => ?_⟩
  obtain ⟨e1, e2⟩ := y
  obtain ⟨d, hd, dd⟩ := dr.getV (e2 us (m.sqT sq))
  exact ⟨e1, d, hd, DR.mv m _ _ dd⟩
theorem EvI.lst {iter : Expr} {r : R} {xs : List PyData} (h : Ev X true rs iter r rs) (hw : walkOf r = some (false, xs)) : EvI X rs tg iter xs := fun σ H w S Q q => by
  refine PIc (pi_list cT_ok) ?_
  refine h σ H w S _ fun v H1 w1 S1 st1 t1 s1 => ?_
  have key : ∃ a us, v = .ref a ∧ DRs X.K H1 w1 us xs ∧ SqL X.K H1 a us ∧ (∀ D H' w', Free1 D w1 H H1 → Go D w1 H1 w' H' → SqL X.K H' a us) := by
    cases r with
    | d x =>
      cases x with
      | list ys =>
        cases hw
        obtain ⟨a, us, rfl, h1, dr⟩ := drL t1
        exact ⟨a, us, rfl, dr, h1.sq, fun D H' w' f go => (h1.mv (go.mv f)).sq⟩
      | _ => cases hw
    | ls ys =>
      cases hw
      obtain ⟨a, us, rfl, n0, o, hp, dr⟩ := t1
      refine ⟨a, us, rfl, dr, .inl (.inl hp), fun D H' w' f go => .inl (.inl (go.k _ _ (fun z => ?_) hp))⟩
      subst z
      rcases f with f | ⟨f, _⟩
      · rw [hp] at f; cases f
      · exact f n0
    | _ => cases hw
  obtain ⟨a, us, rfl, dr, sq0, sq⟩ := key
  refine ⟨a, rfl, ⟨us, sq0⟩, q (Itl X.K a) H1 w1 S1 st1 (s1 rfl) fun D f H' w' go => ?_⟩
  have m := go.mv f
  have sq' := sq D H' w' f go
  refine ⟨⟨us, sq', by rw [dr.length]; exact Nat.le_refl _⟩, fun i hi => ?_⟩
  have hl : i < us.length := by rw [dr.length]; exact hi
  refine ⟨⟨us, us[i], sq', by simp [hl]⟩, fun x H'' y => ?_⟩
  obtain ⟨e1, e2⟩ := y
  obtain ⟨d, hd, dd⟩ := dr.getV (e2 us sq')
  exact ⟨e1, d, hd, DR.mv m _ _ dd⟩
theorem EvI.rng {a : Expr} {p pos : Pos} {n : Int} (h : Ev X true rs a (.d (.int n)) rs) (hn : -(2 ^ 62) ≤ n ∧ n < 2 ^ 62) (hm : X.mg "range" = none) (hg : Gl X "range" := by rfl) (hst : starEach [a] X.env = [(false, eval a X.env)] := by rfl) (hst2 : starEach (a :: []) X.env = (false, eval a X.env) :: starEach [] X.env := by rfl) :
    EvI X rs tg (.Call (.Name "range" p) [a] [] pos) (es ((List.range n.toNat).map fun i : Nat => (i : Int))) := fun σ H w S Q q => by
  refine PIc (pi_range1 hg hm (pa_cons cT_ok pa_nil hst2) hst) ?_
  refine h σ H w S _ fun v H1 w1 S1 st1 t1 s1 => ?_
  cases (show DR X.K H1 w1 v (.int n) from t1)
  refine ⟨n, rfl, hn.1, hn.2, q (Itr 0 n.toNat) H1 w1 S1 st1 (s1 rfl) fun D f H' w' go => ⟨?_, fun i hi => ?_⟩⟩
  · show n.toNat ≤ _
    simp
  · have hl : i < n.toNat := by simpa using hi
    refine ⟨hl, fun x H'' y => ?_⟩
    obtain ⟨e1, e2⟩ := y
    refine ⟨e1, .int i, by simp [e, En.e, hl], ?_⟩
    rw [e2, show (0 : Int) + (i : Int) = (i : Int) by omega]
    exact .int _
end

/-! ### two clauses -/
def iB (X : Cx) (scope : Scope) (tg iter : Expr) : TI := fun σ H R => ∀ (s : Shared) (H0 : Hp) (C : Addr) (cl : List (Str × Addr)) (fp : List Addr), cI (X.blk s H0 scope (compEnvC scope cl C X.env) fp) tg iter σ H R
theorem iB_ok {X : Cx} {scope : Scope} {tg iter : Expr} (s : Shared) (H : Hp) (C : Addr) (cl : List (Str × Addr)) (fp : List Addr) : PI (X.blk s H scope (compEnvC scope cl C X.env) fp) tg iter (iB X scope tg iter) := ⟨fun pins s' σ H' R I h => h s H C cl fp pins s' I⟩
/-- the list so far -/
def PI2 (X : Cx) (D : Addr) (w1 : Own) (H1 : Hp) (acc : List PyData) (H : Hp) : Prop :=
  ∃ w us, Go D w1 H1 w H ∧ (∀ b, w b ≠ none → H b ≠ none) ∧ H D = some (.lst us) ∧ DRs X.K H w us acc ∧ w D = some 0
section
variable {X : Cx} {rs : List R} {β γ : Type} [En β] [En γ]
theorem pi2_free {D : Addr} {w1 : Own} {H1 : Hp} {w : Own} {H : Hp} {us : List V} (hD : H D = some (.lst us)) (wD : w D = some 0) : Free1 D w H H := .inr ⟨some_ne hD, wD, us, hD⟩
theorem lc2_read {scope : Scope} {vs vs1 : List Nat} {tg tg1 iter iter1 elt : Expr} {c c1 : Option Expr} {items : List β} (sub : β → List γ) (cf : β → Bool) (cf1 : β → γ → Bool) (g : β → γ → PyData) (rz : β → List R) (rz1 : β → γ → List R) (js js1 : List Nat)
    (h1 : EvI X rs tg iter (es items))
    (ht : ∀ x ∈ items, AllB X scope fun B => Tg B tg (e x) (wipeR vs rs) (rz x) js) (hj : ∀ j ∈ js, j ∈ vs) (hc : ∀ x ∈ items, EtB X scope true (rz x) c (cf x) (rz x))
    (h2 : ∀ x ∈ items, cf x = true → AllB X scope fun B => EvI B (rz x) tg1 iter1 (es (sub x)))
    (ht1 : ∀ x ∈ items, ∀ y ∈ sub x, AllB X scope fun B => Tg B tg1 (e y) (wipeR vs1 (rz x)) (rz1 x y) js1) (hj1 : ∀ j ∈ js1, j ∈ vs1) (hc1 : ∀ x ∈ items, ∀ y ∈ sub x, EtB X scope true (rz1 x y) c1 (cf1 x y) (rz1 x y))
    (hk : ∀ x ∈ items, ∀ y ∈ sub x, cf1 x y = true → AllB X scope fun B => Ev B true (rz1 x y) elt (.d (g x y)) (rz1 x y))
    (hz : ∀ i x, (((items.take i).filter cf).flatMap fun x => ((sub x).filter (cf1 x)).map (g x)).length + (((sub x).filter (cf1 x)).map (g x)).length < sizeLine)
    {σ : Sl} {H : Hp} {w : Own} (S : RSx X H w σ rs) {Q : VK} (q : ∀ v H' w', RSx X H' w' σ rs → StepE w H w' H' → RTx X H H' w' v (.ls ((items.filter cf).flatMap fun x => ((sub x).filter (cf1 x)).map (g x))) → Same H H' → Q v H') :
    tLc2 (cI X tg iter) (gB X scope tg) (tests X scope c) (iB X scope tg1 iter1) (gB X scope tg1) (tests X scope c1) (eB X scope elt) vs vs1 σ H Q := by
  let pre : Nat → List PyData := fun i => ((items.take i).filter cf).flatMap fun x => ((sub x).filter (cf1 x)).map (g x)
  refine h1 σ H w S _ fun J H1 w1 S1 st1 s1 io => ?_
  intro D n
  have fD : ∀ w' H', Free1 D w' H' H1 := fun _ _ => .inl n
  refine ⟨fun i m H' => m = items.length - i ∧ i ≤ items.length ∧ PI2 X D w1 H1 (pre i) H', ⟨items.length, by simp, Nat.zero_le _, ownT w1 D, [], ⟨fun b o nb h => by rw [upd_ne nb]; exact h, ownT_old n, fun b h => tr_upd (w := fun _ => some 0) (o := .lst []) (fun _ _ => h) b (by simp)⟩, ownT_tr S1.tr, upd_same, .nil, ownT_at⟩, ?_⟩
  rintro i m H' ⟨rfl, hi, w', us, go, tr, hD, dr, wD⟩
  have St := S1.go go (fD w1 H) tr
  obtain ⟨stp, gos⟩ := io D (fD w1 H) H' w' go
  by_cases hlt : i < items.length
  · refine .inr ?_
    obtain ⟨g1, g2⟩ := gos i (by simpa using hlt)
    refine ⟨g1, PI2 X D w1 H1 (pre (i + 1)), fun H'' p => ⟨items.length - (i + 1), by omega, rfl, hlt, p⟩, fun x H'' y => ?_⟩
    obtain ⟨rfl, d, hd, dd⟩ := g2 x H'' y
    obtain ⟨b, hb, rfl⟩ := es_get hd
    have hm := mem_of_get hb
    have epre : pre (i + 1) = pre i ++ (if cf b = true then ((sub b).filter (cf1 b)).map (g b) else []) := by
      show ((items.take (i + 1)).filter cf).flatMap _ = _
      rw [take_succ_get hb, List.filter_append, List.flatMap_append]
      by_cases hcf : cf b = true <;> simp [hcf]
      · rfl
      · rfl
    intro s0 H0 C cl fp
    refine ht b hm s0 H0 C cl fp (L2.wipe σ vs) H'' w' x St.wipe dd _ fun σ2 S2 ⟨k1, k2⟩ => ?_
    refine ⟨wipe_stored k1 k2 hj, ?_⟩
    have main : ∀ H3 w3, RSx X H3 w3 σ2 (rz b) → StepE w' H'' w3 H3 → Same H'' H3 → (if cf b = true then iB X scope tg1 iter1 σ2 H3 fun J1 H4 => ∃ W1 : Nat → Nat → Hp → Prop, (∃ m, W1 0 m H4) ∧ ∀ j k H, W1 j k H →
      (J1.stop j H ∧ PI2 X D w1 H1 (pre (i + 1)) H) ∨ (J1.go j H ∧ ∃ Nx1 : Hp → Prop, (∀ H', Nx1 H' → ∃ k', k' < k ∧ W1 (j + 1) k' H') ∧ ∀ x H', J1.yld j H x H' → gB X scope tg1 x (L2.wipe σ2 vs1) H' fun σ3 H5 => L2.wipe σ3 vs1 = L2.wipe σ2 vs1 ∧ tests X scope c1 σ3 H5 fun b H6 =>
        if b = true then eB X scope elt σ3 H6 fun y H7 => ∃ acc, H7 D = some (.lst acc) ∧ acc.length < sizeLine ∧ Nx1 (upd H7 D (.lst (acc ++ [y]))) else Nx1 H6)
      else PI2 X D w1 H1 (pre (i + 1)) H3) := fun H3 w3 S3 st3 sm3 => by
      have hD3 : H3 D = some (.lst us) := sm3 _ _ hD
      have wD3 : w3 D = some 0 := by rw [st3.o D (some_ne hD)]; exact wD
      have dr3 := DRs.mv st3.mv _ _ dr
      have go3 : Go D w1 H1 w3 H3 := go.trans (Go.of st3 sm3)
      by_cases hcf : cf b = true
      · rw [if_pos hcf]
        rw [if_pos hcf] at epre
        intro s0 H0 C cl fp
        refine h2 b hm hcf s0 H0 C cl fp σ2 H3 w3 S3 _ fun J1 H4 w4 S4 st4 sm4 io1 => ?_
        have hD4 : H4 D = some (.lst us) := sm4 _ _ hD3
        have wD4 : w4 D = some 0 := by rw [st4.o D (some_ne hD3)]; exact wD3
        have f4 : Free1 D w4 H3 H4 := .inr ⟨some_ne hD3, wD4, us, hD4⟩
        have go4 : Go D w1 H1 w4 H4 := go3.trans (Go.of st4 sm4)
        let pre1 : Nat → List PyData := fun j => pre i ++ (((sub b).take j).filter (cf1 b)).map (g b)
        refine ⟨fun j k H' => k = (sub b).length - j ∧ j ≤ (sub b).length ∧ PI2 X D w4 H4 (pre1 j) H', ⟨(sub b).length, by simp, Nat.zero_le _, w4, us, Go.refl, S4.tr, hD4, by
          show DRs X.K H4 w4 us (pre i ++ (((sub b).take 0).filter (cf1 b)).map (g b))
          simp
          exact DRs.mv st4.mv _ _ dr3, wD4⟩, ?_⟩
        rintro j k H5 ⟨rfl, hj0, w5, us5, go5, tr5, hD5, dr5, wD5⟩
        have St5 := S4.go go5 f4 tr5
        obtain ⟨stp5, gos5⟩ := io1 D f4 H5 w5 go5
        by_cases hlt5 : j < (sub b).length
        · refine .inr ?_
          obtain ⟨g51, g52⟩ := gos5 j (by simpa using hlt5)
          refine ⟨g51, PI2 X D w4 H4 (pre1 (j + 1)), fun H'' p => ⟨(sub b).length - (j + 1), by omega, rfl, hlt5, p⟩, fun x5 H6 y5 => ?_⟩
          obtain ⟨rfl, d5, hd5, dd5⟩ := g52 x5 H6 y5
          obtain ⟨b5, hb5, rfl⟩ := es_get hd5
          have hm5 := mem_of_get hb5
          have epre5 : pre1 (j + 1) = pre1 j ++ (if cf1 b b5 = true then [g b b5] else []) := by
            show pre i ++ (((sub b).take (j + 1)).filter (cf1 b)).map (g b) = _
            rw [take_succ_get hb5, List.filter_append, List.map_append, ← List.append_assoc]
            by_cases hcf5 : cf1 b b5 = true
            · simp [hcf5]
              exact (List.append_assoc _ _ _).symm
            · simp [hcf5]
              rfl
          intro s0 H0 C cl fp
          refine ht1 b hm b5 hm5 s0 H0 C cl fp (L2.wipe σ2 vs1) H6 w5 x5 St5.wipe dd5 _ fun σ3 S6 ⟨k15, k25⟩ => ?_
          refine ⟨wipe_stored k15 k25 hj1, ?_⟩
          have main5 : ∀ H7 w7, RSx X H7 w7 σ3 (rz1 b b5) → StepE w5 H6 w7 H7 → Same H6 H7 → (if cf1 b b5 = true then eB X scope elt σ3 H7 fun y H8 => ∃ acc, H8 D = some (.lst acc) ∧ acc.length < sizeLine ∧ PI2 X D w4 H4 (pre1 (j + 1)) (upd H8 D (.lst (acc ++ [y]))) else PI2 X D w4 H4 (pre1 (j + 1)) H7) := fun H7 w7 S7 st7 sm7 => by
            have hD7 : H7 D = some (.lst us5) := sm7 _ _ hD5
            have wD7 : w7 D = some 0 := by rw [st7.o D (some_ne hD5)]; exact wD5
            have dr7 := DRs.mv st7.mv _ _ dr5
            by_cases hcf5 : cf1 b b5 = true
            · rw [if_pos hcf5]
              rw [if_pos hcf5] at epre5
              intro s0 H0 C cl fp
              refine hk b hm b5 hm5 hcf5 s0 H0 C cl fp σ3 H7 w7 S7 _ fun v8 H8 w8 S8 st8 t8 sm8 => ?_
              have hD8 : H8 D = some (.lst us5) := (sm8 rfl) _ _ hD7
              have wD8 : w8 D = some 0 := by rw [st8.o D (some_ne hD7)]; exact wD7
              have dr8 := DRs.mv st8.mv _ _ dr7
              have len : us5.length < sizeLine := by
                rw [dr5.length]
                refine Nat.lt_of_le_of_lt ?_ (hz i b)
                show (pre i ++ _).length ≤ _
                rw [List.length_append]
                refine Nat.add_le_add_left ?_ _
                rw [List.length_map, List.length_map]
                exact ((List.take_sublist _ _).filter _).length_le
              refine ⟨us5, hD8, len, ?_⟩
              have gW : Go D w8 H8 w8 (upd H8 D (.lst (us5 ++ [v8]))) := ⟨fun b o nb h => by rw [upd_ne nb]; exact h, fun _ _ => rfl, fun b h => by
                by_cases z : b = D
                · subst z; rw [upd_same]; exact fun z => nomatch z
                · rw [upd_ne z]; exact h⟩
              have mW := gW.mv (pi2_free (w1 := w8) (H1 := H8) hD8 wD8)
              refine ⟨w8, us5 ++ [v8], ((go5.trans (Go.of st7 sm7)).trans (Go.of st8 (sm8 rfl))).trans gW, tr_upd S8.tr, upd_same, ?_, wD8⟩
              rw [epre5]
              exact (DRs.mv mW _ _ dr8).snoc (DR.mv mW _ _ t8)
            · rw [if_neg hcf5]
              rw [if_neg hcf5, List.append_nil] at epre5
              rw [epre5]
              exact ⟨w7, us5, go5.trans (Go.of st7 sm7), S7.tr, hD7, dr7, wD7⟩
          have e5 := hc1 b hm b5 hm5
          cases c1 with
          | none =>
            obtain ⟨e51, e52⟩ := e5
            have := main5 H6 w5 S6 .refl (Same.refl _)
            rw [e51] at this
            exact this
          | some cx =>
            intro s0 H0 C cl fp
            exact e5 s0 H0 C cl fp σ3 H6 w5 S6 _ fun H7 w7 S7 st7 sm7 => main5 H7 w7 S7 st7 (sm7 rfl)
        · have ej : j = (sub b).length := by omega
          subst ej
          rw [List.length_map] at stp5
          refine .inl ⟨stp5, w5, us5, go4.trans go5, tr5, hD5, ?_, wD5⟩
          rw [epre]
          have : pre1 (sub b).length = pre i ++ ((sub b).filter (cf1 b)).map (g b) := by show pre i ++ _ = _; rw [List.take_length]
          rw [this] at dr5
          exact dr5
      · rw [if_neg hcf]
        rw [if_neg hcf, List.append_nil] at epre
        rw [epre]
        exact ⟨w3, us, go3, S3.tr, hD3, dr3, wD3⟩
    have e0 := hc b hm
    cases c with
    | none =>
      obtain ⟨e01, e02⟩ := e0
      have := main H'' w' S2 .refl (Same.refl _)
      rw [e01] at this
      exact this
    | some cx =>
      intro s0 H0 C cl fp
      exact e0 s0 H0 C cl fp σ2 H'' w' S2 _ fun H3 w3 S3 st3 sm3 => main H3 w3 S3 st3 (sm3 rfl)
  · have ei : i = items.length := by omega
    subst ei
    rw [List.length_map] at stp
    refine .inl ⟨stp, ?_⟩
    have sm : Same H1 H' := fun b o h => go.k b o (fun z => by subst z; rw [h] at n; cases n) h
    have stE : StepE w1 H1 w' H' := sstep sm go.o
    have : pre items.length = (items.filter cf).flatMap fun x => ((sub x).filter (cf1 x)).map (g x) := by show ((items.take items.length).filter cf).flatMap _ = _; rw [List.take_length]
    rw [this] at dr
    exact q _ H' w' St (st1.trans stE) ⟨D, us, rfl, fresh_from st1.g n, wD, hD, dr⟩ (s1.trans sm)
end
section
variable {X : Cx} {rs : List R} {β γ : Type} [En β] [En γ]
/-- [g x y for x in items if .. for y in sub x if ..] -/
theorem Ev.lc2 {scope : Scope} {own : List (Str × Nat)} {tg tg1 iter iter1 elt : Expr} {c c1 : Option Expr} {items : List β} {pos : Pos} (vs1 : List Nat) (sub : β → List γ) (cf : β → Bool) (cf1 : β → γ → Bool) (g : β → γ → PyData) (rz : β → List R) (rz1 : β → γ → List R) (js js1 : List Nat)
    (h1 : EvI X rs tg iter (es items))
    (ht : ∀ x ∈ items, AllB X scope fun B => Tg B tg (e x) (wipeR (own.map (·.2)) rs) (rz x) js) (hj : ∀ j ∈ js, j ∈ own.map (·.2)) (hc : ∀ x ∈ items, EtB X scope true (rz x) c (cf x) (rz x))
    (h2 : ∀ x ∈ items, cf x = true → AllB X scope fun B => EvI B (rz x) tg1 iter1 (es (sub x)))
    (ht1 : ∀ x ∈ items, ∀ y ∈ sub x, AllB X scope fun B => Tg B tg1 (e y) (wipeR vs1 (rz x)) (rz1 x y) js1) (hj1 : ∀ j ∈ js1, j ∈ vs1) (hv : ∀ i ∈ vs1, i ∈ own.map (·.2)) (hc1 : ∀ x ∈ items, ∀ y ∈ sub x, EtB X scope true (rz1 x y) c1 (cf1 x y) (rz1 x y))
    (hk : ∀ x ∈ items, ∀ y ∈ sub x, cf1 x y = true → AllB X scope fun B => Ev B true (rz1 x y) elt (.d (g x y)) (rz1 x y))
    (hz : ∀ i x, (((items.take i).filter cf).flatMap fun x => ((sub x).filter (cf1 x)).map (g x)).length + (((sub x).filter (cf1 x)).map (g x)).length < sizeLine)
    (ok : LcOk X scope own) (hs : ∀ x, foldedSetIterable iter X.env x = pure x := by intro _; rfl) (hs1 : ∀ env x, foldedSetIterable iter1 env x = pure x := by intro _ _; rfl) :
    Ev X true rs (.ListComp elt [⟨tg, iter, ifsOf c, 0⟩, ⟨tg1, iter1, ifsOf c1, 0⟩] scope pos) (.ls ((items.filter cf).flatMap fun x => ((sub x).filter (cf1 x)).map (g x))) rs := fun σ H w S Q q =>
  PEc (pe_lc2 ok.calm ok.nd cI_ok ok.blk hv gB_ok (tests_ok c) iB_ok gB_ok (tests_ok c1) eB_ok hs hs1)
    (lc2_read sub cf cf1 g rz rz1 js js1 h1 ht hj hc h2 ht1 hj1 hc1 hk hz S fun v H' w' S' st t sm => q v H' w' S' st t fun _ => sm)
theorem Ex.setLc2 (i : Nat) {y : Str} {py spos : Pos} {scope : Scope} {own : List (Str × Nat)} {tg tg1 iter iter1 elt : Expr} {c c1 : Option Expr} {items : List β} {pos : Pos} (vs1 : List Nat) (sub : β → List γ) (cf : β → Bool) (cf1 : β → γ → Bool) (g : β → γ → PyData) (rz : β → List R) (rz1 : β → γ → List R) (js js1 : List Nat)
    (h1 : EvI X rs tg iter (es items))
    (ht : ∀ x ∈ items, AllB X scope fun B => Tg B tg (e x) (wipeR (own.map (·.2)) rs) (rz x) js) (hj : ∀ j ∈ js, j ∈ own.map (·.2)) (hc : ∀ x ∈ items, EtB X scope true (rz x) c (cf x) (rz x))
    (h2 : ∀ x ∈ items, cf x = true → AllB X scope fun B => EvI B (rz x) tg1 iter1 (es (sub x)))
    (ht1 : ∀ x ∈ items, ∀ y ∈ sub x, AllB X scope fun B => Tg B tg1 (e y) (wipeR vs1 (rz x)) (rz1 x y) js1) (hj1 : ∀ j ∈ js1, j ∈ vs1) (hv : ∀ i ∈ vs1, i ∈ own.map (·.2)) (hc1 : ∀ x ∈ items, ∀ y ∈ sub x, EtB X scope true (rz1 x y) c1 (cf1 x y) (rz1 x y))
    (hk : ∀ x ∈ items, ∀ y ∈ sub x, cf1 x y = true → AllB X scope fun B => Ev B true (rz1 x y) elt (.d (g x y)) (rz1 x y))
    (hz : ∀ i x, (((items.take i).filter cf).flatMap fun x => ((sub x).filter (cf1 x)).map (g x)).length + (((sub x).filter (cf1 x)).map (g x)).length < sizeLine)
    (ok : LcOk X scope own) (hi : i < rs.length := by exact Nat.le_of_ble_eq_true rfl) (hy : X.N[i]? = some y := by rfl) (hyl : X.env.scope.names.lookup y = some .local := by rfl) (hsw : swapsWith (.ListComp elt [⟨tg, iter, ifsOf c, 0⟩, ⟨tg1, iter1, ifsOf c1, 0⟩] scope pos) (some (.Name y py)) spos.line X.env = pure true := by rfl) (hs : ∀ x, foldedSetIterable iter X.env x = pure x := by intro _; rfl) (hs1 : ∀ env x, foldedSetIterable iter1 env x = pure x := by intro _ _; rfl) :
    Ex X rs (.Assign [.Name y py] (.ListComp elt [⟨tg, iter, ifsOf c, 0⟩, ⟨tg1, iter1, ifsOf c1, 0⟩] scope pos) spos) (.nx (rs.set i (.ls ((items.filter cf).flatMap fun x => ((sub x).filter (cf1 x)).map (g x))))) := fun σ H w S D q =>
  PSc (ps_setLc2 ok.calm ok.nd hy hyl hsw cI_ok ok.blk hv gB_ok (tests_ok c) iB_ok gB_ok (tests_ok c1) eB_ok hs hs1)
    (lc2_read sub cf cf1 g rz rz1 js js1 h1 ht hj hc h2 ht1 hj1 hc1 hk hz S fun v H' w' S' st t sm => by
      obtain ⟨w2, S2, st2⟩ := S'.store st t rfl hi
      exact q _ H' w2 S2 st2)
end
end Ab

namespace Ab
open PySem PySem.Spec PySem.Calls PyProof.Rows L2

/-! ### sorted(set(l)), l a list of ints -/
abbrev nset (w : World) : Obj := { cls := .type "set", dict := none, data := .set #[] 0 (.fresh 0 0 (!w.params.followText "set-order")) }
section
variable {P : Program} {w : World} {A : Around} {E : Value → Shared → Prop} {s : Shared}
theorem set_ints {l : Addr} {its : Array Value} (ns : List Int) {Q : Value → Shared → Prop} (hh : A.handled = none) (hl : s.heap.IsList l its) (hit : IntsAre its.toList ns) (hb : ns.length + 1 < scanBound)
    (h : ∀ (h' : Heap) (tk c : Nat), SetR w h' s.heap.objs.size (fun j => decide (j ∈ ns)) c → c ≤ ns.length → (∀ b o, s.heap.get? b = some o → h'.get? b = some o) → Q (.ref s.heap.objs.size) { s with heap := h', toks := tk }) : wpAny (model P w) A (call (.type "set") [.ref l]) Q E s := by
  have sz : its.size = ns.length := by have q := IntsAre.length hit; rwa [Array.length_toList] at q
  obtain ⟨c, tl, hmro⟩ := F.called_set.mro
  have made := F.called_set.made
  have sub := F.called_set.sub
  have c1 := F.called_set.notType
  have c2 := F.called_set.canCreate
  have c3 := F.typeCall_set_1 (.ref l)
  have c4 := F.called_set.init.lookup
  refine wpAny_call (codeAny_of_tree ?_)
  show wpAny (model P w) _ (callAny (.type "set") _) _ _ _
  refine wpAny_pure ⟨Code.quiet_builtin _ (by decide +kernel), codeAny_builtin (F.entry_type_call) ?_⟩
  rw [Around.under_plain (weight_type_call_type "set" [Value.ref l] []) rfl]
  repeat (any_goals (first | assumption | wp_step) )
  refine codeAny_mono (code_set_led1 (.ref l) (E := E) (Q₁ := fun ob s1 => ob = .ref s.heap.objs.size ∧ s1 = { s with heap := s.heap.push (nset w) }) ⟨rfl, rfl⟩) fun r s1 hr => ?_
  rcases r with er | fl
  · exact hr
  cases fl with
  | ret ob =>
    obtain ⟨rfl, rfl⟩ := hr
    have hS : (s.heap.push (nset w)).get? s.heap.objs.size = some (nset w) := Heap.get?_push_size _ (by rfl)
    have hT : Shared.TypeIs { s with heap := s.heap.push (nset w) } (.ref s.heap.objs.size) "set" := ⟨nset w, hS, rfl⟩
    have c5 := F.called_set.init.bind (.ref s.heap.objs.size)
    repeat (any_goals (first | assumption | wp_step) )
    refine codeAny_mono (codeAny_call_builtin (R := wants (fun r s2 => r = .none ∧ ∃ h' tk c, s2 = { s with heap := h', toks := tk } ∧ SetR w h' s.heap.objs.size (fun j => decide (j ∈ ns)) c ∧ c ≤ ns.length ∧ (∀ b o, s.heap.get? b = some o → h'.get? b = some o)) E) F.called_set.init.plain F.entry_set_init (check_set_init_1 hT ?_)) fun r2 s2 hr2 => ?_
    · obtain ⟨⟨ocls, odict, odata, oslots⟩, hol, hcl, nl, hdl⟩ := hl
      simp only at hcl hdl
      subst hcl hdl
      have hol' : (s.heap.push (nset w)).get? l = some { cls := .type "list", dict := odict, data := .seq its nl, slots := oslots } := Heap.get?_push_of_some (nset w) hol
      have d1 := F.sub_list_set
      have d2 := F.sub_list_frozenset
      have d3 : (Value.type "list" == Value.type "dict") = false := by rfl
      have hl1 : (s.heap.push (nset w)).IsList l its := ⟨_, hol', rfl, nl, by rfl⟩
      unfold Builtin.«set.__init__» noKeywords
      unfold Builtin.Frozenset.updateFrom
      generalize hPy : pyIter = py
      wp_walk
      subst hPy
      refine wpAny_pyIter_list hl1 (wpAny_bind (wpAny_runValue ?_))
      have lS : l < s.heap.objs.size := Heap.lt_size hol
      have z1 : (s.heap.push (nset w)).objs.size = s.heap.objs.size + 1 := Heap.size_push ..
      have nI : l ≠ (s.heap.push (nset w)).objs.size := by rw [z1]; exact Nat.ne_of_lt (Nat.lt_succ_of_lt lS)
      have nS : s.heap.objs.size ∉ [(s.heap.push (nset w)).objs.size, l] := by
        rw [z1]
        simp only [List.mem_cons, List.not_mem_nil, or_false, not_or]
        exact ⟨Nat.ne_of_lt (Nat.lt_succ_self _), fun z => Nat.lt_irrefl _ (z ▸ lS)⟩
      have at_ : ∀ (i : Nat) (v : Value), its[i]? = some v → ∃ k t, ns[i]? = some k ∧ v = .int k t := fun i v hv => by
        have hi : i < ns.length := by rw [← sz]; exact (Array.getElem?_eq_some_iff.mp hv).1
        obtain ⟨t, q⟩ := IntsAre.int_at hit i v (by rw [Array.getElem?_toList]; exact hv)
        exact ⟨ns[i], t, List.getElem?_eq_getElem hi, by rw [q, List.getD_eq_getElem?_getD, List.getElem?_eq_getElem hi] <;> rfl⟩
      have h3 : A.in1.in1.in1.handled = none := by simp [hh]
      refine set_update_ints (Walks.list h3 _ l nI its).toS s.heap.objs.size nS ns sz hb at_ (its.size - 0) 0 _ (by omega) (Nat.zero_le _) ⟨⟨_, Heap.get?_push_size _ rfl, rfl, rfl⟩, hl1.push _⟩ ⟨0, Nat.le_refl 0, setR_new_at (Heap.get?_push_of_some _ hS)⟩ fun s' c' hm hc' hS' => ?_
      obtain ⟨h', g2, d', tk', os'⟩ := s'
      obtain rfl : g2 = s.gens := hm.gens
      obtain rfl : d' = s.drawn := hm.drawn
      obtain rfl : os' = s.os := hm.os
      show wpAny _ _ _ _ _ _
      refine wpAny_pure ?_
      show wpAny _ _ (ret Value.none) _ _ _
      rw [sz] at hc'
      refine wpAny_pure ⟨rfl, h', tk', c', rfl, hS', hc', fun b o ho => ?_⟩
      have hb0 : b < s.heap.objs.size := Heap.lt_size ho
      refine hm.heap b o ?_ (Heap.get?_push_of_some _ (Heap.get?_push_of_some _ ho))
      simp only [List.mem_cons, List.not_mem_nil, or_false, not_or]
      rw [z1]
      exact ⟨Nat.ne_of_lt hb0, Nat.ne_of_lt (Nat.lt_succ_of_lt hb0)⟩
    · rcases r2 with er2 | fl2
      · exact hr2
      cases fl2 with
      | ret r3 =>
        obtain ⟨rfl, h', tk, c', rfl, a1, a2, a3⟩ := hr2
        repeat (any_goals (first | assumption | wp_step) )
        exact h h' tk c' a1 a2 a3
      | _ => exact hr2.elim
  | _ => exact hr.elim
end
section
variable {X : Cx} {rs rs1 : List R} {pu : Bool}
def tSrtSet (K : PySem.W.Frag) (ta : TE) : TE := fun σ H Q => ta σ H fun x H1 => ∃ (l : Addr) (ns : List Int), x = V.ref l ∧ SqL K H1 l (ns.map V.int) ∧ ns.length < 64 ∧ ∀ (out : List Int) (p : Addr), out.Pairwise (· < ·) → (∀ k : Int, k ∈ out ↔ k ∈ ns) → H1 p = none → Q (.ref p) (upd H1 p (.lst (out.map V.int)))
theorem pe_srtSet {a : Expr} {ta : TE} {p p2 q pos : Pos} (hc : X.calm = true) (hg : Gl X "sorted") (hm : X.mg "sorted" = none) (hg2 : Gl X "set") (hm2 : X.mg "set" = none) (ha : PE X a ta)
    (na : starEach [a] X.env = (false, eval a X.env) :: starEach [] X.env := by rfl) : PE X (.Call (.Name "sorted" p) [.Call (.Name "set" p2) [a] [] q] [] pos) (tSrtSet X.K ta) := by
  constructor
  intro pins s σ H Q I h
  refine Call_ (ld_blt I hg hm bb_sorted ?_)
  refine callWith_builtin1 (args_cons ?_ rfl) rfl (by rfl)
  refine Call_ (ld_blt I hg2 hm2 bb_set ?_)
  refine callWith_type1 (args_cons (thn (ha.run pins s σ H _ I h) fun v s1 ⟨x, H1, I1, r1, q1⟩ => args_nil ?_) na) na rfl
  obtain ⟨l, ns, rfl, hq, h64, q1⟩ := q1
  cases r1
  obtain ⟨its, r, pl, hz⟩ := I1.list hq
  refine set_ints ns (I1.ok.hd hc) pl.isList (by simpa using r.ints) (by unfold scanBound; omega) fun h' tk c hS hcl hk => args_nil ?_
  have I2 : Inv X pins σ H1 { s1 with heap := h', toks := tk } := I1.kept fun b o e => hk b o e
  refine sorted_set hS (I1.ok.hd hc) (by omega) fun s' p out c ns' k g o hp hg hi hs hm hl => ?_
  have hn : H1 p = none := I2.hok.fresh hp
  have hlen : (ns'.map V.int).length ≤ sizeLine := by rw [List.length_map, hl]; show _ ≤ 16777216; omega
  have J : Inv X pins σ (upd H1 p (.lst (ns'.map V.int))) { ({ s1 with heap := h', toks := tk } : Shared) with heap := s'.heap, gens := s'.gens, drawn := s'.drawn, toks := s'.toks } :=
    I2.call (ch := []) (Un.laid k hp hn) (I2.hok.laid k hp ⟨hlen, out.toList, c, vals_of_ints hi, hg⟩) (by rw [g]; exact I2.bare) fun _ z => nomatch z
  have es' : s' = { ({ s1 with heap := h', toks := tk } : Shared) with heap := s'.heap, gens := s'.gens, drawn := s'.drawn, toks := s'.toks } := by
    cases s'; cases s1; cases o; rfl
  rw [es']
  exact ⟨.ref p, _, J, rfl, q1 ns' p hs (fun k => by rw [hm k, decide_eq_true_iff]) hn⟩
end
/-- sorted lists of ints, one after the other -/
theorem sorted_le_int (l : List Int) : (sorted l).Pairwise (· ≤ ·) := by
  have := List.pairwise_mergeSort (le := fun x y : Int => decide (x ≤ y)) (fun a b c h1 h2 => by simp at *; omega) (fun a b => by simp; omega) l
  exact this.imp fun h => by simpa using h
theorem sorted_nodup {α : Type} [EnO α] {l : List α} (h : l.Nodup) : (sorted l).Nodup := (List.mergeSort_perm l _).nodup_iff.mpr h
theorem int_sorted_unique : ∀ {l m : List Int}, l.Pairwise (· < ·) → m.Pairwise (· < ·) → (∀ k, k ∈ l ↔ k ∈ m) → l = m
  | [], [], _, _, _ => rfl
  | [], b :: m, _, _, h => absurd ((h b).mpr (by simp)) (by simp)
  | a :: l, [], _, _, h => absurd ((h a).mp (by simp)) (by simp)
  | a :: l, b :: m, h1, h2, h => by
    obtain ⟨a1, a2⟩ := List.pairwise_cons.mp h1
    obtain ⟨b1, b2⟩ := List.pairwise_cons.mp h2
    have e : a = b := by
      rcases List.mem_cons.mp ((h a).mp (by simp)) with q | q
      · exact q
      · rcases List.mem_cons.mp ((h b).mpr (by simp)) with q2 | q2
        · exact q2.symm
        · have := a1 b q2; have := b1 a q; omega
    subst e
    congr 1
    refine int_sorted_unique a2 b2 fun k => ⟨fun hk => ?_, fun hk => ?_⟩
    · rcases List.mem_cons.mp ((h k).mp (List.mem_cons_of_mem _ hk)) with q | q
      · have := a1 k hk; omega
      · exact q
    · rcases List.mem_cons.mp ((h k).mpr (List.mem_cons_of_mem _ hk)) with q | q
      · have := b1 k hk; omega
      · exact q
theorem sorted_dd_int (l : List Int) : (sorted (dd l)).Pairwise (· < ·) := by
  have h1 := sorted_le_int (dd l)
  have h2 : (sorted (dd l)).Pairwise (· ≠ ·) := sorted_nodup (dd_nodup (l := l))
  exact (h1.and h2).imp fun ⟨a, b⟩ => by omega
section
variable {X : Cx} {rs rs1 : List R} {pu : Bool}
theorem xsrtSet {a : Expr} {ra : R} {l : List Int} {p p2 q pos : Pos} (m : X.mg "sorted" = none) (m2 : X.mg "set" = none) (h : Ev X pu rs a ra rs1) (h64 : l.length < 64) (e : seqOf ra = some (es l) := by rfl) (hc : X.calm = true := by rfl) (hg : Gl X "sorted" := by rfl) (hg2 : Gl X "set" := by rfl)
    (na : starEach [a] X.env = (false, eval a X.env) :: starEach [] X.env := by rfl) : Ev X pu rs (.Call (.Name "sorted" p) [.Call (.Name "set" p2) [a] [] q] [] pos) (rl (sorted (dd l))) rs1 := fun σ H w S Q qq => by
  refine PEc (pe_srtSet hc hg m hg2 m2 cT_ok na) ?_
  refine h σ H w S _ fun v H1 w1 S1 st1 t1 s1 => ?_
  obtain ⟨a, us, rfl, hq, d⟩ := t1.seq e
  have d' : DRs X.K H1 w1 us (l.map PyData.int) := d
  refine ⟨a, l, rfl, DRs.ints_inv d' ▸ hq, h64, fun out p hp hm n => ?_⟩
  have eo : out = sorted (dd l) := int_sorted_unique hp (sorted_dd_int l) fun k => by rw [hm k, sorted_mem, dd_mem]
  subst eo
  have sm : Same H1 (upd H1 p (.lst ((sorted (dd l)).map V.int))) := same_upd n
  have st2 : StepE w1 H1 (ownT w1 p) (upd H1 p (.lst ((sorted (dd l)).map V.int))) := sstep sm (ownT_old n)
  exact qq _ _ (ownT w1 p) (S1.keep st2 sm (ownT_tr S1.tr)) (st1.trans st2) ⟨p, _, rfl, fresh_from st1.g n, ownT_at, upd_same, DRs.ints _⟩ fun e => (s1 e).trans sm
/-- a name's list, then what changes other slots, then an operation on both -/
theorem binV (i : Nat) {rs2 : List R} {x : Str} {b : Expr} {op : Operator} {rb r r0 r1 : R} {px pos : Pos} {pu2 : Bool} (hi : rs[i]? = some r0) (hw0 : viewOf i r0 = some r1) (hb : Ev X pu2 rs b rb rs2) (hi2 : rs2[i]? = some r0) (ho : OpOk X (binaryOp op) r1 rb r) (hN : X.N[i]? = some x := by rfl)
    (hv : Vis X.env.scope x := by first | exact Or.inl rfl | exact Or.inr (Or.inl rfl) | exact Or.inr (Or.inr rfl)) (hd : (x == ("__debug__" : Str)) = false := by decide) (hcd : (x == ("__classdict__" : Str)) = false := by decide) : Ev X pu2 rs (.BinOp (.Name x px) op b pos) r rs2 := fun σ H w S Q q => by
  refine PEc (pe_op cO_ok (pe_var hN hv hd hcd) cT_ok) ?_
  obtain ⟨v, e0, _⟩ := S.see hi hw0
  refine ⟨v, e0, ?_⟩
  refine hb σ H w S _ fun y H2 w2 S2 st2 t2 s2 => ?_
  obtain ⟨v', e1, t1⟩ := S2.see hi2 hw0
  rw [e0] at e1
  cases e1
  have t1' : RTx X H H2 w2 v r1 := by
    cases r0 <;> simp only [viewOf, Option.some.injEq, reduceCtorEq] at hw0 <;> subst hw0 <;> exact t1
  refine ho H H2 w2 v y S2.tr t1' t2 _ fun v3 H3 w3 sm o3 tr3 t3 => ?_
  exact q v3 H3 w3 (S2.more sm o3 tr3) (st2.trans (sstep sm o3)) (t3.from st2.g) fun e => (s2 e).trans sm
end
end Ab

namespace Ab
open PySem PySem.Spec PyProof.Rows L2
open En (e)
section
variable {X : Cx} {rs rs1 rs2 rs' : List R} {pu pu1 pu2 pp : Bool}
theorem rm1 {k : Nat} {A : Around} (r : Room k A) : A.units + 1 < cLine := by have := r.un; omega
/-! short forms for the source -/
theorem xsI (i : Nat) {x z : Str} {px pk pos : Pos} {j} {a b : Addr} {c : Src} {n : Int} {k : Nat} (r : Room k X.A) (hk : valV (srcK b c) (.inr z) = some (.int n)) (hi : rs[i]? = some (.src a b c) := by rfl) (hN : X.N[i]? = some x := by rfl) (hv : Vis X.env.scope x := by first | exact Or.inl rfl | exact Or.inr (Or.inl rfl) | exact Or.inr (Or.inr rfl)) (hd : (x == ("__debug__" : Str)) = false := by decide) (hcd : (x == ("__classdict__" : Str)) = false := by decide) :
    Ev X true rs (.Subscript (.Name x px) (.Constant (.str z) j pk) pos) (.d (.int n)) rs := Ev.srcI i (rm1 r) hk hi hN hv hd hcd
theorem xsL (i : Nat) {x : Str} {px pk pos : Pos} {j} {a b : Addr} {c : Src} {k : Nat} (r : Room k X.A) (hi : rs[i]? = some (.src a b c) := by rfl) (hN : X.N[i]? = some x := by rfl) (hv : Vis X.env.scope x := by first | exact Or.inl rfl | exact Or.inr (Or.inl rfl) | exact Or.inr (Or.inr rfl)) (hd : (x == ("__debug__" : Str)) = false := by decide) (hcd : (x == ("__classdict__" : Str)) = false := by decide) :
    Ev X true rs (.Subscript (.Name x px) (.Constant (.str "cells") j pk) pos) (.fn b) rs := Ev.srcL i (rm1 r) hi hN hv hd hcd
theorem xsLen (i j : Nat) {y : Str} {px py pos : Pos} {a b : Addr} {c : Src} (hm : X.mg "len" = none) (hi : rs[i]? = some (.src a b c) := by rfl) (hj : rs[j]? = some (.fn b) := by rfl) (hN : X.N[j]? = some y := by rfl) (hy : Vis X.env.scope y := by first | exact Or.inl rfl | exact Or.inr (Or.inl rfl) | exact Or.inr (Or.inr rfl)) (hd : (y == ("__debug__" : Str)) = false := by decide) (hcd : (y == ("__classdict__" : Str)) = false := by decide)
    (hg : Gl X "len" := by rfl) (he : starEach (.Name y py :: []) X.env = (false, eval (.Name y py) X.env) :: starEach [] X.env := by rfl) (hpl : (backTo pos (starEach [] X.env)).any (·.1) = false := by rfl) : Ev X true rs (.Call (.Name "len" px) [.Name y py] [] pos) (.d (.int c.cells.length)) rs :=
  Ev.srcLen i j hm bb_len hi hj hN hy hd hcd hg (by decide) (by decide) he hpl
theorem xsPop (i j : Nat) {y : Str} {py apos cpos : Pos} {a b : Addr} {c : Src} {n : Int} (hy : c.cells[c.cells.length - 1]? = some n) (hi : rs[i]? = some (.src a b c) := by rfl) (hj : rs[j]? = some (.fn b) := by rfl) (hN : X.N[j]? = some y := by rfl) (hv : Vis X.env.scope y := by first | exact Or.inl rfl | exact Or.inr (Or.inl rfl) | exact Or.inr (Or.inr rfl)) (hd : (y == ("__debug__" : Str)) = false := by decide) (hcd : (y == ("__classdict__" : Str)) = false := by decide)
    (hbase : attributeBase (.Name y py) "pop" X.env (eval (.Name y py) X.env) = eval (.Name y py) X.env := by rfl) (hline : (apos.endLine == cpos.line) = true := by rfl) : Ev X false rs (.Call (.Attribute (.Name y py) "pop" apos) [] [] cpos) (.d (.int n)) (rs.set i (.src a b { c with cells := c.cells.dropLast })) := Ev.srcPop i j hy hi hj hN hv hd hcd hbase hline
theorem ssPut (i : Nat) {x z : Str} {ev : Expr} {px pk tpos pos : Pos} {j} {a b : Addr} {c : Src} (c' : Src) {n : Int} {k : Nat} (r : Room k X.A) (h : Ev X pu rs ev (.d (.int n)) rs1) (hk : putK (srcK b c) (.inr z) (.int n) = srcK b c') (hcell : c'.cells = c.cells) (hi : rs1[i]? = some (.src a b c) := by rfl) (hN : X.N[i]? = some x := by rfl) (hv : Vis X.env.scope x := by first | exact Or.inl rfl | exact Or.inr (Or.inl rfl) | exact Or.inr (Or.inr rfl)) (hd : (x == ("__debug__" : Str)) = false := by decide) (hcd : (x == ("__classdict__" : Str)) = false := by decide)
    (hs : swapsWith ev (some (.Subscript (.Name x px) (.Constant (.str z) j pk) tpos)) pos.line X.env = pure false := by rfl) : Ex X rs (.Assign [.Subscript (.Name x px) (.Constant (.str z) j pk) tpos] ev pos) (.nx (rs1.set i (.src a b c'))) := Ex.srcPut i (rm1 r) h hi hk hcell hN hv hd hcd hs
theorem str_cl : ¬ (("cells" : Str) = ("left" : Str)) := by decide +kernel
theorem str_cm : ¬ (("cells" : Str) = ("mixed" : Str)) := by decide +kernel
theorem str_ct : ¬ (("cells" : Str) = ("turn" : Str)) := by decide +kernel
theorem str_lm : ¬ (("left" : Str) = ("mixed" : Str)) := by decide +kernel
theorem str_lt : ¬ (("left" : Str) = ("turn" : Str)) := by decide +kernel
theorem str_mt : ¬ (("mixed" : Str) = ("turn" : Str)) := by decide +kernel
theorem str_tl : ¬ (("turn" : Str) = ("left" : Str)) := by decide +kernel
theorem str_ml : ¬ (("mixed" : Str) = ("left" : Str)) := by decide +kernel
theorem sK_left (b : Addr) (c : Src) : valV (srcK b c) (.inr "left") = some (.int c.left) := by simp [srcK, valV, str_cl]
theorem sK_mixed (b : Addr) (c : Src) : valV (srcK b c) (.inr "mixed") = some (.int c.mixed) := by simp [srcK, valV, str_cm, str_lm]
theorem sK_turn (b : Addr) (c : Src) : valV (srcK b c) (.inr "turn") = some (.int c.turn) := by simp [srcK, valV, str_ct, str_lt, str_mt]
theorem pK_left (b : Addr) (c : Src) (n : Int) : putK (srcK b c) (.inr "left") (.int n) = srcK b { c with left := n } := by simp [srcK, putK, str_cl, str_ml, str_tl]
theorem pK_turn (b : Addr) (c : Src) (n : Int) : putK (srcK b c) (.inr "turn") (.int n) = srcK b { c with turn := n } := by simp [srcK, putK, str_ct, str_lt, str_mt]
end
section
variable {X : Cx} {rs rs1 rs2 rs' : List R} {pu pu1 pu2 pp : Bool} {α : Type} [En α]
theorem fold_len {α ι : Type} {f : List α × ι → Nat → List α × ι} (h : ∀ s i, (f s i).1.length ≤ s.1.length + 1) : ∀ (l : List Nat) (s : List α × ι), (l.foldl f s).1.length ≤ s.1.length + l.length
  | [], s => by simp
  | i :: l, s => by
    rw [List.foldl_cons, List.length_cons]
    have h1 := fold_len h l (f s i)
    have h2 := h s i
    omega
/-- [.. for i in range(n) ..] with what it draws -/
theorem Ev.lcNS {ι : Type} {scope : Scope} {own : List (Str × Nat)} {tg elt a : Expr} {c : Option Expr} {n : Int} {p pos pos' : Pos} (st : ι → List R) (f : List α × ι → Nat → List α × ι) (s0 : ι) (I : Nat → ι → Prop) (hl : Ev X pu rs a (.d (.int n)) (st s0)) (hn : -(2 ^ 62) ≤ n ∧ n < 16777216) (i0 : I 0 s0)
    (turn : ∀ (i : Nat) (s : List α × ι), i < n.toNat → I i s.2 → I (i + 1) (f s i).2 ∧ LcTurn X scope (own.map (·.2)) false tg elt c (.int i) (st s.2) (es s.1) (fun rs' acc' => rs' = st (f s i).2 ∧ acc' = es (f s i).1)) (hf : ∀ s i, (f s i).1.length ≤ s.1.length + 1)
    (ok : LcOk X scope own) (hm : X.mg "range" = none) (hg : Gl X "range" := by rfl) (hst : starEach [a] X.env = [(false, eval a X.env)] := by rfl) (hst2 : starEach (a :: []) X.env = (false, eval a X.env) :: starEach [] X.env := by rfl) (hs : ∀ x, foldedSetIterable (.Call (.Name "range" p) [a] [] pos') X.env x = pure x := by intro _; rfl) :
    Ev X (pu && false) rs (.ListComp elt [⟨tg, .Call (.Name "range" p) [a] [] pos', ifsOf c, 0⟩] scope pos) (rl ((List.range n.toNat).foldl f ([], s0)).1) (st ((List.range n.toNat).foldl f ([], s0)).2) := by
  have hz : ∀ i, i ≤ n.toNat → ((List.range i).foldl f ([], s0)).1.length ≤ sizeLine := fun i hi => by
    have := fold_len hf (List.range i) ([], s0)
    simp only [List.length_nil, List.length_range] at this
    show _ ≤ 16777216
    omega
  refine Ev.lcN (fun i rs acc => i ≤ n.toNat ∧ rs = st ((List.range i).foldl f ([], s0)).2 ∧ acc = es ((List.range i).foldl f ([], s0)).1 ∧ I i ((List.range i).foldl f ([], s0)).2) hl ⟨hn.1, by omega⟩ ⟨Nat.zero_le _, rfl, rfl, i0⟩ ?_ ?_ ?_ ok hg hm hst hst2 hs
  · rintro i rs acc hi ⟨h1, rfl, rfl, hI⟩
    obtain ⟨t1, rs2, js, b, rs3, h2, h3, h4, h5, h6⟩ := turn i _ hi hI
    have e : (List.range (i + 1)).foldl f ([], s0) = f ((List.range i).foldl f ([], s0)) i := by rw [List.range_succ, List.foldl_append]; rfl
    refine ⟨rs2, js, b, rs3, h2, h3, h4, fun q => ?_, fun q => ?_⟩
    · obtain ⟨y, rs4, h7, h8⟩ := h5 q
      exact ⟨y, rs4, h7, by omega, by rw [e]; exact h8.1, by rw [e]; exact h8.2, by rw [e]; exact t1⟩
    · have h8 := h6 q
      exact ⟨by omega, by rw [e]; exact h8.1, by rw [e]; exact h8.2, by rw [e]; exact t1⟩
  · rintro rs acc ⟨_, rfl, rfl, _⟩
    exact ⟨rfl, rfl⟩
  · rintro i rs acc ⟨h1, rfl, rfl, _⟩
    rw [List.length_map]
    exact hz i h1
end
section
variable {X : Cx} {rs : List R}
/-- the test a op b op' c, all pure -/
theorem tchain {a b c : Expr} {op op' : CmpOp} {ra rb rc : R} {k k' : Bool} {pos : Pos} (ha : Ev X true rs a ra rs) (hb : Ev X true rs b rb rs) (hc : Ev X true rs c rc rs) (ho : OpOk X (compareOp op) ra rb (.d (.bool k))) (ho' : OpOk X (compareOp op') rb rc (.d (.bool k')))
    (hm : lastMarks [op, op'] [b, c] = false := by with_unfolding_all rfl) : Et X true rs (.Compare a [op, op'] [b, c] pos) (k && k') rs := fun σ H w S Q q => by
  refine PTc (pt_chain cO_ok cO_ok cT_ok cT_ok cT_ok hm) ?_
  refine ha σ H w S _ fun x H1 w1 S1 st1 t1 s1 => ?_
  refine hb σ H1 w1 S1 _ fun y H2 w2 S2 st2 t2 s2 => ?_
  refine ho H H2 w2 x y S2.tr (t1.keep st2 (.inr (s2 rfl))) (t2.from st1.g) _ fun v H3 w3 sm o3 tr3 t3 => ?_
  cases (show DR X.K H3 w3 v (.bool k) from t3)
  have st3 : StepE w2 H2 w3 H3 := sstep sm o3
  have S3 := S2.more sm o3 tr3
  refine ⟨k, rfl, ?_⟩
  cases k with
  | false =>
    rw [if_neg Bool.false_ne_true]
    exact ⟨false, rfl, q H3 w3 S3 ((st1.trans st2).trans st3) fun _ => ((s1 rfl).trans (s2 rfl)).trans sm⟩
  | true =>
    rw [if_pos rfl]
    refine hc σ H3 w3 S3 _ fun z H4 w4 S4 st4 t4 s4 => ?_
    refine ho' H1 H4 w4 y z S4.tr ((t2.keep st3 (.inr sm)).keep st4 (.inr (s4 rfl))) (t4.from fun b h => st3.g b (st2.g b h)) _ fun v H5 w5 sm5 o5 tr5 t5 => ?_
    cases (show DR X.K H5 w5 v (.bool k') from t5)
    exact ⟨k', rfl, q H5 w5 (S4.more sm5 o5 tr5) ((((st1.trans st2).trans st3).trans st4).trans (sstep sm5 o5)) fun _ => ((((s1 rfl).trans (s2 rfl)).trans sm).trans (s4 rfl)).trans sm5⟩
end
end Ab

namespace Ab
/-! ### the program's defs, as plain functions -/
abbrev Cell := Int × Int
abbrev Pic := List Cell
instance (priority := 5000) cellBEq : BEq (Int × Int) := instBEqOfDecidableEq
instance (priority := 5000) picBEq : BEq (List (Int × Int)) := instBEqOfDecidableEq
def near8 (c : Cell) : Pic := [(c.1+1, c.2), (c.1+1, c.2+1), (c.1, c.2+1), (c.1-1, c.2+1), (c.1-1, c.2), (c.1-1, c.2-1), (c.1, c.2-1), (c.1+1, c.2-1)]
def sides4 (c : Cell) : Pic := [(c.1+1, c.2), (c.1, c.2+1), (c.1-1, c.2), (c.1, c.2-1)]
def pictureOf (l : Pic) : Pic := sorted (dd l)
def movedBy (p : Pic) (dx dy : Int) : Pic := p.map fun c => (c.1 + dx, c.2 + dy)
/-- parts: left, waiting -/
def fl1 (s : Pic × Pic) (z : Cell) : Pic × Pic := if z ∈ s.1 then (s.1.filter fun c => decide (c ≠ z), s.2 ++ [z]) else s
/-- left, waiting, lot -/
abbrev Fl := Pic × Pic × Pic
def fl2 (nb : Cell → Pic) (s : Fl) : Fl := let h := s.2.1.getLastD (0, 0); let r := (nb h).foldl fl1 (s.1, s.2.1.dropLast); (r.1, r.2, s.2.2 ++ [h])
def flc (s : Fl) : Bool := !decide (s.2.1 = [])
def flood (nb : Cell → Pic) (left : Pic) (c : Cell) : Fl := wh flc (fl2 nb) (left.length + 2) (left.filter (fun z => decide (z ≠ c)), [c], [])
def pt1 (nb : Cell → Pic) (s : Pic × List Pic) (c : Cell) : Pic × List Pic := if c ∈ s.1 then ((flood nb s.1 c).1, s.2 ++ [sorted (flood nb s.1 c).2.2]) else s
def partsOf (nb : Cell → Pic) (cells : Pic) : List Pic := ((sorted cells).foldl (pt1 nb) (dd cells, [])).2
def piecesOf (p : Pic) : List Pic := partsOf near8 p
def codeIn (p : Pic) (c : Cell) : Int := ((near8 c).foldl (fun (s : Int × Int) z => (s.1 + (if z ∈ p then s.2 else 0), s.2 * 2)) (0, 1)).1
def without (p lot : Pic) : Pic := p.filter fun c => !decide (c ∈ lot)
abbrev Rule := T3 Int Int (List (List (List Int)))
structure Rule.Ok (r : Rule) : Prop where
  a : 0 < r.a ∧ r.a < 1000
  b : 0 < r.b ∧ r.b < 1000
  t : ∀ t ∈ r.c, (t.length : Int) = r.a * r.b
  s : r.c.length < 1000
def tableNo (r : Rule) (c : Cell) : Int := c.1 % r.a * r.b + c.2 % r.b
def tableAt (r : Rule) (p : Nat) (c : Cell) : List Int := (r.c.getD p []).getD (tableNo r c).toNat []
def strikesCode (r : Rule) (p : Nat) (c : Cell) (k : Int) : Bool := decide (k ∈ tableAt r p c)
def strikesOf (r : Rule) (p : Nat) (pic : Pic) : Pic := pic.filter fun c => strikesCode r p c (codeIn pic c)
def passOf (r : Rule) (p : Nat) (pic : Pic) : Pic := without pic (strikesOf r p pic)
def roundOf (r : Rule) (pic : Pic) : Pic := (List.range r.c.length).foldl (fun q p => passOf r p q) pic
/-- found, picture, late -/
def rn1 (r : Rule) (s : List Pic × Pic × Pic) : List Pic × Pic × Pic := (s.1 ++ [s.2.2], s.2.2, roundOf r s.2.2)
def rnc (s : List Pic × Pic × Pic) : Bool := !decide (s.2.2 = s.2.1)
def roundsOf (r : Rule) (pic : Pic) : List Pic := (wh rnc (rn1 r) (pic.length + 2) ([], pic, roundOf r pic)).1
def bonesOf (r : Rule) (pic : Pic) : Pic := (roundsOf r pic).getLastD pic
def irange (n : Int) : List Int := (List.range n.toNat).map fun i : Nat => (i : Int)
def spotsOf (r : Rule) (a b : Int) : List Int := (irange a).flatMap fun x => (irange b).map fun y => tableNo r (x, y)
def refinedBy (r : Rule) (a b : Int) : Rule := ⟨a, b, r.c.map fun t => (spotsOf r a b).map fun i => t.getD i.toNat []⟩
theorem irange_len (n : Int) : (irange n).length = n.toNat := by simp [irange]
theorem irange_mem {n x : Int} : x ∈ irange n ↔ 0 ≤ x ∧ x < n := by
  unfold irange
  rw [List.mem_map]
  constructor
  · rintro ⟨i, hi, rfl⟩
    have := List.mem_range.mp hi
    omega
  · rintro ⟨h1, h2⟩
    exact ⟨x.toNat, List.mem_range.mpr (by omega), by omega⟩
theorem flatMap_len {α β : Type} {f : α → List β} {m : Nat} (h : ∀ x, (f x).length ≤ m) : ∀ l : List α, (l.flatMap f).length ≤ l.length * m
  | [] => by simp
  | x :: l => by
    rw [List.flatMap_cons, List.length_append, List.length_cons, Nat.succ_mul, Nat.add_comm]
    exact Nat.add_le_add (flatMap_len h l) (h x)

theorem tableNo_ok {r : Rule} (h : r.Ok) (c : Cell) : 0 ≤ tableNo r c ∧ tableNo r c < r.a * r.b := by
  unfold tableNo
  have h1 := Int.emod_nonneg c.1 (show r.a ≠ 0 by have := h.a.1; omega)
  have h2 := Int.emod_lt_of_pos c.1 h.a.1
  have h3 := Int.emod_nonneg c.2 (show r.b ≠ 0 by have := h.b.1; omega)
  have h4 := Int.emod_lt_of_pos c.2 h.b.1
  have h5 : 0 ≤ c.1 % r.a * r.b := Int.mul_nonneg h1 (by have := h.b.1; omega)
  have h6 : (c.1 % r.a) * r.b ≤ (r.a - 1) * r.b := Int.mul_le_mul_of_nonneg_right (by omega) (by have := h.b.1; omega)
  have h7 : (r.a - 1) * r.b = r.a * r.b - r.b := by rw [Int.sub_mul, Int.one_mul]
  constructor
  · omega
  · omega
theorem tableAt_get {r : Rule} (h : r.Ok) {p : Nat} (hp : p < r.c.length) (c : Cell) : ∃ t, r.c[p]? = some t ∧ t[(tableNo r c).toNat]? = some (tableAt r p c) := by
  have e : r.c[p]? = some r.c[p] := List.getElem?_eq_getElem hp
  refine ⟨r.c[p], e, ?_⟩
  have h1 := tableNo_ok h c
  have h2 := h.t _ (List.getElem_mem hp)
  have h3 : (tableNo r c).toNat < r.c[p].length := by omega
  unfold tableAt
  simp only [List.getD_eq_getElem?_getD, e, Option.getD_some, List.getElem?_eq_getElem h3]
theorem without_sublist (p lot : Pic) : (without p lot).Sublist p := List.filter_sublist
theorem passOf_sublist (r : Rule) (p : Nat) (pic : Pic) : (passOf r p pic).Sublist pic := without_sublist _ _
theorem roundOf_sublist (r : Rule) (pic : Pic) : (roundOf r pic).Sublist pic := by
  unfold roundOf
  generalize List.range r.c.length = l
  induction l generalizing pic with
  | nil => exact List.Sublist.refl _
  | cons p l ih => exact (ih _).trans (passOf_sublist r p pic)
theorem fl1_len (s : Pic × Pic) (z : Cell) : (fl1 s z).1.length + (fl1 s z).2.length ≤ s.1.length + s.2.length := by
  unfold fl1
  split
  · next h =>
    have h1 : (s.1.filter fun c => decide (c ≠ z)).length < s.1.length := by
      rw [List.length_filter_lt_length_iff_exists]
      exact ⟨z, h, by simp⟩
    simp only [List.length_append, List.length_cons, List.length_nil]
    omega
  · omega
theorem foldl_fl1_len : ∀ (l : Pic) (s : Pic × Pic), (l.foldl fl1 s).1.length + (l.foldl fl1 s).2.length ≤ s.1.length + s.2.length
  | [], s => Nat.le_refl _
  | z :: l, s => by rw [List.foldl_cons]; exact Nat.le_trans (foldl_fl1_len l _) (fl1_len s z)
theorem fl2_len (nb : Cell → Pic) (s : Fl) (h : flc s = true) : (fl2 nb s).1.length + (fl2 nb s).2.1.length < s.1.length + s.2.1.length := by
  have h1 := foldl_fl1_len (nb (s.2.1.getLastD (0, 0))) (s.1, s.2.1.dropLast)
  have h2 : s.2.1 ≠ [] := by simpa [flc] using h
  have h3 := List.length_pos_iff.mpr h2
  simp only [fl2, List.length_dropLast] at h1 ⊢
  omega
end Ab

namespace Ab
/-! ### the law's own helpers, as plain functions -/
def opened (ns : List Int) : Src := ⟨(ns.map fun i => if i < 0 then -i else i).reverse, 1, ns.foldl (fun s c => (s * 69069 + c * 31 + 5) % 2147483629) 11, 0⟩
def pkc (s : Src) : Bool := decide (s.left < 2) && decide (0 < s.cells.length)
def pk1 (s : Src) : Src := { s with left := s.cells.getLastD 0, cells := s.cells.dropLast }
def pkL (s : Src) : Src := wh pkc pk1 (s.cells.length + 1) s
def pickF (s : Src) (m : Int) : Int × Src :=
  if m < 2 then (0, s) else
  let s1 := pkL s
  if 1 < s1.left then (s1.left % m, { s1 with left := s1.left / m }) else
  let t := s1.turn + 1
  let u := (s1.mixed + t * 104729) % 998244353
  (((u * u + t * 17) % 2147483647) / 16 % m, { s1 with turn := t })
theorem pickF_range (s : Src) (m : Int) (h : 1 ≤ m) : 0 ≤ (pickF s m).1 ∧ (pickF s m).1 < m := by
  unfold pickF
  split
  · exact ⟨Int.le_refl _, by show (0 : Int) < m; omega⟩
  · dsimp only
    split
    · exact ⟨Int.emod_nonneg _ (by omega), Int.emod_lt_of_pos _ (by omega)⟩
    · exact ⟨Int.emod_nonneg _ (by omega), Int.emod_lt_of_pos _ (by omega)⟩
def roundCells (k : Int) : Pic := ((near8 (0, 0)).foldl (fun (s : Pic × Int) z => (if s.2 % 2 = 1 then s.1 ++ [z] else s.1, s.2 / 2)) ([], k)).1
def isSimple (k : Int) : Bool :=
  let black := roundCells k
  let white := (near8 (0, 0)).filter fun c => !decide (c ∈ black)
  let rooms := (partsOf sides4 white).filter fun room => ((sides4 (0, 0)).map fun c => decide (c ∈ room)).any id
  decide ((rooms.length : Int) = 1) && decide (((partsOf near8 black).length : Int) = 1)
def dpc (x : Int) (dense : Int) (s : Pic × Src) (y : Nat) : Pic × Src := (if 0 < (pickF s.2 dense).1 then s.1 ++ [(x, (y : Int))] else s.1, (pickF s.2 dense).2)
def dpr (x : Int) (dense : Int) (n : Nat) (s : Src) : Pic × Src := (List.range n).foldl (dpc x dense) ([], s)
def dpf (dense : Int) (n : Nat) (s : Pic × Src) (x : Nat) : Pic × Src := (s.1 ++ (dpr x dense n s.2).1, (dpr x dense n s.2).2)
def drawPic (s : Src) (most : Int) : Pic × Src :=
  let a := pickF s most
  let b := pickF a.2 most
  let c := pickF b.2 4
  let r := (List.range (1 + a.1).toNat).foldl (dpf (([2, 3, 3, 5] : List Int).getD c.1.toNat 2) (1 + b.1).toNat) ([], c.2)
  (sorted r.1, r.2)
def dt0 (s : List Int × Src) (_ : Nat) : List Int × Src := (s.1 ++ [(pickF s.2 256).1], (pickF s.2 256).2)
def dt1 (road low : Int) (s : List Int × Src) (k : Nat) : List Int × Src :=
  if road = 1 ∧ low ≤ (roundCells k).length ∧ ((roundCells k).length : Int) ≤ low + 2 then (if 0 < (pickF s.2 3).1 then s.1 ++ [(k : Int)] else s.1, (pickF s.2 3).2) else s
def dt2 (road : Int) (s : List Int × Src) (k : Nat) : List Int × Src :=
  if road = 2 ∧ ((roundCells k).length : Int) < 4 then (if (pickF s.2 2).1 = 0 then s.1 ++ [(k : Int)] else s.1, (pickF s.2 2).2)
  else if road = 3 ∧ 0 < (roundCells k).length ∧ isSimple k = true then (s.1 ++ [(k : Int)], s.2) else s
def dtK (road low : Int) (s : List Int × Src) (k : Nat) : List Int × Src := dt2 road (dt1 road low s k) k
def drawTable (s : Src) : List Int × Src :=
  let a := pickF s 4
  if a.1 = 0 then
    let n := pickF a.2 6
    let r := (List.range n.1.toNat).foldl dt0 ([], n.2)
    (sorted (dd r.1), r.2)
  else
    let l := pickF a.2 4
    (List.range 256).foldl (dtK a.1 l.1) ([], l.2)
def dr1 (s : List (List Int) × Src) (_ : Nat) : List (List Int) × Src := (s.1 ++ [(drawTable s.2).1], (drawTable s.2).2)
def dr2 (n : Nat) (s : List (List (List Int)) × Src) (_ : Nat) : List (List (List Int)) × Src :=
  let r := (List.range n).foldl dr1 ([], s.2)
  (s.1 ++ [r.1], r.2)
def drawRule (s : Src) : Rule × Src :=
  let a := pickF s 2
  let b := pickF a.2 2
  let c := pickF b.2 2
  let r := (List.range (1 + c.1).toNat).foldl (dr2 ((1 + a.1) * (1 + b.1)).toNat) ([], c.2)
  (⟨1 + a.1, 1 + b.1, r.1⟩, r.2)
end Ab

namespace Ab
open PySem PySem.Spec PyProof.Rows L2
open En (e)
abbrev topS (i : Nat) : Stmt := PySem.Challenge.pw_boneways_k73_whole_pieces_by_themselves.main.body.getD i (.Pass ⟨0,0,0,0⟩)
/-- the built-in names are as they were -/
structure Bt (mg : Str → Option Value) : Prop where
  len : mg "len" = none
  tuple : mg "tuple" = none
  list : mg "list" = none
  int : mg "int" = none
  abs : mg "abs" = none
  max : mg "max" = none
  sorted : mg "sorted" = none
  dict : mg "dict" = none
  any : mg "any" = none
  range : mg "range" = none
  set : mg "set" = none
section
variable {P : Program} {W : World} {K : PySem.W.Frag} {mg : Str → Option Value} {base : Heap}
abbrev big : Nat := 1000000
theorem near_cells_ok {f : Addr} (D : At K mg "near_cells" (topS 2) f) : Cal P W K mg base "near_cells" 1 (S1 (fun _ => True) rd (fun c : Cell => rd (near8 c))) f := by
  refine cal_of (N := ["cell","x","y","upper"]) (ps := ["cell"]) D ⟨rfl, rfl, rfl, by decide +kernel, rfl, by decide +kernel, by decide +kernel⟩ (fun _ _ _ _ _ _ us hl => match us, hl with | [_], _ => rfl) (by decide) ?_ ?_
  · rintro rl r ⟨z, _, rfl, rfl⟩; exact ⟨rfl, En.im _⟩
  · rintro cdv A outer s H E hr rl r ⟨⟨x,y⟩, _, rfl, rfl⟩
    have nd : (["cell","x","y","upper"] : List Str).Nodup := by decide +kernel
    apply Exists.intro
    refine Exs.cons (stgt (nm 0) (tgt (tg1 (tgn 1 nd) (tg1 (tgn 2 nd) tg0)))) ?_
    refine Exs.cons (sset 3 nd (tup (a1 (tup (a1 (bin (nm 1) Ev.kInt op_addI) (a1 (nm 2) a0)))
       (a1 (tup (a1 (bin (nm 1) Ev.kInt op_addI) (a1 (bin (nm 2) Ev.kInt op_addI) a0)))
       (a1 (tup (a1 (nm 1) (a1 (bin (nm 2) Ev.kInt op_addI) a0)))
       (a1 (tup (a1 (bin (nm 1) Ev.kInt op_subI) (a1 (bin (nm 2) Ev.kInt op_addI) a0))) a0)))))) ?_
    refine Exs.ret (sret (bin (nm 3) (tup (a1 (tup (a1 (bin (nm 1) Ev.kInt op_subI) (a1 (nm 2) a0)))
       (a1 (tup (a1 (bin (nm 1) Ev.kInt op_subI) (a1 (bin (nm 2) Ev.kInt op_subI) a0)))
       (a1 (tup (a1 (nm 1) (a1 (bin (nm 2) Ev.kInt op_subI) a0)))
       (a1 (tup (a1 (bin (nm 1) Ev.kInt op_addI) (a1 (bin (nm 2) Ev.kInt op_subI) a0))) a0))))) (op_addT (Nat.le_of_ble_eq_true rfl))))
theorem picture_of_ok (B : Bt mg) {f : Addr} (D : At K mg "picture_of" (topS 1) f) : Cal P W K mg base "picture_of" 1 (S1 (fun l => l.length < big) rd (fun c : Pic => rd (pictureOf c))) f := by
  refine cal_of (N := ["cells", "cell"]) (ps := ["cells"]) D ⟨rfl, rfl, rfl, by decide +kernel, rfl, by decide +kernel, by decide +kernel⟩ (fun _ _ _ _ _ _ us hl => match us, hl with | [_], _ => rfl) (by decide) ?_ ?_
  · rintro rl r ⟨z, _, rfl, rfl⟩; exact ⟨rfl, En.im _⟩
  · rintro cdv A outer s H E hr rl r ⟨l, hl, rfl, rfl⟩
    have nd : (["cells", "cell"] : List Str).Nodup := by decide +kernel
    apply Exists.intro
    have hz : l.length < sizeLine := Nat.lt_trans hl (by decide)
    refine Exs.ret (sret (xtupE (l := pictureOf l) B.tuple (xsrtD (l := dd l) (v := .bool true) B.sorted hr (Ev.dx0 (own := [("cell", 1)]) (l := l) (fun x => [rd l, rd x]) [1] (nm 0) rfl hz
      (fun x _ _ _ _ _ _ => tgn 1 nd) (by decide) (fun x _ _ _ _ _ _ => nm 1) (fun x _ _ _ _ _ _ => Ev.kBool) (lcok nd) hr) (Nat.le_trans (dd_length l) (Nat.le_of_lt hz)))))
end
end Ab

namespace Ab
open PySem PySem.Spec PyProof.Rows L2
open En (e)
section
variable {P : Program} {W : World} {K : PySem.W.Frag} {mg : Str → Option Value} {base : Heap}
theorem big_lt {n : Nat} (h : n < big) : n < sizeLine := Nat.lt_trans h (by decide)
theorem es_append {α : Type} [En α] (l m : List α) : es l ++ es m = es (l ++ m) := List.map_append.symm
theorem united_ok {f g : Addr} (D : At K mg "united" (topS 3) f) (G : Cal P W K mg base "picture_of" 1 (S1 (fun l => l.length < big) rd (fun c : Pic => rd (pictureOf c))) g) :
    Cal P W K mg base "united" 2 (S2 (fun l m => l.length + m.length < big) rd rd (fun l m : Pic => rd (pictureOf (l ++ m)))) f := by
  refine cal_of (N := ["one", "other"]) (ps := ["one", "other"]) D ⟨rfl, rfl, rfl, by decide +kernel, rfl, by decide +kernel, by decide +kernel⟩ (fun _ _ _ _ _ _ us hl => match us, hl with | [_, _], _ => rfl) (by decide) ?_ ?_
  · rintro rl r ⟨z, w, _, rfl, rfl⟩; exact ⟨rfl, En.im _⟩
  · rintro cdv A outer s H E hr rl r ⟨l, m, hl, rfl, rfl⟩
    apply Exists.intro
    refine Exs.ret (sret (call1 (al := [rd (l ++ m)]) G hr (a1 (Ev.conv (r1 := rd (l ++ m)) (bin (nm 0) (nm 1) (op_addT (by simpa using Nat.le_of_lt (big_lt hl)))) (by rw [es_append]; rfl) rfl) a0) ⟨l ++ m, by simpa using hl, rfl, rfl⟩))
theorem shifted_ok (B : Bt mg) {f : Addr} (D : At K mg "shifted" (topS 4) f) : Cal P W K mg base "shifted" 1 (S3 (fun l _ _ => l.length < big) rd rd rd (fun (l : Pic) (dx dy : Int) => rd (movedBy l dx dy))) f := by
  refine cal_of (N := ["picture", "dx", "dy", "x", "y"]) (ps := ["picture", "dx", "dy"]) D ⟨rfl, rfl, rfl, by decide +kernel, rfl, by decide +kernel, by decide +kernel⟩ (fun _ _ _ _ _ _ us hl => match us, hl with | [_, _, _], _ => rfl) (by decide) ?_ ?_
  · rintro rl r ⟨z, w, u, _, rfl, rfl⟩; exact ⟨rfl, En.im _⟩
  · rintro cdv A outer s H E hr rl r ⟨l, dx, dy, hl, rfl, rfl⟩
    have nd : (["picture", "dx", "dy", "x", "y"] : List Str).Nodup := by decide +kernel
    apply Exists.intro
    refine Exs.ret (sret (Ev.conv (r1 := rd (movedBy l dx dy)) (xtup B.tuple (Ev.lc0 (own := [("x", 3), ("y", 4)]) (l := l) (pp := true) (fun c => e ((c.1 + dx, c.2 + dy) : Cell)) (fun c => [rd l, rd dx, rd dy, rd c.1, rd c.2]) [3, 4] (nm 0) rfl (Nat.le_of_lt (big_lt hl))
      (fun x _ _ _ _ _ _ => tgt (tg1 (tgn 3 nd) (tg1 (tgn 4 nd) tg0))) (by decide) (fun x _ _ _ _ _ _ => tup (a1 (bin (nm 3) (nm 1) op_addI) (a1 (bin (nm 4) (nm 2) op_addI) a0))) (fun x _ => rfl) (lcok nd))) (by simp [movedBy, e, En.e, Function.comp_def]) rfl))
theorem struck_ok (B : Bt mg) {f : Addr} (D : At K mg "struck" (topS 10) f) : Cal P W K mg base "struck" 1 (S2 (fun l m => l.length < big ∧ m.length < big) rd rd (fun l m : Pic => rd (without l m))) f := by
  refine cal_of (N := ["picture", "lot", "gone", "cell"]) (ps := ["picture", "lot"]) D ⟨rfl, rfl, rfl, by decide +kernel, rfl, by decide +kernel, by decide +kernel⟩ (fun _ _ _ _ _ _ us hl => match us, hl with | [_, _], _ => rfl) (by decide) ?_ ?_
  · rintro rl r ⟨z, w, _, rfl, rfl⟩; exact ⟨rfl, En.im _⟩
  · rintro cdv A outer s H E hr rl r ⟨l, m, ⟨hl, hm⟩, rfl, rfl⟩
    have nd : (["picture", "lot", "gone", "cell"] : List Str).Nodup := by decide +kernel
    apply Exists.intro
    refine Exs.cons (sset 2 nd (Ev.dx0 (own := [("cell", 3)]) (l := m) (v := .bool true) (fun x => [rd l, rd m, .un, rd x]) [3] (nm 1) rfl (big_lt hm) (fun x _ _ _ _ _ _ => tgn 3 nd) (by decide) (fun x _ _ _ _ _ _ => nm 3) (fun x _ _ _ _ _ _ => Ev.kBool) (lcok nd) hr)) ?_
    refine Exs.ret (sret (Ev.conv (r1 := rd (without l m)) (xtup B.tuple (Ev.lcF (own := [("cell", 3)]) (l := l) (pp := true) (fun c => !decide (c ∈ m)) (fun c => [rd l, rd m, .dc (dcOf (.bool true) (dd m)), rd c]) [3] (nm 0) rfl (Nat.le_of_lt (big_lt hl))
      (fun x _ _ _ _ _ _ => tgn 3 nd) (by decide) (fun x _ _ _ _ _ _ => Et.conv (tcmp (nm 3) (nm 2) (op_notInD (l := dd m) hr)) (by rw [decide_eq_decide.mpr dd_mem])) (fun x _ _ _ _ _ _ => nm 3) (fun x _ => rfl) (lcok nd))) rfl rfl))
end
end Ab

namespace Ab
open PySem PySem.Spec PyProof.Rows L2
open En (e)
section
variable {P : Program} {W : World} {K : PySem.W.Frag} {mg : Str → Option Value} {base : Heap}
theorem getLast_D {α : Type} {l : List α} {d : α} (h : l ≠ []) : l.getLast? = some (l.getLastD d) := by
  simp [List.getLastD_eq_getLast?, List.getLast?_eq_some_getLast h]
theorem parts_of_ok (B : Bt mg) {f g : Addr} {y : Str} {kg : Nat} {nb : Cell → Pic} (D : At K mg "parts_of" (topS 6) f) (G : Cal P W K mg base y kg (S1 (fun _ => True) rd (fun c : Cell => rd (nb c))) g) :
    Cal P W K mg base "parts_of" (kg + 1) (fun al r => ∃ l : Pic, l.length < big ∧ al = [rd l, .fn g] ∧ r = rd (partsOf nb l)) f := by
  refine cal_of (N := ["cells","steps","left","found","cell","lot","waiting","here","late"]) (ps := ["cells", "steps"]) D ⟨rfl, rfl, rfl, by decide +kernel, rfl, by decide +kernel, by decide +kernel⟩ (fun _ _ _ _ _ _ us hl => match us, hl with | [_, _], _ => rfl) (by decide) ?_ ?_
  · rintro rl r ⟨z, _, rfl, rfl⟩; exact ⟨rfl, En.im _⟩
  · rintro cdv A outer s H E hr rl r ⟨l, hl, rfl, rfl⟩
    have nd : (["cells","steps","left","found","cell","lot","waiting","here","late"] : List Str).Nodup := by decide +kernel
    have hz := big_lt hl
    let tt : PyData := .bool true
    let st0 : Pic × List Pic → List R := fun s => [rd l, .fn g, .dc (dcOf tt s.1), rl s.2, .un, .un, .un, .un, .un]
    apply Exists.intro
    refine Exs.cons (spar 2 3 nd (a1 (Ev.dx0 (own := [("cell", 4)]) (l := l) (v := tt) (fun x => [rd l, .fn g, .un, .un, rd x, .un, .un, .un, .un]) [4] (nm 0) rfl hz (fun x _ _ _ _ _ _ => tgn 4 nd) (by decide) (fun x _ _ _ _ _ _ => nm 4) (fun x _ _ _ _ _ _ => Ev.kBool) (lcok nd) hr) (a1 (lst a0) a0))) ?_
    refine Exs.wk (rs1 := st0 (dd l, [])) ?_
    refine Exs.cons (Ex.forF (l := sorted l) st0 (pt1 nb) (dd l, []) (fun i s => s.1.length ≤ l.length ∧ s.2.length ≤ i) (xsrtT B.sorted hr (nm 0) (Nat.le_of_lt hz)) rfl ⟨dd_length l, Nat.le_refl _⟩ ?_ PassesOwn.never) ?_
    · rintro i c ⟨left, found⟩ hc ⟨h1, h2⟩
      have hi : i < l.length := by have := (List.getElem?_eq_some_iff.mp hc).1; rwa [sorted_length] at this
      by_cases hm : c ∈ left
      · have e1 : pt1 nb (left, found) c = ((flood nb left c).1, found ++ [sorted (flood nb left c).2.2]) := by unfold pt1; rw [if_pos hm]
        rw [e1]
        have h1 : left.length ≤ l.length := h1
        have h2 : found.length ≤ i := h2
        let stw : Fl → List R := fun s => [rd l, .fn g, .dc (dcOf tt s.1), rl found, .un, rl s.2.2, rl s.2.1, .un, .un]
        let μ : Fl → Nat := fun s => s.1.length + s.2.1.length
        let I : Fl → Prop := fun s => s.1.length + s.2.1.length + s.2.2.length ≤ l.length
        have hlt : (left.filter fun z => decide (z ≠ c)).length < left.length := by
          rw [List.length_filter_lt_length_iff_exists]
          exact ⟨c, hm, by simp⟩
        have hstep : ∀ s, I s → flc s = true → I (fl2 nb s) ∧ μ (fl2 nb s) < μ s := fun s hI hc => by
          have h3 := fl2_len nb s hc
          refine ⟨?_, h3⟩
          show (fl2 nb s).1.length + (fl2 nb s).2.1.length + (fl2 nb s).2.2.length ≤ l.length
          have h4 : (fl2 nb s).2.2.length = s.2.2.length + 1 := by simp [fl2]
          have h5 : s.1.length + s.2.1.length + s.2.2.length ≤ l.length := hI
          omega
        have hI0 : I (left.filter (fun z => decide (z ≠ c)), [c], []) := by
          show (left.filter fun z => decide (z ≠ c)).length + 1 + 0 ≤ l.length
          omega
        have hwh : ∀ n s, I s → I (wh flc (fl2 nb) n s) := by
          intro n
          induction n with
          | zero => intro s h; exact h
          | succ n ih =>
            intro s h
            unfold wh
            split
            · next q => exact ih _ (hstep s h q).1
            · exact h
        have hfl : I (flood nb left c) := hwh _ _ hI0
        have hfl' : (flood nb left c).1.length + (flood nb left c).2.1.length + (flood nb left c).2.2.length ≤ l.length := hfl
        refine ⟨⟨by show (flood nb left c).1.length ≤ _; omega, by show (found ++ [_]).length ≤ i + 1; simp; exact h2⟩, _, _, tgn 4 nd, ?_⟩
        refine Exs.cons (Ex.ite (tcmp (nm 4) (nm 2) (op_inD (l := left) hr)) (fun q => ?_) (fun q => absurd (decide_eq_true hm) (by rw [q]; exact Bool.false_ne_true))) Exs.fin
        refine Exs.cons (sdelE 2 hr (nm 4) hm) ?_
        refine Exs.cons (spar 5 6 nd (a1 (lst a0) (a1 (lst (a1 (nm 4) a0)) a0))) ?_
        refine Exs.wk (rs1 := stw (left.filter (fun z => decide (z ≠ c)), [c], [])) ?_
        refine Exs.cons (Ex.whileF stw flc (fl2 nb) μ I (left.filter (fun z => decide (z ≠ c)), [c], []) (left.length + 2) (by show (left.filter fun z => decide (z ≠ c)).length + 1 < _; omega) hI0 (fun s hI => ?_) PassesOwn.never) ?_
        · obtain ⟨lf, wt, lot⟩ := s
          have hI' : lf.length + wt.length + lot.length ≤ l.length := hI
          refine ⟨⟨_, tcmp (nm 6) (lst a0) (op_neEL (x := wt) (y := []) hr)⟩, fun q => ⟨?_, hstep _ hI q⟩⟩
          have hw : wt ≠ [] := by simpa [flc] using q
          refine Exs.cons (sset 7 nd (epopE 6 (getLast_D (d := (0, 0)) hw))) ?_
          refine Exs.cons (sappE 5 (l := lot) (l0 := lot) (nm 7) (by omega)) ?_
          let h := wt.getLastD (0, 0)
          let st1 : Pic × Pic → List R := fun s => [rd l, .fn g, .dc (dcOf tt s.1), rl found, .un, rl (lot ++ [h]), rl s.2, rd h, .un]
          refine Exs.wk (rs1 := st1 (lf, wt.dropLast)) ?_
          refine Exs.cons (Ex.forF (l := nb h) st1 fl1 (lf, wt.dropLast) (fun i s => s.1.length + s.2.length ≤ l.length) (callL 1 G hr (a1 (nm 7) a0) ⟨h, trivial, rfl, rfl⟩ rfl rfl (Nat.le_refl _)) rfl (by show lf.length + wt.dropLast.length ≤ _; simp; omega) (fun i z s hz0 hs => ?_) PassesOwn.never) Exs.fin
          obtain ⟨lf1, wt1⟩ := s
          have hs' : lf1.length + wt1.length ≤ l.length := hs
          refine ⟨Nat.le_trans (fl1_len _ _) hs, _, _, tgn 8 nd, ?_⟩
          by_cases hz1 : z ∈ lf1
          · have e2 : fl1 (lf1, wt1) z = (lf1.filter fun c => decide (c ≠ z), wt1 ++ [z]) := by unfold fl1; rw [if_pos hz1]
            rw [e2]
            refine Exs.cons (Ex.ite (tcmp (nm 8) (nm 2) (op_inD (l := lf1) hr)) (fun q => ?_) (fun q => absurd (decide_eq_true hz1) (by rw [q]; exact Bool.false_ne_true))) Exs.fin
            refine Exs.cons (sdelE 2 hr (nm 8) hz1) ?_
            exact Exs.cons (sappE 6 (l := wt1) (l0 := wt1) (nm 8) (by omega)) Exs.fin
          · have e2 : fl1 (lf1, wt1) z = (lf1, wt1) := by unfold fl1; rw [if_neg hz1]
            rw [e2]
            exact Exs.cons (Ex.ite (tcmp (nm 8) (nm 2) (op_inD (l := lf1) hr)) (fun q => absurd (of_decide_eq_true q) hz1) (fun q => Exs.fin)) Exs.fin
        · refine Exs.cons (sappE 3 (l := found) (l0 := found) (xtupE (l := sorted (flood nb left c).2.2) B.tuple (xsrtL B.sorted hr (nm 5) (l := (flood nb left c).2.2) (by omega))) (by omega)) Exs.fin
      · have e1 : pt1 nb (left, found) c = (left, found) := by unfold pt1; rw [if_neg hm]
        rw [e1]
        refine ⟨⟨h1, Nat.le_succ_of_le h2⟩, _, _, tgn 4 nd, ?_⟩
        refine Exs.cons (Ex.ite (tcmp (nm 4) (nm 2) (op_inD (l := left) hr)) (fun q => absurd (of_decide_eq_true q) hm) (fun q => Exs.fin)) Exs.fin
    · refine Exs.ret (sret (xtupE (l := partsOf nb l) B.tuple (nm 3)))
end
end Ab

namespace Ab
open PySem PySem.Spec PyProof.Rows L2
open En (e)
section
variable {P : Program} {W : World} {K : PySem.W.Frag} {mg : Str → Option Value} {base : Heap}
theorem pieces_ok {f g h : Addr} (D : At K mg "pieces" (topS 7) f) (G : Cal P W K mg base "parts_of" 2 (fun al r => ∃ l : Pic, l.length < big ∧ al = [rd l, .fn h] ∧ r = rd (partsOf near8 l)) g) (N : Cal P W K mg base "near_cells" 1 (S1 (fun _ => True) rd (fun c : Cell => rd (near8 c))) h) :
    Cal P W K mg base "pieces" 3 (S1 (fun l => l.length < big) rd (fun l : Pic => rd (piecesOf l))) f := by
  refine cal_of (N := ["picture"]) (ps := ["picture"]) D ⟨rfl, rfl, rfl, by decide +kernel, rfl, by decide +kernel, by decide +kernel⟩ (fun _ _ _ _ _ _ us hl => match us, hl with | [_], _ => rfl) (by decide) ?_ ?_
  · rintro rl r ⟨z, _, rfl, rfl⟩; exact ⟨rfl, En.im _⟩
  · rintro cdv A outer s H E hr rl r ⟨l, hl, rfl, rfl⟩
    apply Exists.intro
    exact Exs.ret (sret (call1 G hr (a1 (nm 0) (a1 (gfn N) a0)) ⟨l, hl, rfl, rfl⟩))
def cd1 (p : Pic) (s : Int × Int) (z : Cell) : Int × Int := (s.1 + (if z ∈ p then s.2 else 0), s.2 * 2)
theorem code_at_ok {f g : Addr} (D : At K mg "code_at" (topS 9) f) (N : Cal P W K mg base "near_cells" 1 (S1 (fun _ => True) rd (fun c : Cell => rd (near8 c))) g) :
    Cal P W K mg base "code_at" 2 (S2 (fun l _ => l.length < big) rd rd (fun (l : Pic) (c : Cell) => rd (codeIn l c))) f := by
  refine cal_of (N := ["picture", "cell", "black", "code", "step", "late", "one"]) (ps := ["picture", "cell"]) D ⟨rfl, rfl, rfl, by decide +kernel, rfl, by decide +kernel, by decide +kernel⟩ (fun _ _ _ _ _ _ us hl => match us, hl with | [_, _], _ => rfl) (by decide) ?_ ?_
  · rintro rl r ⟨z, w, _, rfl, rfl⟩; exact ⟨rfl, En.im _⟩
  · rintro cdv A outer s H E hr rl r ⟨l, c, hl, rfl, rfl⟩
    have nd : (["picture", "cell", "black", "code", "step", "late", "one"] : List Str).Nodup := by decide +kernel
    apply Exists.intro
    refine Exs.cons (Ex.setDx0 2 (own := [("one", 6)]) (l := l) (v := .bool true) (fun x => [rd l, rd c, .un, .un, .un, .un, rd x]) [6] (nm 0) rfl (big_lt hl) (fun x _ _ _ _ _ _ => tgn 6 nd) (by decide) (fun x _ _ _ _ _ _ => nm 6) (fun x _ _ _ _ _ _ => Ev.kBool) (lcok nd) hr) ?_
    refine Exs.cons (stup 3 4 nd (a1 Ev.kInt (a1 Ev.kInt a0))) ?_
    let st : Int × Int → List R := fun s => [rd l, rd c, .dc (dcOf (.bool true) (dd l)), rd s.1, rd s.2, .un, .un]
    refine Exs.wk (rs1 := st (0, 1)) ?_
    refine Exs.cons (Ex.forF (l := near8 c) st (cd1 l) (0, 1) (fun _ _ => True) (call1 N hr (a1 (nm 1) a0) ⟨c, trivial, rfl, rfl⟩) rfl trivial (fun i z s hz _ => ⟨trivial, _, _, tgn 5 nd, ?_⟩) PassesOwn.never) ?_
    · obtain ⟨a, b⟩ := s
      refine Exs.cons (spar 3 4 nd (a1 (bin (nm 3) (Ev.ife (r := rd (if z ∈ l then b else 0)) (Et.conv (tcmp (nm 5) (nm 2) (op_inD (l := dd l) hr)) (decide_eq_decide.mpr dd_mem)) (fun q => Ev.conv (nm 4) (by rw [if_pos (of_decide_eq_true q)]) rfl) (fun q => Ev.conv Ev.kInt (by rw [if_neg (of_decide_eq_false q)]; rfl) rfl)) op_addI) (a1 (bin (nm 4) Ev.kInt (op_mulI (.inr ⟨by decide, by decide⟩))) a0))) Exs.fin
    · exact Exs.ret (sret (nm 3))
theorem table_number_ok {f : Addr} (D : At K mg "table_number" (topS 12) f) :
    Cal P W K mg base "table_number" 1 (S2 (fun r _ => r.Ok) rd rd (fun (r : Rule) (c : Cell) => rd (tableNo r c))) f := by
  refine cal_of (N := ["rule", "cell"]) (ps := ["rule", "cell"]) D ⟨rfl, rfl, rfl, by decide +kernel, rfl, by decide +kernel, by decide +kernel⟩ (fun _ _ _ _ _ _ us hl => match us, hl with | [_, _], _ => rfl) (by decide) ?_ ?_
  · rintro rl r ⟨z, w, _, rfl, rfl⟩; exact ⟨rfl, En.im _⟩
  · rintro cdv A outer s H E hr rl r ⟨u, c, hu, rfl, rfl⟩
    apply Exists.intro
    refine Exs.ret (sret (bin (bin (bin (ixT (nm 1) Ev.kInt) (ixT (nm 0) Ev.kInt) (op_modI (i := c.1) (j := u.a) hu.a.1)) (ixT (nm 0) Ev.kInt) (op_mulI (i := c.1 % u.a) (j := u.b) (.inr ⟨by have := hu.b; omega, by have := hu.b; omega⟩))) (bin (ixT (nm 1) Ev.kInt) (ixT (nm 0) Ev.kInt) (op_modI (i := c.2) (j := u.b) hu.b.1)) op_addI))
theorem strikes_code_ok {f g : Addr} (D : At K mg "strikes_code" (topS 13) f) (G : Cal P W K mg base "table_number" 1 (S2 (fun r _ => r.Ok) rd rd (fun (r : Rule) (c : Cell) => rd (tableNo r c))) g) :
    Cal P W K mg base "strikes_code" 2 (S4 (fun r p _ _ => r.Ok ∧ p < r.c.length) rd (fun p : Nat => rd (p : Int)) rd rd (fun (r : Rule) (p : Nat) (c : Cell) (k : Int) => rd (strikesCode r p c k))) f := by
  refine cal_of (N := ["rule", "p", "cell", "code"]) (ps := ["rule", "p", "cell", "code"]) D ⟨rfl, rfl, rfl, by decide +kernel, rfl, by decide +kernel, by decide +kernel⟩ (fun _ _ _ _ _ _ us hl => match us, hl with | [_, _, _, _], _ => rfl) (by decide) ?_ ?_
  · rintro rl r ⟨z, w, u, t, _, rfl, rfl⟩; exact ⟨rfl, En.im _⟩
  · rintro cdv A outer s H E hr rl r ⟨u, p, c, k, ⟨hu, hp⟩, rfl, rfl⟩
    apply Exists.intro
    obtain ⟨t, h1, h2⟩ := tableAt_get hu hp c
    refine Exs.ret (sret (cmp (nm 3) (ixT (y := e (tableAt u p c)) (ixT (y := e t) (ixT (nm 0) Ev.kInt (h := rfl)) (nm 1) (h := atI_nat (es_at h1))) (call1 G hr (a1 (nm 0) (a1 (nm 2) a0)) ⟨u, c, hu, rfl, rfl⟩) (h := atI_int (tableNo_ok hu c).1 (es_at h2))) (op_inE (x := k) (l := tableAt u p c) hr)))
theorem strikes_ok (B : Bt mg) {f g h : Addr} (D : At K mg "strikes" (topS 16) f) (G : Cal P W K mg base "strikes_code" 2 (S4 (fun r p _ _ => r.Ok ∧ p < r.c.length) rd (fun p : Nat => rd (p : Int)) rd rd (fun (r : Rule) (p : Nat) (c : Cell) (k : Int) => rd (strikesCode r p c k))) g)
    (C : Cal P W K mg base "code_at" 2 (S2 (fun l _ => l.length < big) rd rd (fun (l : Pic) (c : Cell) => rd (codeIn l c))) h) :
    Cal P W K mg base "strikes" 3 (S3 (fun r p l => r.Ok ∧ p < r.c.length ∧ l.length < big) rd (fun p : Nat => rd (p : Int)) rd (fun (r : Rule) (p : Nat) (l : Pic) => rd (strikesOf r p l))) f := by
  refine cal_of (N := ["rule", "p", "picture", "cell"]) (ps := ["rule", "p", "picture"]) D ⟨rfl, rfl, rfl, by decide +kernel, rfl, by decide +kernel, by decide +kernel⟩ (fun _ _ _ _ _ _ us hl => match us, hl with | [_, _, _], _ => rfl) (by decide) ?_ ?_
  · rintro rl r ⟨z, w, u, _, rfl, rfl⟩; exact ⟨rfl, En.im _⟩
  · rintro cdv A outer s H E hr rl r ⟨u, p, l, ⟨hu, hp, hl⟩, rfl, rfl⟩
    have nd : (["rule", "p", "picture", "cell"] : List Str).Nodup := by decide +kernel
    apply Exists.intro
    refine Exs.ret (sret (xtupE (l := strikesOf u p l) B.tuple (Ev.lcF (own := [("cell", 3)]) (l := l) (pp := true) (fun c => strikesCode u p c (codeIn l c)) (fun c => [rd u, rd (p : Int), rd l, rd c]) [3] (nm 2) rfl (Nat.le_of_lt (big_lt hl))
      (fun x _ _ _ _ _ _ => tgn 3 nd) (by decide) (fun x _ _ _ _ _ _ => tval (call1 G hr (a1 (nm 0) (a1 (nm 1) (a1 (nm 3) (a1 (call1 C hr (a1 (nm 2) (a1 (nm 3) a0)) ⟨l, x, hl, rfl, rfl⟩) a0)))) ⟨u, p, x, codeIn l x, ⟨hu, hp⟩, rfl, rfl⟩)) (fun x _ _ _ _ _ _ => nm 3) (fun x _ => rfl) (lcok nd))))
theorem pass_behind_ok {f g h : Addr} (D : At K mg "pass_behind" (topS 17) f) (G : Cal P W K mg base "strikes" 3 (S3 (fun r p l => r.Ok ∧ p < r.c.length ∧ l.length < big) rd (fun p : Nat => rd (p : Int)) rd (fun (r : Rule) (p : Nat) (l : Pic) => rd (strikesOf r p l))) g)
    (C : Cal P W K mg base "struck" 1 (S2 (fun l m => l.length < big ∧ m.length < big) rd rd (fun l m : Pic => rd (without l m))) h) :
    Cal P W K mg base "pass_behind" 4 (S3 (fun r p l => r.Ok ∧ p < r.c.length ∧ l.length < big) rd (fun p : Nat => rd (p : Int)) rd (fun (r : Rule) (p : Nat) (l : Pic) => rd (passOf r p l))) f := by
  refine cal_of (N := ["rule", "p", "picture"]) (ps := ["rule", "p", "picture"]) D ⟨rfl, rfl, rfl, by decide +kernel, rfl, by decide +kernel, by decide +kernel⟩ (fun _ _ _ _ _ _ us hl => match us, hl with | [_, _, _], _ => rfl) (by decide) ?_ ?_
  · rintro rl r ⟨z, w, u, _, rfl, rfl⟩; exact ⟨rfl, En.im _⟩
  · rintro cdv A outer s H E hr rl r ⟨u, p, l, ⟨hu, hp, hl⟩, rfl, rfl⟩
    apply Exists.intro
    have h2 : (strikesOf u p l).length ≤ l.length := List.length_filter_le _ _
    refine Exs.ret (sret (call1 C hr (a1 (nm 2) (a1 (call1 G hr (a1 (nm 0) (a1 (nm 1) (a1 (nm 2) a0))) ⟨u, p, l, ⟨hu, hp, hl⟩, rfl, rfl⟩) a0)) ⟨l, strikesOf u p l, ⟨hl, Nat.lt_of_le_of_lt h2 hl⟩, rfl, rfl⟩))
theorem round_behind_ok (B : Bt mg) {f g : Addr} (D : At K mg "round_behind" (topS 18) f) (G : Cal P W K mg base "pass_behind" 4 (S3 (fun r p l => r.Ok ∧ p < r.c.length ∧ l.length < big) rd (fun p : Nat => rd (p : Int)) rd (fun (r : Rule) (p : Nat) (l : Pic) => rd (passOf r p l))) g) :
    Cal P W K mg base "round_behind" 5 (S2 (fun r l => r.Ok ∧ l.length < big) rd rd (fun (r : Rule) (l : Pic) => rd (roundOf r l))) f := by
  refine cal_of (N := ["rule", "picture", "p"]) (ps := ["rule", "picture"]) D ⟨rfl, rfl, rfl, by decide +kernel, rfl, by decide +kernel, by decide +kernel⟩ (fun _ _ _ _ _ _ us hl => match us, hl with | [_, _], _ => rfl) (by decide) ?_ ?_
  · rintro rl r ⟨z, w, _, rfl, rfl⟩; exact ⟨rfl, En.im _⟩
  · rintro cdv A outer s H E hr rl r ⟨u, l, ⟨hu, hl⟩, rfl, rfl⟩
    have nd : (["rule", "picture", "p"] : List Str).Nodup := by decide +kernel
    apply Exists.intro
    have hc := hu.s
    let st : Pic → List R := fun q => [rd u, rd q, .un]
    refine Exs.cons (Ex.forN st (fun q p => passOf u p q) l (fun _ q => q.length < big) (xlenE B.len (ixT (nm 0) Ev.kInt (h := rfl))) (by omega) hl (fun i q hi hq => ⟨?_, _, _, tgn 2 nd, ?_⟩) PassesOwn.never B.range) ?_
    · exact Nat.lt_of_le_of_lt (passOf_sublist u i q).length_le hq
    · refine Exs.cons (sset 1 nd (call1 G hr (a1 (nm 0) (a1 (nm 2) (a1 (nm 1) a0))) ⟨u, i, q, ⟨hu, by omega, hq⟩, rfl, rfl⟩)) Exs.fin
    · refine Exs.ret (sret (Ev.conv (nm 1) (by rw [Int.toNat_natCast]) rfl))
end
end Ab

namespace Ab
open PySem PySem.Spec PyProof.Rows L2
open En (e)
section
variable {P : Program} {W : World} {K : PySem.W.Frag} {mg : Str → Option Value} {base : Heap}
def RnI (r : Rule) (n : Nat) (s : List Pic × Pic × Pic) : Prop := s.2.2 = roundOf r s.2.1 ∧ s.2.1.length ≤ n ∧ s.1.length + s.2.1.length ≤ n
theorem rn_step {r : Rule} {n : Nat} (s : List Pic × Pic × Pic) (h : RnI r n s) (hc : rnc s = true) : RnI r n (rn1 r s) ∧ (rn1 r s).2.1.length < s.2.1.length := by
  obtain ⟨f, p, q⟩ := s
  obtain ⟨h1, h2, h3⟩ := h
  have h1 : q = roundOf r p := h1
  have hne : q ≠ p := by simpa [rnc] using hc
  have hl : q.length < p.length := by
    have hs : q.Sublist p := h1 ▸ roundOf_sublist r p
    rcases Nat.lt_or_ge q.length p.length with h | h
    · exact h
    · exact absurd (hs.eq_of_length_le h) hne
  refine ⟨⟨rfl, ?_, ?_⟩, hl⟩
  · show q.length ≤ n
    have h2 : p.length ≤ n := h2
    omega
  · show (f ++ [q]).length + q.length ≤ n
    have h3 : f.length + p.length ≤ n := h3
    simp; omega
theorem rn_wh {r : Rule} {n : Nat} : ∀ (m : Nat) (s : List Pic × Pic × Pic), RnI r n s → RnI r n (wh rnc (rn1 r) m s)
  | 0, s, h => h
  | m + 1, s, h => by
    unfold wh
    split
    · next q => exact rn_wh m _ (rn_step s h q).1
    · exact h
theorem roundsOf_len (r : Rule) (l : Pic) : (roundsOf r l).length ≤ l.length := by
  have h := rn_wh (r := r) (n := l.length) (l.length + 2) ([], l, roundOf r l) ⟨rfl, Nat.le_refl _, by simp⟩
  have h3 := h.2.2
  unfold roundsOf
  omega
theorem rounds_of_ok (B : Bt mg) {f g : Addr} (D : At K mg "rounds_of" (topS 19) f) (G : Cal P W K mg base "round_behind" 5 (S2 (fun r l => r.Ok ∧ l.length < big) rd rd (fun (r : Rule) (l : Pic) => rd (roundOf r l))) g) :
    Cal P W K mg base "rounds_of" 6 (S2 (fun r l => r.Ok ∧ l.length < big) rd rd (fun (r : Rule) (l : Pic) => rd (roundsOf r l))) f := by
  refine cal_of (N := ["rule", "picture", "found", "late"]) (ps := ["rule", "picture"]) D ⟨rfl, rfl, rfl, by decide +kernel, rfl, by decide +kernel, by decide +kernel⟩ (fun _ _ _ _ _ _ us hl => match us, hl with | [_, _], _ => rfl) (by decide) ?_ ?_
  · rintro rl r ⟨z, w, _, rfl, rfl⟩; exact ⟨rfl, En.im _⟩
  · rintro cdv A outer s H E hr rl r ⟨u, l, ⟨hu, hl⟩, rfl, rfl⟩
    have nd : (["rule", "picture", "found", "late"] : List Str).Nodup := by decide +kernel
    have hb := big_lt hl
    apply Exists.intro
    let st : List Pic × Pic × Pic → List R := fun s => [rd u, rd s.2.1, rl s.1, rd s.2.2]
    refine Exs.cons (sset 2 nd (lst a0)) ?_
    refine Exs.cons (sset 3 nd (call1 G hr (a1 (nm 0) (a1 (nm 1) a0)) ⟨u, l, ⟨hu, hl⟩, rfl, rfl⟩)) ?_
    refine Exs.wk (rs1 := st ([], l, roundOf u l)) ?_
    refine Exs.cons (Ex.whileF st rnc (rn1 u) (fun s => s.2.1.length) (RnI u l.length) ([], l, roundOf u l) (l.length + 2) (by show l.length < l.length + 2; omega) ⟨rfl, Nat.le_refl _, by simp⟩ (fun s hI => ?_) PassesOwn.never) ?_
    · refine ⟨⟨_, tcmp (nm 3) (nm 1) (op_neE (x := s.2.2) (y := s.2.1) hr)⟩, fun q => ⟨?_, rn_step s hI q⟩⟩
      have h1 := hI.2.2
      have h0 := hI.2.1
      have h2 := (rn_step s hI q).2
      have h4 : s.2.2.length < s.2.1.length := h2
      obtain ⟨f0, p, q0⟩ := s
      have h1 : f0.length + p.length ≤ l.length := h1
      have h0 : p.length ≤ l.length := h0
      have h4 : q0.length < p.length := h4
      refine Exs.cons (sappE 2 (l := f0) (l0 := f0) (nm 3) (by omega)) ?_
      refine Exs.cons (spar 1 3 nd (a1 (nm 3) (a1 (call1 G hr (a1 (nm 0) (a1 (nm 3) a0)) ⟨u, q0, ⟨hu, by omega⟩, rfl, rfl⟩) a0))) Exs.fin
    · exact Exs.ret (sret (xtupE (l := roundsOf u l) B.tuple (nm 2)))
theorem bones_ok {f g : Addr} (D : At K mg "bones" (topS 20) f) (G : Cal P W K mg base "rounds_of" 6 (S2 (fun r l => r.Ok ∧ l.length < big) rd rd (fun (r : Rule) (l : Pic) => rd (roundsOf r l))) g) :
    Cal P W K mg base "bones" 7 (S2 (fun r l => r.Ok ∧ l.length < big) rd rd (fun (r : Rule) (l : Pic) => rd (bonesOf r l))) f := by
  refine cal_of (N := ["rule", "picture", "found"]) (ps := ["rule", "picture"]) D ⟨rfl, rfl, rfl, by decide +kernel, rfl, by decide +kernel, by decide +kernel⟩ (fun _ _ _ _ _ _ us hl => match us, hl with | [_, _], _ => rfl) (by decide) ?_ ?_
  · rintro rl r ⟨z, w, _, rfl, rfl⟩; exact ⟨rfl, En.im _⟩
  · rintro cdv A outer s H E hr rl r ⟨u, l, ⟨hu, hl⟩, rfl, rfl⟩
    have nd : (["rule", "picture", "found"] : List Str).Nodup := by decide +kernel
    apply Exists.intro
    refine Exs.cons (sset 2 nd (call1 G hr (a1 (nm 0) (a1 (nm 1) a0)) ⟨u, l, ⟨hu, hl⟩, rfl, rfl⟩)) ?_
    refine Exs.ret (sret (xife (r := rd (bonesOf u l)) (tcmp (nm 2) (tup a0) (op_neE (x := roundsOf u l) (y := ([] : List Pic)) hr)) (fun q => ?_) (fun q => ?_)))
    · have hne : roundsOf u l ≠ [] := by simpa using q
      exact ixT (nm 2) (Ev.neg Ev.kInt) (h := atI_last (by show (es (roundsOf u l)).getLast? = _; rw [List.getLast?_map, getLast_D (d := l) hne]; rfl))
    · have hne : roundsOf u l = [] := by simpa using q
      exact Ev.conv (nm 1) (by unfold bonesOf; rw [hne]; rfl) rfl
end
end Ab

namespace Ab
open PySem PySem.Spec PyProof.Rows L2
open En (e)
section
variable {P : Program} {W : World} {K : PySem.W.Frag} {mg : Str → Option Value} {base : Heap}
theorem refined_ok (B : Bt mg) {f g : Addr} (D : At K mg "refined" (topS 14) f) (G : Cal P W K mg base "table_number" 1 (S2 (fun r _ => r.Ok) rd rd (fun (r : Rule) (c : Cell) => rd (tableNo r c))) g) :
    Cal P W K mg base "refined" 2 (S3 (fun r a b => r.Ok ∧ (0 < a ∧ a < 1000) ∧ (0 < b ∧ b < 1000)) rd rd rd (fun (r : Rule) (a b : Int) => rd (refinedBy r a b))) f := by
  refine cal_of (N := ["rule", "a", "b", "spots", "x", "y", "tables", "spot"]) (ps := ["rule", "a", "b"]) D ⟨rfl, rfl, rfl, by decide +kernel, rfl, by decide +kernel, by decide +kernel⟩ (fun _ _ _ _ _ _ us hl => match us, hl with | [_, _, _], _ => rfl) (by decide) ?_ ?_
  · rintro rl r ⟨z, w, u, _, rfl, rfl⟩; exact ⟨rfl, En.im _⟩
  · rintro cdv A outer s H E hr rl r ⟨u, a, b, ⟨hu, ha, hb⟩, rfl, rfl⟩
    have nd : (["rule", "a", "b", "spots", "x", "y", "tables", "spot"] : List Str).Nodup := by decide +kernel
    apply Exists.intro
    have l1 := irange_len a
    have l2 := irange_len b
    have hlen : ∀ l : List Int, (l.flatMap fun x => (irange b).map fun y => tableNo u (x, y)).length ≤ l.length * b.toNat := fun l => flatMap_len (fun x => by rw [List.length_map, l2]; exact Nat.le_refl _) l
    have spl : (spotsOf u a b).length < big := by
      have h1 := hlen (irange a)
      have h2 : a.toNat * b.toNat ≤ 999 * 999 := Nat.mul_le_mul (by omega) (by omega)
      rw [l1] at h1
      unfold spotsOf
      show _ < 1000000
      omega
    refine Exs.cons (sset 3 nd (Ev.conv (r1 := rl (spotsOf u a b)) (Ev.lc2 (own := [("x", 4), ("y", 5)]) (c := none) (c1 := none) (items := irange a) [5] (fun _ => irange b) (fun _ => true) (fun _ _ => true) (fun x y => e (tableNo u (x, y)))
      (fun x => [rd u, rd a, rd b, .un, rd x, .un, .un, .un]) (fun x y => [rd u, rd a, rd b, .un, rd x, rd y, .un, .un]) [4] [5]
      (EvI.rng (nm 1) (by omega) B.range) (fun x _ _ _ _ _ _ => tgn 4 nd) (by decide) (fun _ _ => ⟨rfl, rfl⟩) (fun x _ _ _ _ _ _ _ => EvI.rng (nm 2) (by omega) B.range) (fun x _ y _ _ _ _ _ _ => tgn 5 nd) (by decide) (by decide) (fun _ _ _ _ => ⟨rfl, rfl⟩)
      (fun x _ y _ _ _ _ _ _ _ => call1 G hr (a1 (nm 0) (a1 (tup (a1 (nm 4) (a1 (nm 5) a0))) a0)) ⟨u, (x, y), hu, rfl, rfl⟩)
      (fun i x => ?_) (lcok nd)) ?_ rfl)) ?_
    · simp only [ft, List.length_map]
      have h1 : (((irange a).take i).flatMap fun x => (irange b).map fun y => e (tableNo u (x, y))).length ≤ ((irange a).take i).length * b.toNat := flatMap_len (fun x => by rw [List.length_map, l2]; exact Nat.le_refl _) _
      have h2 : ((irange a).take i).length ≤ a.toNat := by rw [← l1]; exact List.length_take_le' _ _
      have h3 : ((irange a).take i).length * b.toNat ≤ 999 * 999 := Nat.mul_le_mul (by omega) (by omega)
      rw [l2]
      show _ < 16777216
      omega
    · simp only [ft]
      show R.ls _ = R.ls _
      unfold spotsOf
      rw [es, List.map_flatMap]
      simp only [List.map_map]
      rfl
    · have mem : ∀ i ∈ spotsOf u a b, 0 ≤ i ∧ i < u.a * u.b := fun i hi => by
        unfold spotsOf at hi
        obtain ⟨x, hx, h⟩ := List.mem_flatMap.mp hi
        obtain ⟨y, hy, rfl⟩ := List.mem_map.mp h
        exact tableNo_ok hu _
      refine Exs.pre (Weak.freeze 3 (xs := es (spotsOf u a b)) rfl) ?_
      refine Exs.ret (sret (Ev.conv (r1 := rd (refinedBy u a b)) (tup (a1 (nm 1) (a1 (nm 2) (a1 (xtup B.tuple (Ev.lc0 (own := [("tables", 6)]) (l := u.c) (pp := true) (fun t => e ((spotsOf u a b).map fun i => t.getD i.toNat [])) (fun t => [rd u, rd a, rd b, .d (.list (es (spotsOf u a b))), .un, .un, rd t, .un]) [6]
        (ixT (nm 0) Ev.kInt (h := rfl)) rfl (Nat.le_of_lt (Nat.lt_trans hu.s (by decide))) (fun x _ _ _ _ _ _ => tgn 6 nd) (by decide)
        (fun t ht _ _ _ _ _ => Ev.conv (xtup B.tuple (Ev.lc0 (own := [("spot", 7)]) (l := spotsOf u a b) (pp := true) (fun i => e (t.getD i.toNat [])) (fun i => [rd u, rd a, rd b, .d (.list (es (spotsOf u a b))), .un, .un, rd t, rd i]) [7] (nm 3) rfl (Nat.le_of_lt (big_lt spl))
          (fun x _ _ _ _ _ _ => tgn 7 nd) (by decide) (fun i hi _ _ _ _ _ => ixT (nm 6) (nm 7) (h := atI_int (mem i hi).1 (es_at ?_))) (fun _ _ => rfl) (lcok nd))) ?_ rfl) (fun _ _ => rfl) (lcok nd))) a0)))) ?_ rfl))
      · have h1 := mem i hi
        have h2 := hu.t t ht
        have h3 : i.toNat < t.length := by omega
        rw [List.getD_eq_getElem?_getD, List.getElem?_eq_getElem h3]; rfl
      · show R.d _ = R.d _
        simp [e, En.e, Function.comp_def]
      · show R.d _ = R.d _
        simp [refinedBy, e, En.e, Function.comp_def]
end
end Ab

namespace Ab
open PySem PySem.Spec PyProof.Rows L2
open En (e)
section
variable {P : Program} {W : World} {K : PySem.W.Frag} {mg : Str → Option Value} {base : Heap}
def SO (al : List R) (c : Src) : Prop := ∃ ns : List Int, ns.length < big ∧ al = [.d (.list (es ns))] ∧ c = opened ns
theorem open_ok (B : Bt mg) {f : Addr} (D : At K mg "_law_open_cells" (topS 22) f) : CalO P W K mg base "_law_open_cells" 1 SO f := by
  refine calO_of (N := ["_law_script", "_law_stirred", "_law_cell", "_law_cells"]) (ps := ["_law_script"]) D ⟨rfl, rfl, rfl, by decide +kernel, rfl, by decide +kernel, by decide +kernel⟩ (fun _ _ _ _ _ _ us hl => match us, hl with | [_], _ => rfl) (by decide) ?_ ?_
  · rintro rl r ⟨ns, _, rfl, rfl⟩; rfl
  · rintro cdv A outer s H E hr rl r ⟨ns, hl, rfl, rfl⟩
    have nd : (["_law_script", "_law_stirred", "_law_cell", "_law_cells"] : List Str).Nodup := by decide +kernel
    let st : Int → List R := fun s => [.d (.list (es ns)), rd s, .un, .un]
    refine BodyO.cons (sset 1 nd Ev.kInt) ?_
    refine BodyO.cons (Ex.forF (l := ns) st (fun s c => (s * 69069 + c * 31 + 5) % 2147483629) 11 (fun _ _ => True) (nm 0) rfl trivial (fun i x s hx _ => ⟨trivial, _, _, tgn 2 nd, ?_⟩) PassesOwn.never) ?_
    · exact Exs.cons (sset 1 nd (bin (xint B.int (bin (bin (bin (nm 1) Ev.kInt (op_mulI (.inr ⟨by decide, by decide⟩))) (bin (nm 2) Ev.kInt (op_mulI (i := x) (.inr ⟨by decide, by decide⟩))) op_addI) Ev.kInt op_addI)) Ev.kInt (op_modI (by decide)))) Exs.fin
    · refine BodyO.cons (Ex.setLc0 3 (own := [("_law_cell", 2)]) (l := ns) (pp := true) (fun i => e (if i < 0 then -i else i)) (fun c => [.d (.list (es ns)), rd (ns.foldl (fun s c => (s * 69069 + c * 31 + 5) % 2147483629) 11), rd c, .un]) [2] (nm 0) rfl (Nat.le_of_lt (big_lt hl)) (fun x _ _ _ _ _ _ => tgn 2 nd) (by decide)
        (fun x _ _ _ _ _ _ => xabs B.abs (nm 2)) (fun _ _ => rfl) (lcok nd)) ?_
      have e1 : (ns.map fun i => e (if i < 0 then -i else i)).reverse = (opened ns).cells.map PyData.int := by simp [opened, e, En.e, Function.comp_def]
      exact BodyO.ret (Ev.conv (Ev.slRev (nm 3)) (by rw [e1]; rfl) rfl) Ev.kInt (nm 1) Ev.kInt
def SPick (s : Src) (al : List R) (r : R) (s' : Src) : Prop := ∃ m : Int, m < 1000000 ∧ al = [rd m] ∧ r = rd (pickF s m).1 ∧ s' = (pickF s m).2
theorem pick_ok (B : Bt mg) {f : Addr} (D : At K mg "_law_pick" (topS 23) f) : CalS P W K mg base "_law_pick" 1 SPick f := by
  refine calS_of (N := ["_law_source", "_law_most", "_law_cells", "_law_others", "_law_lap", "_law_stirred"]) (ps := ["_law_source", "_law_most"]) D ⟨rfl, rfl, rfl, by decide +kernel, rfl, by decide +kernel, by decide +kernel⟩ (fun _ _ _ _ _ _ us hl => match us, hl with | [_, _], _ => rfl) (by decide) ?_ ?_
  · rintro s rl r s' ⟨m, _, rfl, rfl, rfl⟩; exact ⟨rfl, rfl⟩
  · rintro cdv A outer s H E hr p q c rl r c' ⟨m, hm, rfl, rfl, rfl⟩
    have nd : (["_law_source", "_law_most", "_law_cells", "_law_others", "_law_lap", "_law_stirred"] : List Str).Nodup := by decide +kernel
    by_cases h2 : m < 2
    · have ep : pickF c m = (0, c) := by unfold pickF; rw [if_pos h2]
      rw [ep]
      exact ⟨_, Exs.ret (Ex.ite (tcmp (nm 1) Ev.kInt op_ltI) (fun _ => Exs.ret (sret Ev.kInt)) (fun z => absurd h2 (of_decide_eq_false z))), rfl⟩
    · have h3 : 2 ≤ m := by omega
      let st : Src → List R := fun s => [.src p q s, rd m, .fn q, .un, .un, .un]
      have key : ∀ r1 rs1, Exs (bx P W K mg base "_law_pick" ["_law_source", "_law_most", "_law_cells", "_law_others", "_law_lap", "_law_stirred"] (topS 23) f cdv A outer s H E) ((st (pkL c)).set 3 (.d (.int (pkL c).left))) ((defBody (topS 23)).drop 4) (.rt r1 rs1) → Exs (bx P W K mg base "_law_pick" ["_law_source", "_law_most", "_law_cells", "_law_others", "_law_lap", "_law_stirred"] (topS 23) f cdv A outer s H E) (begin_ ["_law_source", "_law_most", "_law_cells", "_law_others", "_law_lap", "_law_stirred"] [.src p q c, rd m]) (defBody (topS 23)) (.rt r1 rs1) := by
        intro r1 rs1 hx
        refine Exs.cons (Ex.ite (tcmp (nm 1) Ev.kInt op_ltI) (fun z => absurd (of_decide_eq_true z) h2) (fun _ => Exs.nil)) ?_
        refine Exs.cons (sset 2 nd (xsL 0 hr)) ?_
        refine Exs.cons (Ex.whileF st pkc pk1 (fun s => s.cells.length) (fun _ => True) c (c.cells.length + 1) (Nat.lt_succ_self _) trivial (fun s _ => ⟨⟨true, Et.conv (Et.of (Ew.andp (tcmp (xsI 0 hr (sK_left _ _)) Ev.kInt op_ltI) (fun _ => Ew.and1 (tcmp (xsLen 0 2 B.len) Ev.kInt op_gtI)))) ?_⟩, fun hc => ?_⟩) PassesOwn.never) ?_
        · unfold pkc
          congr 1
          exact decide_eq_decide.mpr (by omega)
        · have hl : 0 < s.cells.length := by
            unfold pkc at hc
            rw [Bool.and_eq_true] at hc
            exact of_decide_eq_true hc.2
          have hne : s.cells ≠ [] := List.length_pos_iff.mp hl
          refine ⟨?_, trivial, by show s.cells.dropLast.length < _; simp; omega⟩
          have hg := getLast_D (d := (0 : Int)) hne
          rw [List.getLast?_eq_getElem?] at hg
          exact Exs.cons (ssPut 0 (c := { s with cells := s.cells.dropLast }) (pk1 s) hr (xsPop 0 2 hg) (pK_left q { s with cells := s.cells.dropLast } _) rfl) Exs.fin
        · exact Exs.cons (sset 3 nd (xsI 0 (c := pkL c) hr (sK_left _ _))) hx
      by_cases h4 : 1 < (pkL c).left
      · have ep : pickF c m = ((pkL c).left % m, { pkL c with left := (pkL c).left / m }) := by unfold pickF; rw [if_neg h2]; dsimp only; rw [if_pos h4]
        rw [ep]
        apply Exists.intro
        apply And.intro
        · apply key
          refine (Exs.ret (Ex.ite (tcmp (nm 3) Ev.kInt op_gtI) (fun _ => Exs.cons (ssPut 0 (c := pkL c) (n := (pkL c).left / m) { pkL c with left := (pkL c).left / m } hr (bin (nm 3) (nm 1) (op_divI (j := m) ⟨by omega, by omega⟩)) (pK_left q (pkL c) _) rfl)
              (Exs.ret (sret (bin (xint B.int (nm 3)) (nm 1) (op_modI (j := m) (by omega)))))) (fun z => absurd h4 (of_decide_eq_false z))))
        · rfl
      · have ep : pickF c m = ((((((pkL c).mixed + ((pkL c).turn + 1) * 104729) % 998244353) * (((pkL c).mixed + ((pkL c).turn + 1) * 104729) % 998244353) + ((pkL c).turn + 1) * 17) % 2147483647) / 16 % m, { pkL c with turn := (pkL c).turn + 1 }) := by unfold pickF; rw [if_neg h2]; dsimp only; rw [if_neg h4]
        rw [ep]
        have hu1 := Int.emod_nonneg ((pkL c).mixed + ((pkL c).turn + 1) * 104729) (show (998244353 : Int) ≠ 0 by decide)
        have hu2 := Int.emod_lt_of_pos ((pkL c).mixed + ((pkL c).turn + 1) * 104729) (show (0 : Int) < 998244353 by decide)
        apply Exists.intro
        apply And.intro
        · apply key
          refine Exs.cons (Ex.ite (tcmp (nm 3) Ev.kInt op_gtI) (fun z => absurd (of_decide_eq_true z) h4) (fun _ => Exs.nil)) ?_
          refine Exs.cons (ssPut 0 (c := pkL c) { pkL c with turn := (pkL c).turn + 1 } hr (bin (xsI 0 hr (sK_turn _ _)) Ev.kInt op_addI) (pK_turn q (pkL c) _) rfl) ?_
          refine Exs.cons (sset 4 nd (xsI 0 hr (sK_turn _ _))) ?_
          refine Exs.cons (sset 5 nd (bin (xint B.int (bin (xsI 0 hr (sK_mixed _ _)) (bin (nm 4) Ev.kInt (op_mulI (.inr ⟨by decide, by decide⟩))) op_addI)) Ev.kInt (op_modI (by decide)))) ?_
          refine Exs.cons (sset 5 nd (bin (xint B.int (bin (bin (nm 5) (nm 5) (op_mulI (j := ((pkL c).mixed + ((pkL c).turn + 1) * 104729) % 998244353) (.inr ⟨by omega, by omega⟩))) (bin (nm 4) Ev.kInt (op_mulI (.inr ⟨by decide, by decide⟩))) op_addI)) Ev.kInt (op_modI (by decide)))) ?_
          exact Exs.ret (sret (bin (xint B.int (bin (nm 5) Ev.kInt (op_divI ⟨by decide, by decide⟩))) (nm 1) (op_modI (j := m) (by omega))))
        · rfl
end
end Ab

namespace Ab
open PySem PySem.Spec PyProof.Rows L2
open En (e)
section
variable {P : Program} {W : World} {K : PySem.W.Frag} {mg : Str → Option Value} {base : Heap}
theorem sides_ok {f : Addr} (D : At K mg "_law_sides" (topS 24) f) : Cal P W K mg base "_law_sides" 1 (S1 (fun _ => True) rd (fun c : Cell => rl (sides4 c))) f := by
  refine cal_of (N := ["_law_cell", "_law_x", "_law_y"]) (ps := ["_law_cell"]) D ⟨rfl, rfl, rfl, by decide +kernel, rfl, by decide +kernel, by decide +kernel⟩ (fun _ _ _ _ _ _ us hl => match us, hl with | [_], _ => rfl) (by decide) ?_ ?_
  · rintro rl r ⟨z, _, rfl, rfl⟩; exact ⟨rfl, rfl⟩
  · rintro cdv A outer s H E hr rl r ⟨⟨x, y⟩, _, rfl, rfl⟩
    have nd : (["_law_cell", "_law_x", "_law_y"] : List Str).Nodup := by decide +kernel
    apply Exists.intro
    refine Exs.cons (stgt (nm 0) (tgt (tg1 (tgn 1 nd) (tg1 (tgn 2 nd) tg0)))) ?_
    refine Exs.ret (sret (lst (a1 (tup (a1 (bin (nm 1) Ev.kInt op_addI) (a1 (nm 2) a0))) (a1 (tup (a1 (nm 1) (a1 (bin (nm 2) Ev.kInt op_addI) a0))) (a1 (tup (a1 (bin (nm 1) Ev.kInt op_subI) (a1 (nm 2) a0))) (a1 (tup (a1 (nm 1) (a1 (bin (nm 2) Ev.kInt op_subI) a0))) a0))))))
theorem near_ok {f : Addr} (D : At K mg "_law_near" (topS 25) f) : Cal P W K mg base "_law_near" 1 (S1 (fun _ => True) rd (fun c : Cell => rl (near8 c))) f := by
  refine cal_of (N := ["_law_cell", "_law_x", "_law_y", "_law_found"]) (ps := ["_law_cell"]) D ⟨rfl, rfl, rfl, by decide +kernel, rfl, by decide +kernel, by decide +kernel⟩ (fun _ _ _ _ _ _ us hl => match us, hl with | [_], _ => rfl) (by decide) ?_ ?_
  · rintro rl r ⟨z, _, rfl, rfl⟩; exact ⟨rfl, rfl⟩
  · rintro cdv A outer s H E hr rl r ⟨⟨x, y⟩, _, rfl, rfl⟩
    have nd : (["_law_cell", "_law_x", "_law_y", "_law_found"] : List Str).Nodup := by decide +kernel
    apply Exists.intro
    refine Exs.cons (stgt (nm 0) (tgt (tg1 (tgn 1 nd) (tg1 (tgn 2 nd) tg0)))) ?_
    refine Exs.cons (sset 3 nd (lst (a1 (tup (a1 (bin (nm 1) Ev.kInt op_addI) (a1 (nm 2) a0))) (a1 (tup (a1 (bin (nm 1) Ev.kInt op_addI) (a1 (bin (nm 2) Ev.kInt op_addI) a0))) (a1 (tup (a1 (nm 1) (a1 (bin (nm 2) Ev.kInt op_addI) a0))) (a1 (tup (a1 (bin (nm 1) Ev.kInt op_subI) (a1 (bin (nm 2) Ev.kInt op_addI) a0))) a0)))))) ?_
    refine Exs.ret (sret (bin (nm 3) (lst (a1 (tup (a1 (bin (nm 1) Ev.kInt op_subI) (a1 (nm 2) a0))) (a1 (tup (a1 (bin (nm 1) Ev.kInt op_subI) (a1 (bin (nm 2) Ev.kInt op_subI) a0))) (a1 (tup (a1 (nm 1) (a1 (bin (nm 2) Ev.kInt op_subI) a0))) (a1 (tup (a1 (bin (nm 1) Ev.kInt op_addI) (a1 (bin (nm 2) Ev.kInt op_subI) a0))) a0))))) (op_addL rfl rfl (Nat.le_of_ble_eq_true rfl))))
/-- a list or a tuple of cells -/
def seqArg (l : Pic) (x : PyData) : Prop := x = .tuple (es l) ∨ x = .list (es l)
def nbOf (b : Bool) : Cell → Pic := if b then near8 else sides4
def SPb (al : List R) (r : R) : Prop := ∃ (l : Pic) (b : Bool) (x : PyData), l.length < big ∧ seqArg l x ∧ al = [.d x, rd b] ∧ r = rl (partsOf (nbOf b) l)
theorem parts_by_ok (B : Bt mg) {f g1 g2 : Addr} (D : At K mg "_law_parts_by" (topS 26) f) (G1 : Cal P W K mg base "_law_near" 1 (S1 (fun _ => True) rd (fun c : Cell => rl (near8 c))) g1) (G2 : Cal P W K mg base "_law_sides" 1 (S1 (fun _ => True) rd (fun c : Cell => rl (sides4 c))) g2) :
    Cal P W K mg base "_law_parts_by" 2 SPb f := by
  refine cal_of (N := ["_law_cells","_law_is_near","_law_left","_law_found","_law_cell","_law_some","_law_rest","_law_here","_law_late"]) (ps := ["_law_cells", "_law_is_near"]) D ⟨rfl, rfl, rfl, by decide +kernel, rfl, by decide +kernel, by decide +kernel⟩ (fun _ _ _ _ _ _ us hl => match us, hl with | [_, _], _ => rfl) (by decide) ?_ ?_
  · rintro rl r ⟨l, b, x, _, _, rfl, rfl⟩; exact ⟨rfl, imms_map fun x _ => En.im x⟩
  · rintro cdv A outer s H E hr rl0 r ⟨l, b, x, hl, hx, rfl, rfl⟩
    have nd : (["_law_cells","_law_is_near","_law_left","_law_found","_law_cell","_law_some","_law_rest","_law_here","_law_late"] : List Str).Nodup := by decide +kernel
    have hz := big_lt hl
    let nb := nbOf b
    let tt : PyData := .int 0
    let st0 : Pic × List Pic → List R := fun s => [.d x, rd b, .dc (dcOf tt s.1), rl s.2, .un, .un, .un, .un, .un]
    obtain ⟨t, hw⟩ : ∃ t, walkOf (.d x) = some (t, es l) := by rcases hx with rfl | rfl <;> exact ⟨_, rfl⟩
    apply Exists.intro
    refine Exs.cons (spar 2 3 nd (a1 (xdict (l := l) (v := tt) B.dict hr (Ev.lc0 (own := [("_law_cell", 4)]) (l := l) (pp := true) (fun c => .tuple [e c, tt]) (fun c => [.d x, rd b, .un, .un, rd c, .un, .un, .un, .un]) [4] (nm 0) hw (Nat.le_of_lt hz) (fun x _ _ _ _ _ _ => tgn 4 nd) (by decide) (fun x _ _ _ _ _ _ => tup (a1 (nm 4) (a1 Ev.kInt a0))) (fun _ _ => rfl) (lcok nd)) rfl) (a1 (lst a0) a0))) ?_
    refine Exs.wk (rs1 := st0 (dd l, [])) ?_
    have hsrt : ∀ pos p2, Ev (bx P W K mg base "_law_parts_by" ["_law_cells","_law_is_near","_law_left","_law_found","_law_cell","_law_some","_law_rest","_law_here","_law_late"] (topS 26) f cdv A outer s H E) true (st0 (dd l, [])) (.Call (.Name "sorted" pos) [.Name "_law_cells" ⟨98, 28, 98, 38⟩] [] p2) (rl (sorted l)) (st0 (dd l, [])) := fun pos p2 => by
      rcases hx with rfl | rfl
      · exact xsrtT B.sorted hr (nm 0) (Nat.le_of_lt hz)
      · exact xsrtL B.sorted hr (nm 0) (Nat.le_of_lt hz)
    refine Exs.cons (Ex.forF (l := sorted l) st0 (pt1 nb) (dd l, []) (fun i s => s.1.length ≤ l.length ∧ s.2.length ≤ i) (hsrt _ _) rfl ⟨dd_length l, Nat.le_refl _⟩ ?_ PassesOwn.never) ?_
    · rintro i c ⟨left, found⟩ hc ⟨h1, h2⟩
      have hi : i < l.length := by have := (List.getElem?_eq_some_iff.mp hc).1; rwa [sorted_length] at this
      by_cases hm : c ∈ left
      · have e1 : pt1 nb (left, found) c = ((flood nb left c).1, found ++ [sorted (flood nb left c).2.2]) := by unfold pt1; rw [if_pos hm]
        rw [e1]
        have h1 : left.length ≤ l.length := h1
        have h2 : found.length ≤ i := h2
        let stw : Fl → List R := fun s => [.d x, rd b, .dc (dcOf tt s.1), rl found, .un, rl s.2.2, rl s.2.1, .un, .un]
        let μ : Fl → Nat := fun s => s.1.length + s.2.1.length
        let I : Fl → Prop := fun s => s.1.length + s.2.1.length + s.2.2.length ≤ l.length
        have hlt : (left.filter fun z => decide (z ≠ c)).length < left.length := by
          rw [List.length_filter_lt_length_iff_exists]
          exact ⟨c, hm, by simp⟩
        have hstep : ∀ s, I s → flc s = true → I (fl2 nb s) ∧ μ (fl2 nb s) < μ s := fun s hI hc => by
          have h3 := fl2_len nb s hc
          refine ⟨?_, h3⟩
          show (fl2 nb s).1.length + (fl2 nb s).2.1.length + (fl2 nb s).2.2.length ≤ l.length
          have h4 : (fl2 nb s).2.2.length = s.2.2.length + 1 := by simp [fl2]
          have h5 : s.1.length + s.2.1.length + s.2.2.length ≤ l.length := hI
          omega
        have hI0 : I (left.filter (fun z => decide (z ≠ c)), [c], []) := by
          show (left.filter fun z => decide (z ≠ c)).length + 1 + 0 ≤ l.length
          omega
        have hwh : ∀ n s, I s → I (wh flc (fl2 nb) n s) := by
          intro n
          induction n with
          | zero => intro s h; exact h
          | succ n ih =>
            intro s h
            unfold wh
            split
            · next q => exact ih _ (hstep s h q).1
            · exact h
        have hfl : I (flood nb left c) := hwh _ _ hI0
        have hfl' : (flood nb left c).1.length + (flood nb left c).2.1.length + (flood nb left c).2.2.length ≤ l.length := hfl
        refine ⟨⟨by show (flood nb left c).1.length ≤ _; omega, by show (found ++ [_]).length ≤ i + 1; simp; exact h2⟩, _, _, tgn 4 nd, ?_⟩
        refine Exs.cons (Ex.ite (tcmp (nm 4) (nm 2) (op_inD (l := left) hr)) (fun q => ?_) (fun q => absurd (decide_eq_true hm) (by rw [q]; exact Bool.false_ne_true))) Exs.fin
        refine Exs.cons (spar 5 6 nd (a1 (lst a0) (a1 (lst (a1 (nm 4) a0)) a0))) ?_
        refine Exs.cons (spopE 2 (l := left) hr (nm 4) hm) ?_
        refine Exs.wk (rs1 := stw (left.filter (fun z => decide (z ≠ c)), [c], [])) ?_
        refine Exs.cons (Ex.whileF stw flc (fl2 nb) μ I (left.filter (fun z => decide (z ≠ c)), [c], []) (left.length + 2) (by show (left.filter fun z => decide (z ≠ c)).length + 1 < _; omega) hI0 (fun s hI => ?_) PassesOwn.never) ?_
        · obtain ⟨lf, wt, lot⟩ := s
          have hI' : lf.length + wt.length + lot.length ≤ l.length := hI
          refine ⟨⟨_, tcmp (nm 6) (lst a0) (op_neEL (x := wt) (y := []) hr)⟩, fun q => ⟨?_, hstep _ hI q⟩⟩
          have hw : wt ≠ [] := by simpa [flc] using q
          refine Exs.cons (sset 7 nd (epopE 6 (getLast_D (d := (0, 0)) hw))) ?_
          refine Exs.cons (sappE 5 (l := lot) (l0 := lot) (nm 7) (by omega)) ?_
          let h := wt.getLastD (0, 0)
          let st1 : Pic × Pic → List R := fun s => [.d x, rd b, .dc (dcOf tt s.1), rl found, .un, rl (lot ++ [h]), rl s.2, rd h, .un]
          refine Exs.wk (rs1 := st1 (lf, wt.dropLast)) ?_
          refine Exs.cons (Ex.forF (l := nb h) (t := false) st1 fl1 (lf, wt.dropLast) (fun i s => s.1.length + s.2.length ≤ l.length) (xife (r := rl (nb h)) (x := b) (tval (nm 1)) (fun q => Ev.conv (call1 G1 hr (a1 (nm 7) a0) ⟨h, trivial, rfl, rfl⟩) (by show _ = rl (nbOf b h); rw [q]; rfl) rfl) (fun q => Ev.conv (call1 G2 hr (a1 (nm 7) a0) ⟨h, trivial, rfl, rfl⟩) (by show _ = rl (nbOf b h); rw [q]; rfl) rfl)) rfl (by show lf.length + wt.dropLast.length ≤ _; simp; omega) (fun i z s hz0 hs => ?_) PassesOwn.never) Exs.fin
          obtain ⟨lf1, wt1⟩ := s
          have hs' : lf1.length + wt1.length ≤ l.length := hs
          refine ⟨Nat.le_trans (fl1_len _ _) hs, _, _, tgn 8 nd, ?_⟩
          by_cases hz1 : z ∈ lf1
          · have e2 : fl1 (lf1, wt1) z = (lf1.filter fun c => decide (c ≠ z), wt1 ++ [z]) := by unfold fl1; rw [if_pos hz1]
            rw [e2]
            refine Exs.cons (Ex.ite (tcmp (nm 8) (nm 2) (op_inD (l := lf1) hr)) (fun q => ?_) (fun q => absurd (decide_eq_true hz1) (by rw [q]; exact Bool.false_ne_true))) Exs.fin
            refine Exs.cons (spopE 2 (l := lf1) hr (nm 8) hz1) ?_
            exact Exs.cons (sappE 6 (l := wt1) (l0 := wt1) (nm 8) (by omega)) Exs.fin
          · have e2 : fl1 (lf1, wt1) z = (lf1, wt1) := by unfold fl1; rw [if_neg hz1]
            rw [e2]
            exact Exs.cons (Ex.ite (tcmp (nm 8) (nm 2) (op_inD (l := lf1) hr)) (fun q => absurd (of_decide_eq_true q) hz1) (fun q => Exs.fin)) Exs.fin
        · refine Exs.cons (sappE 3 (l := found) (l0 := found) (xtupE (l := sorted (flood nb left c).2.2) B.tuple (xsrtL B.sorted hr (nm 5) (l := (flood nb left c).2.2) (by omega))) (by omega)) Exs.fin
      · have e1 : pt1 nb (left, found) c = (left, found) := by unfold pt1; rw [if_neg hm]
        rw [e1]
        refine ⟨⟨h1, Nat.le_succ_of_le h2⟩, _, _, tgn 4 nd, ?_⟩
        refine Exs.cons (Ex.ite (tcmp (nm 4) (nm 2) (op_inD (l := left) hr)) (fun q => absurd (of_decide_eq_true q) hm) (fun q => Exs.fin)) Exs.fin
    · exact Exs.ret (sret (nm 3))
theorem lpieces_ok {f g : Addr} (D : At K mg "_law_pieces" (topS 27) f) (G : Cal P W K mg base "_law_parts_by" 2 SPb g) : Cal P W K mg base "_law_pieces" 3 (S1 (fun l => l.length < big) rd (fun l : Pic => rl (piecesOf l))) f := by
  refine cal_of (N := ["_law_picture"]) (ps := ["_law_picture"]) D ⟨rfl, rfl, rfl, by decide +kernel, rfl, by decide +kernel, by decide +kernel⟩ (fun _ _ _ _ _ _ us hl => match us, hl with | [_], _ => rfl) (by decide) ?_ ?_
  · rintro rl r ⟨z, _, rfl, rfl⟩; exact ⟨rfl, imms_map fun x _ => En.im x⟩
  · rintro cdv A outer s H E hr rl r ⟨l, hl, rfl, rfl⟩
    apply Exists.intro
    exact Exs.ret (sret (call1 G hr (a1 (nm 0) (a1 Ev.kBool a0)) ⟨l, true, _, hl, .inl rfl, rfl, rfl⟩))
end
end Ab

namespace Ab
open PySem PySem.Spec PyProof.Rows L2
open En (e)
section
variable {P : Program} {W : World} {K : PySem.W.Frag} {mg : Str → Option Value} {base : Heap}
theorem lcode_ok (B : Bt mg) {f g : Addr} (D : At K mg "_law_code" (topS 28) f) (N : Cal P W K mg base "_law_near" 1 (S1 (fun _ => True) rd (fun c : Cell => rl (near8 c))) g) :
    Cal P W K mg base "_law_code" 2 (S2 (fun l _ => l.length < big) rd rd (fun (l : Pic) (c : Cell) => rd (codeIn l c))) f := by
  refine cal_of (N := ["_law_picture", "_law_cell", "_law_black", "_law_code_here", "_law_step", "_law_late", "_law_one"]) (ps := ["_law_picture", "_law_cell"]) D ⟨rfl, rfl, rfl, by decide +kernel, rfl, by decide +kernel, by decide +kernel⟩ (fun _ _ _ _ _ _ us hl => match us, hl with | [_, _], _ => rfl) (by decide) ?_ ?_
  · rintro rl r ⟨z, w, _, rfl, rfl⟩; exact ⟨rfl, En.im _⟩
  · rintro cdv A outer s H E hr rl r ⟨l, c, hl, rfl, rfl⟩
    have nd : (["_law_picture", "_law_cell", "_law_black", "_law_code_here", "_law_step", "_law_late", "_law_one"] : List Str).Nodup := by decide +kernel
    let tt : PyData := .int 0
    apply Exists.intro
    refine Exs.cons (spar3 2 3 4 nd (a1 (xdict (l := l) (v := tt) B.dict hr (Ev.lc0 (own := [("_law_one", 6)]) (l := l) (pp := true) (fun c => .tuple [e c, tt]) (fun x => [rd l, rd c, .un, .un, .un, .un, rd x]) [6] (nm 0) rfl (Nat.le_of_lt (big_lt hl)) (fun x _ _ _ _ _ _ => tgn 6 nd) (by decide) (fun x _ _ _ _ _ _ => tup (a1 (nm 6) (a1 Ev.kInt a0))) (fun _ _ => rfl) (lcok nd)) rfl) (a1 Ev.kInt (a1 Ev.kInt a0)))) ?_
    let st : Int × Int → List R := fun s => [rd l, rd c, .dc (dcOf tt (dd l)), rd s.1, rd s.2, .un, .un]
    refine Exs.wk (rs1 := st (0, 1)) ?_
    refine Exs.cons (Ex.forF (l := near8 c) st (cd1 l) (0, 1) (fun _ _ => True) (call1 N hr (a1 (nm 1) a0) ⟨c, trivial, rfl, rfl⟩) rfl trivial (fun i z s hz _ => ⟨trivial, _, _, tgn 5 nd, ?_⟩) PassesOwn.never) ?_
    · obtain ⟨a, b⟩ := s
      refine Exs.cons (spar 3 4 nd (a1 (bin (nm 3) (xife (r := rd (if z ∈ l then b else 0)) (Et.conv (tcmp (nm 5) (nm 2) (op_inD (l := dd l) hr)) (decide_eq_decide.mpr dd_mem)) (fun q => Ev.conv (nm 4) (by rw [if_pos (of_decide_eq_true q)]) rfl) (fun q => Ev.conv Ev.kInt (by rw [if_neg (of_decide_eq_false q)]; rfl) rfl)) op_addI) (a1 (bin (nm 4) Ev.kInt (op_mulI (.inr ⟨by decide, by decide⟩))) a0))) Exs.fin
    · exact Exs.ret (sret (nm 3))
def rc1 (s : Pic × Int) (z : Cell) : Pic × Int := (if s.2 % 2 = 1 then s.1 ++ [z] else s.1, s.2 / 2)
theorem round_ok (B : Bt mg) {f g : Addr} (D : At K mg "_law_round" (topS 29) f) (N : Cal P W K mg base "_law_near" 1 (S1 (fun _ => True) rd (fun c : Cell => rl (near8 c))) g) :
    Cal P W K mg base "_law_round" 2 (S1 (fun _ => True) rd (fun k : Int => rl (roundCells k))) f := by
  refine cal_of (N := ["_law_code_here", "_law_found", "_law_late"]) (ps := ["_law_code_here"]) D ⟨rfl, rfl, rfl, by decide +kernel, rfl, by decide +kernel, by decide +kernel⟩ (fun _ _ _ _ _ _ us hl => match us, hl with | [_], _ => rfl) (by decide) ?_ ?_
  · rintro rl r ⟨z, _, rfl, rfl⟩; exact ⟨rfl, imms_map fun x _ => En.im x⟩
  · rintro cdv A outer s H E hr rl0 r ⟨k, _, rfl, rfl⟩
    have nd : (["_law_code_here", "_law_found", "_law_late"] : List Str).Nodup := by decide +kernel
    let st : Pic × Int → List R := fun s => [rd s.2, rl s.1, .un]
    apply Exists.intro
    refine Exs.cons (sset 1 nd (lst a0)) ?_
    refine Exs.wk (rs1 := st ([], k)) ?_
    refine Exs.cons (Ex.forF (l := near8 (0, 0)) st rc1 ([], k) (fun i s => s.1.length ≤ i) (call1 N hr (a1 (tup (a1 Ev.kInt (a1 Ev.kInt a0))) a0) ⟨(0, 0), trivial, rfl, rfl⟩) rfl (Nat.le_refl _) (fun i z s hz hI => ⟨?_, _, _, tgn 2 nd, ?_⟩) PassesOwn.never) ?_
    · show (rc1 s z).1.length ≤ i + 1
      unfold rc1
      have hI : s.1.length ≤ i := hI
      dsimp only
      split
      · simp; exact hI
      · omega
    · obtain ⟨fd, k1⟩ := s
      have hI : fd.length ≤ i := hI
      have hi : i < 8 := (List.getElem?_eq_some_iff.mp hz).1
      by_cases hk : k1 % 2 = 1
      · have e1 : rc1 (fd, k1) z = (fd ++ [z], k1 / 2) := by unfold rc1; dsimp only; rw [if_pos hk]
        rw [e1]
        refine Exs.cons (Ex.ite (tcmp (bin (xint B.int (nm 0)) Ev.kInt (op_modI (by decide))) Ev.kInt (op_eqE (x := k1 % 2) (y := (1 : Int)) hr)) (fun _ => Exs.cons (sappE 1 (l := fd) (l0 := fd) (nm 2) (by show _ < 16777216; omega)) Exs.nil) (fun q => absurd hk (of_decide_eq_false q))) ?_
        exact Exs.cons (sset 0 nd (bin (nm 0) Ev.kInt (op_divI ⟨by decide, by decide⟩))) Exs.fin
      · have e1 : rc1 (fd, k1) z = (fd, k1 / 2) := by unfold rc1; dsimp only; rw [if_neg hk]
        rw [e1]
        refine Exs.cons (Ex.ite (tcmp (bin (xint B.int (nm 0)) Ev.kInt (op_modI (by decide))) Ev.kInt (op_eqE (x := k1 % 2) (y := (1 : Int)) hr)) (fun q => absurd (of_decide_eq_true q) hk) (fun _ => Exs.nil)) ?_
        exact Exs.cons (sset 0 nd (bin (nm 0) Ev.kInt (op_divI ⟨by decide, by decide⟩))) Exs.fin
    · exact Exs.ret (sret (nm 1))
theorem roundCells_len (k : Int) : (roundCells k).length ≤ 8 := by
  have key : ∀ (l : Pic) (s : Pic × Int), (l.foldl (fun (s : Pic × Int) z => (if s.2 % 2 = 1 then s.1 ++ [z] else s.1, s.2 / 2)) s).1.length ≤ s.1.length + l.length := by
    intro l
    induction l with
    | nil => intro s; simp
    | cons z l ih =>
      intro s
      rw [List.foldl_cons, List.length_cons]
      have := ih (if s.2 % 2 = 1 then s.1 ++ [z] else s.1, s.2 / 2)
      have h2 : (if s.2 % 2 = 1 then s.1 ++ [z] else s.1).length ≤ s.1.length + 1 := by split <;> simp
      simp only at this
      omega
  have := key (near8 (0, 0)) ([], k)
  rw [show (near8 (0, 0)).length = 8 from rfl] at this
  simpa [roundCells] using this
theorem partsOf_len (nb : Cell → Pic) (l : Pic) : (partsOf nb l).length ≤ l.length := by
  have key : ∀ (m : Pic) (s : Pic × List Pic), (m.foldl (pt1 nb) s).2.length ≤ s.2.length + m.length := by
    intro m
    induction m with
    | nil => intro s; simp
    | cons z m ih =>
      intro s
      rw [List.foldl_cons, List.length_cons]
      have h1 := ih (pt1 nb s z)
      have h2 : (pt1 nb s z).2.length ≤ s.2.length + 1 := by unfold pt1; split <;> simp
      omega
  have := key (sorted l) (dd l, [])
  rw [sorted_length] at this
  simpa [partsOf] using this
theorem simple_ok (B : Bt mg) {f g1 g2 g3 g4 : Addr} (D : At K mg "_law_is_simple" (topS 30) f) (G1 : Cal P W K mg base "_law_near" 1 (S1 (fun _ => True) rd (fun c : Cell => rl (near8 c))) g1) (G2 : Cal P W K mg base "_law_sides" 1 (S1 (fun _ => True) rd (fun c : Cell => rl (sides4 c))) g2)
    (G3 : Cal P W K mg base "_law_parts_by" 2 SPb g3) (G4 : Cal P W K mg base "_law_round" 2 (S1 (fun _ => True) rd (fun k : Int => rl (roundCells k))) g4) : Cal P W K mg base "_law_is_simple" 3 (S1 (fun _ => True) rd (fun k : Int => rd (isSimple k))) f := by
  refine cal_of (N := ["_law_code_here", "_law_black", "_law_white", "_law_rooms", "_law_cell", "_law_room"]) (ps := ["_law_code_here"]) D ⟨rfl, rfl, rfl, by decide +kernel, rfl, by decide +kernel, by decide +kernel⟩ (fun _ _ _ _ _ _ us hl => match us, hl with | [_], _ => rfl) (by decide) ?_ ?_
  · rintro rl r ⟨z, _, rfl, rfl⟩; exact ⟨rfl, En.im _⟩
  · rintro cdv A outer s H E hr rl0 r ⟨k, _, rfl, rfl⟩
    have nd : (["_law_code_here", "_law_black", "_law_white", "_law_rooms", "_law_cell", "_law_room"] : List Str).Nodup := by decide +kernel
    let bk := roundCells k
    let wt := (near8 (0, 0)).filter fun c => !decide (c ∈ bk)
    let rooms := (partsOf sides4 wt).filter fun room => ((sides4 (0, 0)).map fun c => decide (c ∈ room)).any id
    have hb : bk.length ≤ 8 := roundCells_len k
    have hw : wt.length ≤ 8 := List.length_filter_le _ _
    have hp : (partsOf sides4 wt).length ≤ 8 := Nat.le_trans (partsOf_len _ _) hw
    apply Exists.intro
    refine Exs.cons (sset 1 nd (call1 G4 hr (a1 (nm 0) a0) ⟨k, trivial, rfl, rfl⟩)) ?_
    refine Exs.cons (Ex.setLcM 2 (own := [("_law_cell", 4)]) (c := some _) (l := near8 (0, 0)) (pp := true) (fun c => !decide (c ∈ bk)) e (fun c => [rd k, rl bk, .un, .un, rd c, .un]) [4] (call1 G1 hr (a1 (tup (a1 Ev.kInt (a1 Ev.kInt a0))) a0) ⟨(0, 0), trivial, rfl, rfl⟩) rfl (Nat.le_of_ble_eq_true rfl)
      (fun x _ _ _ _ _ _ => tgn 4 nd) (by decide) (fun x _ _ _ _ _ _ => tcmp (nm 4) (nm 1) (op_notInEL (x := x) (l := bk) hr)) (fun x _ _ _ _ _ _ _ => nm 4) (fun _ _ => rfl) (lcok nd)) ?_
    refine Exs.wk (rs1 := [rd k, rl bk, rl wt, .un, .un, .un]) ?_
    refine Exs.cons (Ex.setLcM 3 (own := [("_law_room", 5), ("_law_cell", 4)]) (c := some _) (l := partsOf sides4 wt) (pp := true) (fun room => ((sides4 (0, 0)).map fun c => decide (c ∈ room)).any id) e (fun room => [rd k, rl bk, rl wt, .un, .un, rd room]) [5] (call1 (S := SPb) G3 hr (a1 (nm 2) (a1 Ev.kBool a0)) ⟨wt, false, _, Nat.lt_of_le_of_lt hw (by decide), .inr rfl, rfl, rfl⟩) rfl (Nat.le_trans hp (by decide))
      (fun x _ _ _ _ _ _ => tgn 5 nd) (by decide) (fun room _ _ _ _ _ _ => tval (xany (bs := (sides4 (0, 0)).map fun c => decide (c ∈ room)) B.any (Ev.lc0 (own := [("_law_cell", 4)]) (l := sides4 (0, 0)) (pp := true) (fun c => .bool (decide (c ∈ room))) (fun c => [rd k, rl bk, rl wt, .un, rd c, rd room]) [4] (call1 G2 hr (a1 (tup (a1 Ev.kInt (a1 Ev.kInt a0))) a0) ⟨(0, 0), trivial, rfl, rfl⟩) rfl (Nat.le_of_ble_eq_true rfl)
        (fun x _ _ _ _ _ _ => tgn 4 nd) (by decide) (fun c _ _ _ _ _ _ => cmp (nm 4) (nm 5) (op_inE (x := c) (l := room) hr)) (fun _ _ => rfl) (lcok nd)))) (fun x _ _ _ _ _ _ _ => nm 5) (fun _ _ => rfl) (lcok nd)) ?_
    refine Exs.wk (rs1 := [rd k, rl bk, rl wt, rl rooms, .un, .un]) ?_
    refine Exs.ret (sret (Ev.andp (cmp (xlenL (l := rooms) B.len (nm 3)) Ev.kInt (op_eqE (x := (rooms.length : Int)) (y := (1 : Int)) hr)) (fun _ => Ev.one (cmp (xlenL (l := partsOf near8 bk) B.len (call1 (S := SPb) G3 hr (a1 (nm 1) (a1 Ev.kBool a0)) ⟨bk, true, _, Nat.lt_of_le_of_lt hb (by decide), .inr rfl, rfl, rfl⟩)) Ev.kInt (op_eqE (x := ((partsOf near8 bk).length : Int)) (y := (1 : Int)) hr)))))
theorem less_ok (B : Bt mg) {f : Addr} (D : At K mg "_law_less" (topS 31) f) : Cal P W K mg base "_law_less" 1 (S2 (fun l m => l.length < big ∧ m.length < big) rd rd (fun l m : Pic => rd (without l m))) f := by
  refine cal_of (N := ["_law_picture", "_law_lot", "_law_gone", "_law_cell"]) (ps := ["_law_picture", "_law_lot"]) D ⟨rfl, rfl, rfl, by decide +kernel, rfl, by decide +kernel, by decide +kernel⟩ (fun _ _ _ _ _ _ us hl => match us, hl with | [_, _], _ => rfl) (by decide) ?_ ?_
  · rintro rl r ⟨z, w, _, rfl, rfl⟩; exact ⟨rfl, En.im _⟩
  · rintro cdv A outer s H E hr rl r ⟨l, m, ⟨hl, hm⟩, rfl, rfl⟩
    have nd : (["_law_picture", "_law_lot", "_law_gone", "_law_cell"] : List Str).Nodup := by decide +kernel
    let tt : PyData := .int 0
    apply Exists.intro
    refine Exs.cons (sset 2 nd (xdict (l := m) (v := tt) B.dict hr (Ev.lc0 (own := [("_law_cell", 3)]) (l := m) (pp := true) (fun c => .tuple [e c, tt]) (fun x => [rd l, rd m, .un, rd x]) [3] (nm 1) rfl (Nat.le_of_lt (big_lt hm)) (fun x _ _ _ _ _ _ => tgn 3 nd) (by decide) (fun x _ _ _ _ _ _ => tup (a1 (nm 3) (a1 Ev.kInt a0))) (fun _ _ => rfl) (lcok nd)) rfl)) ?_
    refine Exs.ret (sret (Ev.conv (r1 := rd (without l m)) (xtup B.tuple (Ev.lcF (own := [("_law_cell", 3)]) (l := l) (pp := true) (fun c => !decide (c ∈ m)) (fun c => [rd l, rd m, .dc (dcOf tt (dd m)), rd c]) [3] (nm 0) rfl (Nat.le_of_lt (big_lt hl))
      (fun x _ _ _ _ _ _ => tgn 3 nd) (by decide) (fun x _ _ _ _ _ _ => Et.conv (tcmp (nm 3) (nm 2) (op_notInD (l := dd m) hr)) (by rw [decide_eq_decide.mpr dd_mem])) (fun x _ _ _ _ _ _ => nm 3) (fun x _ => rfl) (lcok nd))) rfl rfl))
end
end Ab

namespace Ab
open PySem PySem.Spec PyProof.Rows L2
open En (e)
section
variable {P : Program} {W : World} {K : PySem.W.Frag} {mg : Str → Option Value} {base : Heap}
theorem pick_b (s : Src) {m : Int} (h : 1 ≤ m) : 0 ≤ (pickF s m).1 ∧ (pickF s m).1 < m := pickF_range s m h
def SDp (s : Src) (al : List R) (r : R) (s' : Src) : Prop := ∃ m : Int, (1 ≤ m ∧ m < 1000) ∧ al = [rd m] ∧ r = rd (drawPic s m).1 ∧ s' = (drawPic s m).2
theorem dpr_len (x dense : Int) (n : Nat) (s : Src) : (dpr x dense n s).1.length ≤ n := by
  have h := fold_len (f := dpc x dense) (fun s i => by unfold dpc; dsimp only; split <;> simp) (List.range n) ([], s)
  simpa [dpr] using h
theorem dpf_len (dense : Int) (n : Nat) : ∀ (l : List Nat) (s : Pic × Src), (l.foldl (dpf dense n) s).1.length ≤ s.1.length + l.length * n
  | [], s => by simp
  | x :: l, s => by
    rw [List.foldl_cons, List.length_cons, Nat.succ_mul]
    have h1 := dpf_len dense n l (dpf dense n s x)
    have h2 : (dpf dense n s x).1.length ≤ s.1.length + n := by
      show (s.1 ++ (dpr x dense n s.2).1).length ≤ _
      rw [List.length_append]
      exact Nat.add_le_add_left (dpr_len _ _ _ _) _
    omega
theorem drawpic_ok (B : Bt mg) {f g : Addr} (D : At K mg "_law_draw_picture" (topS 32) f) (G : CalS P W K mg base "_law_pick" 1 SPick g) : CalS P W K mg base "_law_draw_picture" 2 SDp f := by
  refine calS_of (N := ["_law_source", "_law_most", "_law_wide", "_law_high", "_law_found", "_law_dense", "_law_x", "_law_y"]) (ps := ["_law_source", "_law_most"]) D ⟨rfl, rfl, rfl, by decide +kernel, rfl, by decide +kernel, by decide +kernel⟩ (fun _ _ _ _ _ _ us hl => match us, hl with | [_, _], _ => rfl) (by decide) ?_ ?_
  · rintro s rl r s' ⟨m, _, rfl, rfl, rfl⟩; exact ⟨rfl, En.im _⟩
  · rintro cdv A outer s H E hr p q c rl0 r c' ⟨m, ⟨hm1, hm⟩, rfl, rfl, rfl⟩
    have nd : (["_law_source", "_law_most", "_law_wide", "_law_high", "_law_found", "_law_dense", "_law_x", "_law_y"] : List Str).Nodup := by decide +kernel
    let a := pickF c m
    let b := pickF a.2 m
    let d := pickF b.2 4
    let dense := ([2, 3, 3, 5] : List Int).getD d.1.toNat 2
    have ha : 0 ≤ a.1 ∧ a.1 < m := pick_b c hm1
    have hb : 0 ≤ b.1 ∧ b.1 < m := pick_b a.2 hm1
    have hd : 0 ≤ d.1 ∧ d.1 < 4 := pick_b b.2 (by decide)
    have hdn : ([2, 3, 3, 5] : List Int)[d.1.toNat]? = some dense := by
      have : d.1.toNat < ([2, 3, 3, 5] : List Int).length := by show _ < 4; omega
      show _ = some (([2, 3, 3, 5] : List Int).getD d.1.toNat 2)
      rw [List.getD_eq_getElem?_getD, List.getElem?_eq_getElem this]; rfl
    have hdense : 1 ≤ dense ∧ dense < 1000 := by
      have : dense ∈ ([2, 3, 3, 5] : List Int) := List.mem_of_getElem? hdn
      simp at this
      omega
    let st : Pic × Src → List R := fun s => [.src p q s.2, rd m, rd (1 + a.1), rd (1 + b.1), rl s.1, rd dense, .un, .un]
    apply Exists.intro
    apply And.intro
    · refine Exs.cons (spar3 2 3 4 nd (a1 (bin Ev.kInt (callS 0 G hr (a1 (nm 1) a0) ⟨m, by omega, rfl, rfl, rfl⟩) op_addI) (a1 (bin Ev.kInt (callS 0 G hr (a1 (nm 1) a0) ⟨m, by omega, rfl, rfl, rfl⟩) op_addI) (a1 (lst a0) a0)))) ?_
      refine Exs.cons (sset 5 nd (ixL (y := e dense) (lst (a1 Ev.kInt (a1 Ev.kInt (a1 Ev.kInt (a1 Ev.kInt a0))))) (callS 0 G hr (a1 Ev.kInt a0) ⟨4, by decide, rfl, rfl, rfl⟩) (atI_int hd.1 (es_at (l := ([2, 3, 3, 5] : List Int)) hdn)))) ?_
      refine Exs.wk (rs1 := st ([], d.2)) ?_
      refine Exs.cons (Ex.forN st (dpf dense (1 + b.1).toNat) ([], d.2) (fun i s => s.1.length ≤ i * (1 + b.1).toNat) (nm 2) (by omega) (Nat.zero_le _) (fun i s hi hI => ⟨?_, _, _, tgn 6 nd, ?_⟩) PassesOwn.never B.range) ?_
      · show (s.1 ++ (dpr i dense (1 + b.1).toNat s.2).1).length ≤ _
        have h1 := dpr_len i dense (1 + b.1).toNat s.2
        have hI : s.1.length ≤ i * (1 + b.1).toNat := hI
        rw [List.length_append, Nat.succ_mul]
        omega
      · obtain ⟨fd, sc⟩ := s
        have hI : fd.length ≤ i * (1 + b.1).toNat := hI
        have h1 := dpr_len i dense (1 + b.1).toNat sc
        have hlen : fd.length + (dpr i dense (1 + b.1).toNat sc).1.length ≤ 16777216 := by
          have : i * (1 + b.1).toNat ≤ 1000 * 1000 := Nat.mul_le_mul (by omega) (by omega)
          omega
        let st2 : Src → List R := fun s => [.src p q s, rd m, rd (1 + a.1), rd (1 + b.1), rl fd, rd dense, rd (i : Int), .un]
        refine Exs.cons (sset 4 nd (Ev.conv (r1 := rl (fd ++ (dpr i dense (1 + b.1).toNat sc).1)) (binV 4 (rs2 := st2 (dpr i dense (1 + b.1).toNat sc).2) (r0 := rl fd) rfl rfl (Ev.lcNS (own := [("_law_y", 7)]) (c := some _) st2 (dpc i dense) sc (fun _ _ => True) (nm 3) (by omega) trivial (fun j t hj _ => ⟨trivial, ?_⟩) (fun s i => by unfold dpc; dsimp only; split <;> simp) (lcok nd) B.range) rfl (op_addL rfl rfl (by simp only [List.length_map]; exact hlen))) (by rw [es_append]; rfl) rfl)) Exs.fin
        obtain ⟨ac, t⟩ := t
        let rz : Src → List R := fun s => [.src p q s, rd m, rd (1 + a.1), rd (1 + b.1), rl fd, rd dense, rd (i : Int), rd (j : Int)]
        refine ⟨rz t, [7], decide (0 < (pickF t dense).1), rz (pickF t dense).2, fun _ _ _ _ _ => tgn 7 nd, by decide, fun _ _ _ _ _ => tcmp (callS 0 G hr (a1 (nm 5) a0) ⟨dense, by omega, rfl, rfl, rfl⟩) Ev.kInt op_gtI, fun qq => ⟨e (((i : Int), (j : Int)) : Cell), rz (pickF t dense).2, fun _ _ _ _ _ => Ev.weak (tup (a1 (nm 6) (a1 (nm 7) a0))), ?_⟩, fun qq => ?_⟩
        · refine ⟨rfl, ?_⟩
          have := of_decide_eq_true qq
          show es ac ++ [_] = es (dpc i dense (ac, t) j).1
          unfold dpc
          dsimp only
          rw [if_pos this]
          simp [e, En.e]
        · refine ⟨rfl, ?_⟩
          have := of_decide_eq_false qq
          show es ac = es (dpc i dense (ac, t) j).1
          unfold dpc
          dsimp only
          rw [if_neg this]
      · have hl := dpf_len dense (1 + b.1).toNat (List.range (1 + a.1).toNat) ([], d.2)
        rw [List.length_range] at hl
        have : (1 + a.1).toNat * (1 + b.1).toNat ≤ 1000 * 1000 := Nat.mul_le_mul (by omega) (by omega)
        exact Exs.ret (sret (xtupE (l := (drawPic c m).1) B.tuple (xsrtL (l := ((List.range (1 + a.1).toNat).foldl (dpf dense (1 + b.1).toNat) ([], d.2)).1) B.sorted hr (nm 4) (by show _ ≤ 16777216; simp at hl; omega))))
    · rfl
end
end Ab

namespace Ab
open PySem PySem.Spec PyProof.Rows L2
open En (e)
section
variable {P : Program} {W : World} {K : PySem.W.Frag} {mg : Str → Option Value} {base : Heap}
def lst1 (u : Rule) (p : Nat) (l : Pic) (s : Pic) (c : Cell) : Pic := s ++ (if strikesCode u p c (codeIn l c) = true then [c] else [])
theorem lst_fold (u : Rule) (p : Nat) (l : Pic) : ∀ (m s : Pic), m.foldl (lst1 u p l) s = s ++ m.filter fun c => strikesCode u p c (codeIn l c)
  | [], s => by simp
  | c :: m, s => by
    rw [List.foldl_cons, lst_fold u p l m]
    unfold lst1
    by_cases h : strikesCode u p c (codeIn l c) = true <;> simp [h]
theorem lstrikes_ok (B : Bt mg) {f g : Addr} (D : At K mg "_law_strikes" (topS 33) f) (C : Cal P W K mg base "_law_code" 2 (S2 (fun l _ => l.length < big) rd rd (fun (l : Pic) (c : Cell) => rd (codeIn l c))) g) :
    Cal P W K mg base "_law_strikes" 3 (S3 (fun r p l => r.Ok ∧ p < r.c.length ∧ l.length < big) rd (fun p : Nat => rd (p : Int)) rd (fun (r : Rule) (p : Nat) (l : Pic) => rd (strikesOf r p l))) f := by
  refine cal_of (N := ["_law_rule", "_law_p", "_law_picture", "_law_found", "_law_x", "_law_y", "_law_table"]) (ps := ["_law_rule", "_law_p", "_law_picture"]) D ⟨rfl, rfl, rfl, by decide +kernel, rfl, by decide +kernel, by decide +kernel⟩ (fun _ _ _ _ _ _ us hl => match us, hl with | [_, _, _], _ => rfl) (by decide) ?_ ?_
  · rintro rl r ⟨z, w, u, _, rfl, rfl⟩; exact ⟨rfl, En.im _⟩
  · rintro cdv A outer s H E hr rl0 r ⟨u, p, l, ⟨hu, hp, hl⟩, rfl, rfl⟩
    have nd : (["_law_rule", "_law_p", "_law_picture", "_law_found", "_law_x", "_law_y", "_law_table"] : List Str).Nodup := by decide +kernel
    let st : Pic → List R := fun s => [rd u, rd (p : Int), rd l, rl s, .un, .un, .un]
    have hz := big_lt hl
    apply Exists.intro
    refine Exs.cons (sset 3 nd (lst a0)) ?_
    refine Exs.wk (rs1 := st []) ?_
    refine Exs.cons (Ex.forF (l := l) st (lst1 u p l) [] (fun i s => s.length ≤ i) (nm 2) rfl (Nat.le_refl _) (fun i c s hc hI => ⟨?_, _, _, tgt (tg1 (tgn 4 nd) (tg1 (tgn 5 nd) tg0)), ?_⟩) PassesOwn.never) ?_
    · show (lst1 u p l s c).length ≤ i + 1
      have hI : s.length ≤ i := hI
      unfold lst1
      split <;> simp <;> omega
    · have hI : s.length ≤ i := hI
      have hi : i < l.length := (List.getElem?_eq_some_iff.mp hc).1
      obtain ⟨t, h1, h2⟩ := tableAt_get hu hp c
      refine Exs.cons (sset 6 nd (ixT (y := e (tableAt u p c)) (ixT (y := e t) (ixT (nm 0) Ev.kInt (h := rfl)) (nm 1) (h := atI_nat (es_at h1))) (bin (bin (bin (xint B.int (nm 4)) (ixT (nm 0) Ev.kInt) (op_modI (i := c.1) (j := u.a) hu.a.1)) (ixT (nm 0) Ev.kInt) (op_mulI (i := c.1 % u.a) (j := u.b) (.inr ⟨by have := hu.b; omega, by have := hu.b; omega⟩))) (bin (xint B.int (nm 5)) (ixT (nm 0) Ev.kInt) (op_modI (i := c.2) (j := u.b) hu.b.1)) op_addI) (h := atI_int (tableNo_ok hu c).1 (es_at h2)))) ?_
      refine Exs.cons (sset 3 nd (Ev.conv (r1 := rl (lst1 u p l s c)) (bin (nm 3) (xife (r := rl (if strikesCode u p c (codeIn l c) = true then [c] else [])) (tcmp (call1 C hr (a1 (nm 2) (a1 (tup (a1 (nm 4) (a1 (nm 5) a0))) a0)) ⟨l, c, hl, rfl, rfl⟩) (nm 6) (op_inE (x := codeIn l c) (l := tableAt u p c) hr)) (fun q => Ev.conv (lst (a1 (tup (a1 (nm 4) (a1 (nm 5) a0))) a0)) (by show _ = rl (if decide _ = true then [c] else []); rw [if_pos q]; rfl) rfl) (fun q => Ev.conv (lst a0) (by show _ = rl (if decide _ = true then [c] else []); rw [if_neg (by rw [q]; exact Bool.false_ne_true)]; rfl) rfl)) (op_addL rfl rfl (by simp only [List.length_map]; show _ ≤ 16777216; have hz : l.length < 16777216 := hz; split <;> simp <;> omega))) (by rw [es_append]; rfl) rfl)) Exs.fin
    · exact Exs.ret (sret (Ev.conv (r1 := rd (strikesOf u p l)) (xtup B.tuple (nm 3)) (by show R.d _ = R.d _; rw [lst_fold]; simp [strikesOf, e, En.e]) rfl))
theorem lround_ok (B : Bt mg) {f g h : Addr} (D : At K mg "_law_round_behind" (topS 34) f) (G : Cal P W K mg base "_law_strikes" 3 (S3 (fun r p l => r.Ok ∧ p < r.c.length ∧ l.length < big) rd (fun p : Nat => rd (p : Int)) rd (fun (r : Rule) (p : Nat) (l : Pic) => rd (strikesOf r p l))) g)
    (C : Cal P W K mg base "_law_less" 1 (S2 (fun l m => l.length < big ∧ m.length < big) rd rd (fun l m : Pic => rd (without l m))) h) : Cal P W K mg base "_law_round_behind" 4 (S2 (fun r l => r.Ok ∧ l.length < big) rd rd (fun (r : Rule) (l : Pic) => rd (roundOf r l))) f := by
  refine cal_of (N := ["_law_rule", "_law_picture", "_law_p"]) (ps := ["_law_rule", "_law_picture"]) D ⟨rfl, rfl, rfl, by decide +kernel, rfl, by decide +kernel, by decide +kernel⟩ (fun _ _ _ _ _ _ us hl => match us, hl with | [_, _], _ => rfl) (by decide) ?_ ?_
  · rintro rl r ⟨z, w, _, rfl, rfl⟩; exact ⟨rfl, En.im _⟩
  · rintro cdv A outer s H E hr rl r ⟨u, l, ⟨hu, hl⟩, rfl, rfl⟩
    have nd : (["_law_rule", "_law_picture", "_law_p"] : List Str).Nodup := by decide +kernel
    apply Exists.intro
    have hc := hu.s
    let st : Pic → List R := fun q => [rd u, rd q, .un]
    refine Exs.cons (Ex.forN st (fun q p => passOf u p q) l (fun _ q => q.length < big) (xlenE B.len (ixT (nm 0) Ev.kInt (h := rfl))) (by omega) hl (fun i q hi hq => ⟨?_, _, _, tgn 2 nd, ?_⟩) PassesOwn.never B.range) ?_
    · exact Nat.lt_of_le_of_lt (passOf_sublist u i q).length_le hq
    · have h2 : (strikesOf u i q).length ≤ q.length := List.length_filter_le _ _
      refine Exs.cons (sset 1 nd (call1 C hr (a1 (nm 1) (a1 (call1 G hr (a1 (nm 0) (a1 (nm 2) (a1 (nm 1) a0))) ⟨u, i, q, ⟨hu, by omega, hq⟩, rfl, rfl⟩) a0)) ⟨q, strikesOf u i q, ⟨hq, Nat.lt_of_le_of_lt h2 hq⟩, rfl, rfl⟩)) Exs.fin
    · refine Exs.ret (sret (Ev.conv (nm 1) (by rw [Int.toNat_natCast]) rfl))
theorem lrounds_ok (B : Bt mg) {f g : Addr} (D : At K mg "_law_rounds" (topS 35) f) (G : Cal P W K mg base "_law_round_behind" 4 (S2 (fun r l => r.Ok ∧ l.length < big) rd rd (fun (r : Rule) (l : Pic) => rd (roundOf r l))) g) :
    Cal P W K mg base "_law_rounds" 5 (S2 (fun r l => r.Ok ∧ l.length < big) rd rd (fun (r : Rule) (l : Pic) => rd (roundsOf r l))) f := by
  refine cal_of (N := ["_law_rule", "_law_picture", "_law_found", "_law_lap", "_law_late"]) (ps := ["_law_rule", "_law_picture"]) D ⟨rfl, rfl, rfl, by decide +kernel, rfl, by decide +kernel, by decide +kernel⟩ (fun _ _ _ _ _ _ us hl => match us, hl with | [_, _], _ => rfl) (by decide) ?_ ?_
  · rintro rl r ⟨z, w, _, rfl, rfl⟩; exact ⟨rfl, En.im _⟩
  · rintro cdv A outer s H E hr rl0 r ⟨u, l, ⟨hu, hl⟩, rfl, rfl⟩
    have nd : (["_law_rule", "_law_picture", "_law_found", "_law_lap", "_law_late"] : List Str).Nodup := by decide +kernel
    have hb : l.length < 1000000 := hl
    let st : List Pic × Pic → List R := fun s => [rd u, rd s.2, rl s.1, .un, .un]
    let fin := wh rnc (rn1 u) (l.length + 2) ([], l, roundOf u l)
    let Inv : Nat → List Pic × Pic → Prop := fun i s => RnI u l.length (s.1, s.2, roundOf u s.2) ∧ s.2.length + i ≤ l.length ∧ wh rnc (rn1 u) (s.2.length + 2) (s.1, s.2, roundOf u s.2) = fin
    have stop : ∀ fd pc, roundOf u pc = pc → wh rnc (rn1 u) (pc.length + 2) (fd, pc, roundOf u pc) = (fd, pc, roundOf u pc) := fun fd pc e => by
      unfold wh
      rw [if_neg (by simp [rnc, e])]
    have more : ∀ fd pc, RnI u l.length (fd, pc, roundOf u pc) → roundOf u pc ≠ pc → wh rnc (rn1 u) (pc.length + 2) (fd, pc, roundOf u pc) = wh rnc (rn1 u) ((roundOf u pc).length + 2) (fd ++ [roundOf u pc], roundOf u pc, roundOf u (roundOf u pc)) := fun fd pc hI e => by
      have q : rnc (fd, pc, roundOf u pc) = true := by simp [rnc, e]
      have h2 := rn_step _ hI q
      conv => lhs; unfold wh
      rw [if_pos q]
      exact wh_more (fun s => s.2.1.length) (fun s hs hq => rn_step s hs hq) _ _ _ h2.1 (by have h5 : (roundOf u pc).length < pc.length := h2.2; show (roundOf u pc).length < pc.length + 1; omega) (by show (roundOf u pc).length < (roundOf u pc).length + 2; omega)
    apply Exists.intro
    refine Exs.cons (sset 2 nd (lst a0)) ?_
    refine Exs.wk (rs1 := st ([], l)) ?_
    refine Exs.cons (rs1 := st (fin.1, fin.2.1)) (Ex.forR_ (fun i rs => ∃ s, rs = st s ∧ Inv i s) (xlenE B.len (nm 1)) ⟨by show -(2 ^ 62) ≤ (l.length : Int); omega, by show (l.length : Int) < 2 ^ 62; omega⟩ ⟨([], l), rfl, ⟨rfl, Nat.le_refl _, by simp⟩, by simp, rfl⟩ ?_ ?_ PassesOwn.never rfl rfl B.range rfl rfl (fun _ => rfl)) ?_
    · rintro i rs hi ⟨⟨fd, pc⟩, rfl, hI, hp, hw⟩
      have hp : pc.length + i ≤ l.length := hp
      have hf : fd.length + pc.length ≤ l.length := hI.2.2
      by_cases e1 : roundOf u pc = pc
      · refine ⟨_, _, .bk (st (fd, pc)), tgn 3 nd, ?_, ?_⟩
        · refine Exs.cons (sset 4 nd (call1 G hr (a1 (nm 0) (a1 (nm 1) a0)) ⟨u, pc, ⟨hu, by show _ < 1000000; omega⟩, rfl, rfl⟩)) ?_
          refine Exs.brk (Ex.ite (tcmp (nm 4) (nm 1) (op_eqE (x := roundOf u pc) (y := pc) hr)) (fun _ => Exs.wk (Exs.brk Ex.brk)) (fun q => absurd e1 (of_decide_eq_false q)))
        · show O.nx _ = O.nx _
          have hw' : wh rnc (rn1 u) (pc.length + 2) (fd, pc, roundOf u pc) = fin := hw
          rw [stop fd pc e1] at hw'
          rw [← hw']
      · refine ⟨_, _, .nx (st (fd ++ [roundOf u pc], roundOf u pc)), tgn 3 nd, ?_, ?_⟩
        · refine Exs.cons (sset 4 nd (call1 G hr (a1 (nm 0) (a1 (nm 1) a0)) ⟨u, pc, ⟨hu, by show _ < 1000000; omega⟩, rfl, rfl⟩)) ?_
          refine Exs.cons (Ex.ite (tcmp (nm 4) (nm 1) (op_eqE (x := roundOf u pc) (y := pc) hr)) (fun q => absurd (of_decide_eq_true q) e1) (fun q => Exs.nil)) ?_
          refine Exs.cons (spar 2 1 nd (a1 (Ev.conv (r1 := rl (fd ++ [roundOf u pc])) (bin (nm 2) (lst (a1 (nm 4) a0)) (op_addL rfl rfl (by simp only [List.length_map]; show _ ≤ 16777216; simp; omega))) (by show R.ls _ = R.ls _; simp [e, En.e]) rfl) (a1 (nm 4) a0))) Exs.fin
        · have q : rnc (fd, pc, roundOf u pc) = true := by simp [rnc, e1]
          have h2 := rn_step _ hI q
          have h3 : (roundOf u pc).length < pc.length := h2.2
          refine ⟨_, rfl, h2.1, by show (roundOf u pc).length + (i + 1) ≤ l.length; omega, ?_⟩
          rw [← hw]
          exact (more fd pc hI e1).symm
    · rintro rs ⟨⟨fd, pc⟩, rfl, hI, hp, hw⟩
      have hp : pc.length + ((l.length : Int).toNat) ≤ l.length := hp
      rw [Int.toNat_natCast] at hp
      have e0 : pc = [] := List.length_eq_zero_iff.mp (by omega)
      subst e0
      have e1 : roundOf u [] = [] := List.sublist_nil.mp (roundOf_sublist u [])
      have hw' : wh rnc (rn1 u) (([] : Pic).length + 2) (fd, [], roundOf u []) = fin := hw
      rw [stop fd [] e1] at hw'
      rw [← hw']
    · exact Exs.ret (sret (xtupE (l := roundsOf u l) B.tuple (nm 2)))
end
end Ab

namespace Ab
open PySem PySem.Spec PyProof.Rows L2
open En (e)
section
variable {P : Program} {W : World} {K : PySem.W.Frag} {mg : Str → Option Value} {base : Heap}
def SDt (s : Src) (al : List R) (r : R) (s' : Src) : Prop := al = [] ∧ r = rd (drawTable s).1 ∧ s' = (drawTable s).2
theorem dt1_len (road low : Int) (s : List Int × Src) (k : Nat) : (dt1 road low s k).1.length ≤ s.1.length + 1 := by
  unfold dt1
  split
  · dsimp only; split <;> simp
  · simp
theorem dt2_len (road : Int) (s : List Int × Src) (k : Nat) : (dt2 road s k).1.length ≤ s.1.length + 1 := by
  unfold dt2
  split
  · dsimp only; split <;> simp
  · split <;> simp
theorem drawtable_ok (B : Bt mg) {f g1 g2 g3 : Addr} (D : At K mg "_law_draw_table" (topS 36) f) (G1 : CalS P W K mg base "_law_pick" 1 SPick g1) (G2 : Cal P W K mg base "_law_round" 2 (S1 (fun _ => True) rd (fun k : Int => rl (roundCells k))) g2)
    (G3 : Cal P W K mg base "_law_is_simple" 3 (S1 (fun _ => True) rd (fun k : Int => rd (isSimple k))) g3) : CalS P W K mg base "_law_draw_table" 4 SDt f := by
  refine calS_of (N := ["_law_source", "_law_road", "_law_found", "_law_low", "_law_code_here", "_law_many", "_law_lap"]) (ps := ["_law_source"]) D ⟨rfl, rfl, rfl, by decide +kernel, rfl, by decide +kernel, by decide +kernel⟩ (fun _ _ _ _ _ _ us hl => match us, hl with | [_], _ => rfl) (by decide) ?_ ?_
  · rintro s rl r s' ⟨rfl, rfl, rfl⟩; exact ⟨rfl, En.im _⟩
  · rintro cdv A outer s H E hr p q c rl0 r c' ⟨rfl, rfl, rfl⟩
    have nd : (["_law_source", "_law_road", "_law_found", "_law_low", "_law_code_here", "_law_many", "_law_lap"] : List Str).Nodup := by decide +kernel
    let a := pickF c 4
    by_cases h0 : a.1 = 0
    · have ed : drawTable c = (sorted (dd ((List.range (pickF a.2 6).1.toNat).foldl dt0 ([], (pickF a.2 6).2)).1), ((List.range (pickF a.2 6).1.toNat).foldl dt0 ([], (pickF a.2 6).2)).2) := by unfold drawTable; dsimp only; rw [if_pos h0]
      rw [ed]
      let n := pickF a.2 6
      have hn : 0 ≤ n.1 ∧ n.1 < 6 := pick_b a.2 (by decide)
      have hlen : ((List.range n.1.toNat).foldl dt0 ([], n.2)).1.length < 64 := by
        have := fold_len (f := dt0) (fun s i => by simp [dt0]) (List.range n.1.toNat) ([], n.2)
        simp only [List.length_nil, List.length_range] at this
        omega
      let st : Src → List R := fun s => [.src p q s, rd a.1, .ls [], .un, .un, .un, .un]
      let rz : Int → Src → List R := fun i s => [.src p q s, rd a.1, .ls [], .un, .un, .un, rd i]
      apply Exists.intro
      apply And.intro
      · refine Exs.cons (spar 1 2 nd (a1 (callS 0 G1 hr (a1 Ev.kInt a0) ⟨4, by decide, rfl, rfl, rfl⟩) (a1 (lst a0) a0))) ?_
        refine Exs.ret (Ex.ite (tcmp (nm 1) Ev.kInt (op_eqE (x := a.1) (y := (0 : Int)) hr)) (fun _ => Exs.ret (sret (xtupE (l := sorted (dd ((List.range n.1.toNat).foldl dt0 ([], n.2)).1)) B.tuple (xsrtSet B.sorted B.set (Ev.lcNS (own := [("_law_lap", 6)]) (c := none) st dt0 n.2 (fun _ _ => True) (callS 0 (c' := n.2) G1 hr (a1 Ev.kInt a0) ⟨6, by decide, rfl, rfl, rfl⟩) ⟨by show -(2 ^ 62) ≤ n.1; omega, by show n.1 < 16777216; omega⟩ trivial (fun i t hi _ => ⟨trivial, ?_⟩) (fun s i => by simp [dt0]) (lcok nd) B.range) hlen)))) (fun z => absurd h0 (of_decide_eq_false z)))
        obtain ⟨ac, t⟩ := t
        refine ⟨rz i t, [6], true, rz i t, fun _ _ _ _ _ => tgn 6 nd, by decide, ⟨rfl, rfl⟩, fun _ => ⟨e (pickF t 256).1, rz i (pickF t 256).2, fun _ _ _ _ _ => callS 0 G1 hr (a1 Ev.kInt a0) ⟨256, by decide, rfl, rfl, rfl⟩, rfl, ?_⟩, fun z => nomatch z⟩
        show es ac ++ [_] = es (ac ++ [_])
        simp [es]
      · rfl
    · have ed : drawTable c = (List.range 256).foldl (dtK a.1 (pickF a.2 4).1) ([], (pickF a.2 4).2) := by unfold drawTable; dsimp only; rw [if_neg h0]
      rw [ed]
      let l := pickF a.2 4
      let st : List Int × Src → List R := fun s => [.src p q s.2, rd a.1, rl s.1, rd l.1, .un, .un, .un]
      apply Exists.intro
      apply And.intro
      · refine Exs.cons (spar 1 2 nd (a1 (callS 0 G1 hr (a1 Ev.kInt a0) ⟨4, by decide, rfl, rfl, rfl⟩) (a1 (lst a0) a0))) ?_
        refine Exs.cons (Ex.ite (tcmp (nm 1) Ev.kInt (op_eqE (x := a.1) (y := (0 : Int)) hr)) (fun z => absurd (of_decide_eq_true z) h0) (fun _ => Exs.nil)) ?_
        refine Exs.cons (sset 3 nd (callS 0 (c' := l.2) G1 hr (a1 Ev.kInt a0) ⟨4, by decide, rfl, rfl, rfl⟩)) ?_
        refine Exs.wk (rs1 := st ([], l.2)) ?_
        refine Exs.cons (Ex.forN st (dtK a.1 l.1) ([], l.2) (fun i s => s.1.length ≤ 2 * i) Ev.kInt (by decide) (Nat.le_refl _) (fun k s hk hI => ⟨?_, _, _, tgn 4 nd, ?_⟩) PassesOwn.never B.range) ?_
        · have h1 := dt1_len a.1 l.1 s k
          have h2 := dt2_len a.1 (dt1 a.1 l.1 s k) k
          have hI : s.1.length ≤ 2 * k := hI
          show (dt2 a.1 (dt1 a.1 l.1 s k) k).1.length ≤ 2 * (k + 1)
          omega
        · have hk : k < 256 := hk
          have hI : s.1.length ≤ 2 * k := hI
          let m : Int := ((roundCells k).length : Int)
          let rz : List Int × Src → List R := fun s => [.src p q s.2, rd a.1, rl s.1, rd l.1, rd (k : Int), rd m, .un]
          refine Exs.cons (sset 5 nd (xlenL (l := roundCells k) B.len (call1 G2 hr (a1 (nm 4) a0) ⟨(k : Int), trivial, rfl, rfl⟩))) ?_
          refine Exs.wk (rs1 := rz s) ?_
          refine Exs.cons (rs1 := rz (dt1 a.1 l.1 s k)) ?_ (Exs.cons (rs1 := rz (dt2 a.1 (dt1 a.1 l.1 s k) k)) ?_ Exs.fin)
          · by_cases c1 : a.1 = 1 ∧ l.1 ≤ m ∧ m ≤ l.1 + 2
            · have e1 : dt1 a.1 l.1 s k = (if 0 < (pickF s.2 3).1 then s.1 ++ [(k : Int)] else s.1, (pickF s.2 3).2) := by unfold dt1; rw [if_pos c1]
              rw [e1]
              refine Ex.ite (x := decide (0 < (pickF s.2 3).1)) (rs1 := rz (s.1, (pickF s.2 3).2)) (Et.of (Ew.and (x := decide (a.1 = 1)) (tcmp (nm 1) Ev.kInt (op_eqE (x := a.1) (y := (1 : Int)) hr)) (fun _ => Ew.and (x := decide (l.1 ≤ m) && decide (m ≤ l.1 + 2)) (tchain (nm 3) (nm 5) (bin (nm 3) Ev.kInt op_addI) op_leI op_leI) (fun _ => Ew.and1 (tcmp (callS 0 G1 hr (a1 Ev.kInt a0) ⟨3, by decide, rfl, rfl, rfl⟩) Ev.kInt op_gtI)) (fun z => by simp [c1] at z)) (fun z => by simp [c1] at z))) (fun z => ?_) (fun z => ?_)
              · rw [if_pos (of_decide_eq_true z)]
                exact Exs.cons (sappE 2 (l := s.1) (l0 := s.1) (nm 4) (by show _ < 16777216; omega)) Exs.nil
              · rw [if_neg (of_decide_eq_false z)]
                exact Exs.nil
            · have e1 : dt1 a.1 l.1 s k = s := by unfold dt1; rw [if_neg c1]
              rw [e1]
              by_cases c2 : a.1 = 1
              · have c3 : ¬ (l.1 ≤ m ∧ m ≤ l.1 + 2) := fun z => c1 ⟨c2, z⟩
                refine Ex.ite (x := false) (rs1 := rz s) (Et.of (Ew.and (pu2 := true) (x := decide (a.1 = 1)) (tcmp (nm 1) Ev.kInt (op_eqE (x := a.1) (y := (1 : Int)) hr)) (fun _ => Ew.and (pu2 := true) (rs1 := rz s) (x := decide (l.1 ≤ m) && decide (m ≤ l.1 + 2)) (tchain (nm 3) (nm 5) (bin (nm 3) Ev.kInt op_addI) op_leI op_leI) (fun z => absurd ⟨of_decide_eq_true (Bool.and_eq_true_iff.mp z).1, of_decide_eq_true (Bool.and_eq_true_iff.mp z).2⟩ c3) (fun z => ⟨rfl, rfl⟩)) (fun z => ⟨rfl, rfl⟩))) (fun z => nomatch z) (fun z => Exs.nil)
              · refine Ex.ite (x := false) (rs1 := rz s) (Et.of (Ew.and (pu2 := true) (rs1 := rz s) (x := decide (a.1 = 1)) (tcmp (nm 1) Ev.kInt (op_eqE (x := a.1) (y := (1 : Int)) hr)) (fun z => absurd (of_decide_eq_true z) c2) (fun z => ⟨rfl, rfl⟩))) (fun z => nomatch z) (fun z => Exs.nil)
          · have hs1 : (dt1 a.1 l.1 s k).1.length < 1000000 := by
              have h1 := dt1_len a.1 l.1 s k
              omega
            generalize dt1 a.1 l.1 s k = s1 at *
            by_cases c1 : a.1 = 2 ∧ m < 4
            · have e1 : dt2 a.1 s1 k = (if (pickF s1.2 2).1 = 0 then s1.1 ++ [(k : Int)] else s1.1, (pickF s1.2 2).2) := by unfold dt2; rw [if_pos c1]
              rw [e1]
              have c3 : ¬ a.1 = 3 := by omega
              refine Ex.ite (x := decide ((pickF s1.2 2).1 = 0)) (rs1 := rz (s1.1, (pickF s1.2 2).2)) (Et.of (Ew.or (x := decide ((pickF s1.2 2).1 = 0)) (rs1 := rz (s1.1, (pickF s1.2 2).2)) (pu2 := true) (Et.of (Ew.and (x := decide (a.1 = 2)) (tcmp (nm 1) Ev.kInt (op_eqE (x := a.1) (y := (2 : Int)) hr)) (fun _ => Ew.and (x := decide (m < 4)) (tcmp (nm 5) Ev.kInt op_ltI) (fun _ => Ew.and1 (tcmp (callS 0 G1 hr (a1 Ev.kInt a0) ⟨2, by decide, rfl, rfl, rfl⟩) Ev.kInt (op_eqE (x := (pickF s1.2 2).1) (y := (0 : Int)) hr))) (fun z => absurd c1.2 (of_decide_eq_false z))) (fun z => absurd c1.1 (of_decide_eq_false z))))
                (fun q => Ew.or1 (Et.conv (Et.of (Ew.and (pu2 := true) (rs1 := rz (s1.1, (pickF s1.2 2).2)) (x := decide (a.1 = 3)) (z := false) (tcmp (nm 1) Ev.kInt (op_eqE (x := a.1) (y := (3 : Int)) hr)) (fun z => absurd (of_decide_eq_true z) c3) (fun z => ⟨rfl, rfl⟩))) q.symm)) (fun z => ⟨z, rfl⟩))) (fun z => ?_) (fun z => ?_)
              · rw [if_pos (of_decide_eq_true z)]
                exact Exs.cons (sappE 2 (l := s1.1) (l0 := s1.1) (nm 4) (by show _ < 16777216; omega)) Exs.nil
              · rw [if_neg (of_decide_eq_false z)]
                exact Exs.nil
            · let v : Bool := decide (a.1 = 3) && (decide (0 < m) && isSimple (k : Int))
              have e1 : dt2 a.1 s1 k = if v = true then (s1.1 ++ [(k : Int)], s1.2) else s1 := by
                unfold dt2
                rw [if_neg c1]
                show (if _ then _ else _) = (if (decide (a.1 = 3) && (decide (0 < m) && isSimple (k : Int))) = true then _ else _)
                simp [m]
              rw [e1]
              by_cases c2 : a.1 = 2
              · have c3 : ¬ m < 4 := fun z => c1 ⟨c2, z⟩
                refine Ex.ite (x := v) (rs1 := rz s1) (Et.of (Ew.or (x := false) (rs1 := rz s1) (pu2 := true) (Et.of (Ew.and (pu2 := true) (z := false) (x := decide (a.1 = 2)) (tcmp (nm 1) Ev.kInt (op_eqE (x := a.1) (y := (2 : Int)) hr)) (fun _ => Ew.and (pu2 := true) (rs1 := rz s1) (x := decide (m < 4)) (tcmp (nm 5) Ev.kInt op_ltI) (fun z => absurd (of_decide_eq_true z) c3) (fun _ => ⟨rfl, rfl⟩)) (fun _ => ⟨rfl, rfl⟩)))
                  (fun _ => Ew.or1 (Et.of (Ew.andp (x := decide (a.1 = 3)) (tcmp (nm 1) Ev.kInt (op_eqE (x := a.1) (y := (3 : Int)) hr)) (fun _ => Ew.andp (x := decide (0 < m)) (tcmp (nm 5) Ev.kInt op_gtI) (fun _ => Ew.and1 (tval (call1 G3 hr (a1 (nm 4) a0) ⟨(k : Int), trivial, rfl, rfl⟩))))))) (fun z => nomatch z))) (fun z => ?_) (fun z => ?_)
                · rw [if_pos z]
                  exact Exs.cons (sappE 2 (l := s1.1) (l0 := s1.1) (nm 4) (by show _ < 16777216; omega)) Exs.nil
                · rw [if_neg (by rw [z]; exact Bool.false_ne_true)]
                  exact Exs.nil
              · refine Ex.ite (x := v) (rs1 := rz s1) (Et.of (Ew.or (x := false) (rs1 := rz s1) (pu2 := true) (Et.of (Ew.and (pu2 := true) (rs1 := rz s1) (z := false) (x := decide (a.1 = 2)) (tcmp (nm 1) Ev.kInt (op_eqE (x := a.1) (y := (2 : Int)) hr)) (fun z => absurd (of_decide_eq_true z) c2) (fun _ => ⟨rfl, rfl⟩)))
                  (fun _ => Ew.or1 (Et.of (Ew.andp (x := decide (a.1 = 3)) (tcmp (nm 1) Ev.kInt (op_eqE (x := a.1) (y := (3 : Int)) hr)) (fun _ => Ew.andp (x := decide (0 < m)) (tcmp (nm 5) Ev.kInt op_gtI) (fun _ => Ew.and1 (tval (call1 G3 hr (a1 (nm 4) a0) ⟨(k : Int), trivial, rfl, rfl⟩))))))) (fun z => nomatch z))) (fun z => ?_) (fun z => ?_)
                · rw [if_pos z]
                  exact Exs.cons (sappE 2 (l := s1.1) (l0 := s1.1) (nm 4) (by show _ < 16777216; omega)) Exs.nil
                · rw [if_neg (by rw [z]; exact Bool.false_ne_true)]
                  exact Exs.nil
        · exact Exs.ret (sret (xtupE (l := ((List.range 256).foldl (dtK a.1 l.1) ([], l.2)).1) B.tuple (nm 2)))
      · rfl
def SDr (s : Src) (al : List R) (r : R) (s' : Src) : Prop := al = [] ∧ r = rd (drawRule s).1 ∧ s' = (drawRule s).2
theorem drawrule_ok (B : Bt mg) {f g1 g2 : Addr} (D : At K mg "_law_draw_rule" (topS 37) f) (G1 : CalS P W K mg base "_law_pick" 1 SPick g1) (G2 : CalS P W K mg base "_law_draw_table" 4 SDt g2) : CalS P W K mg base "_law_draw_rule" 5 SDr f := by
  refine calS_of (N := ["_law_source", "_law_a", "_law_b", "_law_passes", "_law_lap", "_law_k"]) (ps := ["_law_source"]) D ⟨rfl, rfl, rfl, by decide +kernel, rfl, by decide +kernel, by decide +kernel⟩ (fun _ _ _ _ _ _ us hl => match us, hl with | [_], _ => rfl) (by decide) ?_ ?_
  · rintro s rl r s' ⟨rfl, rfl, rfl⟩; exact ⟨rfl, En.im _⟩
  · rintro cdv A outer s H E hr p q c rl0 r c' ⟨rfl, rfl, rfl⟩
    have nd : (["_law_source", "_law_a", "_law_b", "_law_passes", "_law_lap", "_law_k"] : List Str).Nodup := by decide +kernel
    let a := pickF c 2
    let b := pickF a.2 2
    let d := pickF b.2 2
    have ha : 0 ≤ a.1 ∧ a.1 < 2 := pick_b c (by decide)
    have hb : 0 ≤ b.1 ∧ b.1 < 2 := pick_b a.2 (by decide)
    have hd : 0 ≤ d.1 ∧ d.1 < 2 := pick_b b.2 (by decide)
    have hab : 0 ≤ (1 + a.1) * (1 + b.1) ∧ (1 + a.1) * (1 + b.1) ≤ 4 := by
      have h1 : a.1 = 0 ∨ a.1 = 1 := by omega
      have h2 : b.1 = 0 ∨ b.1 = 1 := by omega
      rcases h1 with h1 | h1 <;> rcases h2 with h2 | h2 <;> rw [h1, h2] <;> decide
    let n := ((1 + a.1) * (1 + b.1)).toNat
    let st : List (List (List Int)) × Src → List R := fun s => [.src p q s.2, rd (1 + a.1), rd (1 + b.1), rl s.1, .un, .un]
    apply Exists.intro
    apply And.intro
    · refine Exs.cons (spar3 1 2 3 nd (a1 (bin Ev.kInt (callS 0 G1 hr (a1 Ev.kInt a0) ⟨2, by decide, rfl, rfl, rfl⟩) op_addI) (a1 (bin Ev.kInt (callS 0 G1 hr (a1 Ev.kInt a0) ⟨2, by decide, rfl, rfl, rfl⟩) op_addI) (a1 (lst a0) a0)))) ?_
      refine Exs.wk (rs1 := st ([], b.2)) ?_
      refine Exs.cons (Ex.forN st (dr2 n) ([], d.2) (fun i s => s.1.length ≤ i) (bin Ev.kInt (callS 0 (c' := d.2) G1 hr (a1 Ev.kInt a0) ⟨2, by decide, rfl, rfl, rfl⟩) op_addI) ⟨by show -(2 ^ 62) ≤ 1 + d.1; omega, by show 1 + d.1 < 2 ^ 62; omega⟩ (Nat.le_refl _) (fun i s hi hI => ⟨?_, _, _, tgn 4 nd, ?_⟩) PassesOwn.never B.range) ?_
      · show (s.1 ++ [_]).length ≤ i + 1
        have hI : s.1.length ≤ i := hI
        simp; exact hI
      · obtain ⟨ps, sc⟩ := s
        have hI : ps.length ≤ i := hI
        have hi : i < 3 := by
          have hi' : i < (1 + d.1).toNat := hi
          omega
        let st2 : Src → List R := fun s => [.src p q s, rd (1 + a.1), rd (1 + b.1), rl ps, rd (i : Int), .un]
        let rz : Int → Src → List R := fun k s => [.src p q s, rd (1 + a.1), rd (1 + b.1), rl ps, rd (i : Int), rd k]
        refine Exs.cons (sappE 3 (l := ps) (l0 := ps) (rs1 := st2 ((List.range n).foldl dr1 ([], sc)).2) (xtupE (l := ((List.range n).foldl dr1 ([], sc)).1) B.tuple (Ev.lcNS (own := [("_law_k", 5)]) (c := none) st2 dr1 sc (fun _ _ => True) (bin (nm 1) (nm 2) (op_mulI (i := 1 + a.1) (j := 1 + b.1) (.inr ⟨by omega, by omega⟩))) ⟨by omega, by omega⟩ trivial (fun j t hj _ => ⟨trivial, ?_⟩) (fun s i => by simp [dr1]) (lcok nd) B.range)) (by show _ < 16777216; omega)) Exs.fin
        obtain ⟨ac, t⟩ := t
        refine ⟨rz j t, [5], true, rz j t, fun _ _ _ _ _ => tgn 5 nd, by decide, ⟨rfl, rfl⟩, fun _ => ⟨e (drawTable t).1, rz j (drawTable t).2, fun _ _ _ _ _ => callS 0 G2 hr a0 ⟨rfl, rfl, rfl⟩, rfl, ?_⟩, fun z => nomatch z⟩
        show es ac ++ [_] = es (ac ++ [_])
        simp [es]
      · exact Exs.ret (sret (tup (a1 (nm 1) (a1 (nm 2) (a1 (xtup B.tuple (nm 3)) a0)))))
    · rfl
end
end Ab

namespace Ab
/-! ### what the law k73 asks, plainly -/
def farPic (s : Src) : Pic := (drawPic s 3).1.map fun c => (c.1 + 7, c.2)
def lawPic (s : Src) : Pic := sorted ((drawPic (drawPic s 3).2 4).1 ++ farPic s)
def lawPicSrc (s : Src) : Src := (drawPic (drawPic s 3).2 4).2
def toldOf (u : Rule) (p : Nat) (parts : List Pic) : Pic := parts.foldl (fun t q => t ++ strikesOf u p q) []
def endOf (u : Rule) (parts : List Pic) : Pic × Int := parts.foldl (fun s q => (pictureOf (s.1 ++ bonesOf u q), max s.2 ((roundsOf u q).length : Int))) ([], 0)
structure Law73 (u : Rule) (pic : Pic) : Prop where
  len : pic.length < 1000
  parts : (piecesOf pic).length < 1000
  plen : ∀ q ∈ piecesOf pic, q.length < 1000
  rok : u.Ok
  ne : 0 < u.c.length
  told : ∀ p, p < u.c.length → (toldOf u p (piecesOf pic)).length < 1000000 ∧ strikesOf u p pic = sorted (toldOf u p (piecesOf pic))
  tlen : ∀ p, p < u.c.length → ∀ i, (toldOf u p ((piecesOf pic).take i)).length < 1000000
  elen : ∀ i, (endOf u ((piecesOf pic).take i)).1.length < 1000
  bones : bonesOf u pic = (endOf u (piecesOf pic)).1
  many : ((roundsOf u pic).length : Int) = (endOf u (piecesOf pic)).2
  last : ([pic] ++ roundsOf u pic)[(roundsOf u pic).length]? = some (endOf u (piecesOf pic)).1
  srt : ∀ i j : Int, movedBy pic (u.a * i) (u.b * j) = sorted (movedBy pic (u.a * i) (u.b * j))
  mov : ∀ i j : Int, bonesOf u (movedBy pic (u.a * i) (u.b * j)) = movedBy (endOf u (piecesOf pic)).1 (u.a * i) (u.b * j)
  wok : u.a = 1 → (refinedBy u 2 u.b).Ok ∧ (refinedBy u 2 u.b).c.length = u.c.length
  wide : u.a = 1 → ∀ p, p < u.c.length → ∀ q, strikesOf (refinedBy u 2 u.b) p q = strikesOf u p q
end Ab

namespace Ab
open PySem PySem.Spec PyProof.Rows L2
open En (e)
section
variable {P : Program} {W : World} {K : PySem.W.Frag} {mg : Str → Option Value} {base : Heap}
abbrev C1 (P : Program) (W : World) (K : PySem.W.Frag) (mg : Str → Option Value) (base : Heap) (x : Str) (k : Nat) (S : List R → R → Prop) (f : Addr) := Cal P W K mg base x k S f
theorem rn_mem {u : Rule} {l : Pic} : ∀ (m : Nat) (s : List Pic × Pic × Pic), (∀ x ∈ s.1, x.length ≤ l.length) → s.2.2.length ≤ l.length → ∀ x ∈ (wh rnc (rn1 u) m s).1, x.length ≤ l.length
  | 0, s, h, _ => h
  | m + 1, s, h, h2 => by
    unfold wh
    split
    · refine rn_mem m _ (fun x hx => ?_) (Nat.le_trans (roundOf_sublist u s.2.2).length_le h2)
      rcases List.mem_append.mp hx with hx | hx
      · exact h x hx
      · rw [List.mem_singleton.mp hx]; exact h2
    · exact h
theorem bonesOf_len (u : Rule) (l : Pic) : (bonesOf u l).length ≤ l.length := by
  have h := rn_mem (u := u) (l := l) (l.length + 2) ([], l, roundOf u l) (by simp) (roundOf_sublist u l).length_le
  unfold bonesOf
  cases e : roundsOf u l with
  | nil => exact Nat.le_refl _
  | cons a t =>
    have hm : ((a :: t).getLastD l) ∈ roundsOf u l := by
      rw [e, List.getLastD_cons]
      rw [List.getLastD_eq_getLast?]
      cases t with
      | nil => simp
      | cons b t => rw [List.getLast?_eq_some_getLast (by simp)]; exact List.mem_cons_of_mem _ (List.getLast_mem _)
    rw [← e] at hm ⊢
    exact h _ hm
theorem drawPic_len (s : Src) {m : Int} (h1 : 1 ≤ m) (h2 : m < 300) : (drawPic s m).1.length < 100000 := by
  unfold drawPic
  dsimp only
  rw [sorted_length]
  have ha := pick_b s h1
  have hb := pick_b (pickF s m).2 h1
  have h := dpf_len (([2, 3, 3, 5] : List Int).getD (pickF (pickF (pickF s m).2 m).2 4).1.toNat 2) (1 + (pickF (pickF s m).2 m).1).toNat (List.range (1 + (pickF s m).1).toNat) ([], (pickF (pickF (pickF s m).2 m).2 4).2)
  rw [List.length_range] at h
  have h3 : (1 + (pickF s m).1).toNat * (1 + (pickF (pickF s m).2 m).1).toNat ≤ 300 * 300 := Nat.mul_le_mul (by omega) (by omega)
  simp only [List.length_nil] at h
  omega
abbrev NL : List Str := ["_law_script", "_law_source", "_law_rule", "_law_lap", "_law_x", "_law_y", "_law_far", "_law_picture", "_law_some", "_law_rounds_here", "_law_p", "_law_told", "_law_piece", "_law_end", "_law_many", "_law_dx", "_law_dy", "_law_moved", "_law_wide"]
/-- the law is asked at a script, and says yes -/
def SLaw (al : List R) (r : R) : Prop := ∃ ns : List Int, ns.length ≤ 63 ∧ al = [.d (.list (es ns))] ∧ r = rd true
theorem law_end {P : Program} {W : World} {K : PySem.W.Frag} {H : Hp} {a : Addr} {ns : List Int} (hl : ns.length ≤ 63) (hS : SqL K H a (ns.map V.int)) : spP P W K SLaw [.ref a] H (fun v _ => v = .bl true) fun _ _ _ => False :=
  ⟨[.d (.list (es ns))], rd true, ⟨ns, hl, rfl, rfl⟩, ⟨.lst (hS.imp (fun z => ⟨z, rfl⟩) id) (DRs.ints ns), trivial⟩, fun _ _ _ rc => drB rc.2⟩
theorem lawmain_ok (B : Bt mg) (math : ∀ ns : List Int, ns.length ≤ 63 → ∀ s, Law73 (drawRule (opened ns)).1 (lawPic s)) {f fo fdr fdp fpk flp flr fls fless fpc frs fst fun_ fbo fsh fre fpb : Addr} {fd : FuncData} (F : Fun K "law" "law" (topS 38) f fd)
    (Go : CalO P W K mg base "_law_open_cells" 1 SO fo) (Gdr : CalS P W K mg base "_law_draw_rule" 5 SDr fdr) (Gdp : CalS P W K mg base "_law_draw_picture" 2 SDp fdp) (Gpk : CalS P W K mg base "_law_pick" 1 SPick fpk)
    (Glp : Cal P W K mg base "_law_pieces" 3 (S1 (fun l => l.length < big) rd (fun l : Pic => rl (piecesOf l))) flp)
    (Glr : Cal P W K mg base "_law_rounds" 5 (S2 (fun r l => r.Ok ∧ l.length < big) rd rd (fun (r : Rule) (l : Pic) => rd (roundsOf r l))) flr)
    (Gls : Cal P W K mg base "_law_strikes" 3 (S3 (fun r p l => r.Ok ∧ p < r.c.length ∧ l.length < big) rd (fun p : Nat => rd (p : Int)) rd (fun (r : Rule) (p : Nat) (l : Pic) => rd (strikesOf r p l))) fls)
    (Gless : Cal P W K mg base "_law_less" 1 (S2 (fun l m => l.length < big ∧ m.length < big) rd rd (fun l m : Pic => rd (without l m))) fless)
    (Gpc : Cal P W K mg base "pieces" 3 (S1 (fun l => l.length < big) rd (fun l : Pic => rd (piecesOf l))) fpc)
    (Grs : Cal P W K mg base "rounds_of" 6 (S2 (fun r l => r.Ok ∧ l.length < big) rd rd (fun (r : Rule) (l : Pic) => rd (roundsOf r l))) frs)
    (Gst : Cal P W K mg base "strikes" 3 (S3 (fun r p l => r.Ok ∧ p < r.c.length ∧ l.length < big) rd (fun p : Nat => rd (p : Int)) rd (fun (r : Rule) (p : Nat) (l : Pic) => rd (strikesOf r p l))) fst)
    (Gun : Cal P W K mg base "united" 2 (S2 (fun l m => l.length + m.length < big) rd rd (fun l m : Pic => rd (pictureOf (l ++ m)))) fun_)
    (Gbo : Cal P W K mg base "bones" 7 (S2 (fun r l => r.Ok ∧ l.length < big) rd rd (fun (r : Rule) (l : Pic) => rd (bonesOf r l))) fbo)
    (Gsh : Cal P W K mg base "shifted" 1 (S3 (fun l _ _ => l.length < big) rd rd rd (fun (l : Pic) (dx dy : Int) => rd (movedBy l dx dy))) fsh)
    (Gre : Cal P W K mg base "refined" 2 (S3 (fun r a b => r.Ok ∧ (0 < a ∧ a < 1000) ∧ (0 < b ∧ b < 1000)) rd rd rd (fun (r : Rule) (a b : Int) => rd (refinedBy r a b))) fre)
    (Gpb : Cal P W K mg base "pass_behind" 4 (S3 (fun r p l => r.Ok ∧ p < r.c.length ∧ l.length < big) rd (fun p : Nat => rd (p : Int)) rd (fun (r : Rule) (p : Nat) (l : Pic) => rd (passOf r p l))) fpb) :
    FnOk P W K mg base CX0 8 f fd ["_law_script"] (spP P W K SLaw) := by
  refine fn_pure (N := NL) F ⟨rfl, rfl, rfl, by decide +kernel, rfl, by decide +kernel, by decide +kernel⟩ (by decide) ?_ ?_
  · rintro rl r ⟨z, _, rfl, rfl⟩; exact ⟨rfl, rfl⟩
  · rintro cdv A outer s H E hr rl0 r ⟨ns, hl, rfl, rfl⟩
    have nd : NL.Nodup := by decide +kernel
    let u := (drawRule (opened ns)).1
    have hu : u.Ok := (math ns hl (opened ns)).rok
    let z : Addr → Addr → Src → R → R → R → R → R → R → R → R → R → R → R → R → R → List R := fun p q s a6 a7 a8 a9 a10 a11 a12 a13 a14 a15 a16 a17 a18 => [.d (.list (es ns)), .src p q s, rd u, .un, .un, .un, a6, a7, a8, a9, a10, a11, a12, a13, a14, a15, a16, a17, a18]
    let st : Addr → Addr → Src → List R := fun p q s => z p q s .un .un .un .un .un .un .un .un .un .un .un .un .un
    let nxt : Src → Src := fun s => (pickF (pickF (lawPicSrc s) 5).2 5).2
    let sF : Src := (List.range (2 : Int).toNat).foldl (fun s _ => nxt s) (drawRule (opened ns)).2
    refine ⟨List.replicate 19 .un, ?_⟩
    refine Exs.callO 1 Go hr nd (a1 (nm 0) a0) ⟨ns, Nat.lt_of_le_of_lt hl (by decide), rfl, rfl⟩ (fun p q => Exs.retN (rs1 := st p q sF) ?_ 19 rfl)
    refine Exs.cons (sset 2 nd (callS 1 Gdr hr a0 ⟨rfl, rfl, rfl⟩)) ?_
    refine Exs.wk (rs1 := st p q (drawRule (opened ns)).2) ?_
    refine Exs.cons (Ex.forN (st p q) (fun s _ => nxt s) (drawRule (opened ns)).2 (fun _ _ => True) Ev.kInt (by decide) trivial (fun i s hi _ => ⟨trivial, _, _, tgn 3 nd, ?_⟩) PassesOwn.never B.range) (Exs.ret (sret Ev.kBool))
    have L := math ns hl s
    let pic := lawPic s
    let parts := piecesOf pic
    let rounds := roundsOf u pic
    let t1 := lawPicSrc s
    have hpic : pic.length < 1000 := L.len
    have hbig : pic.length < big := Nat.lt_trans hpic (by decide)
    have hparts : parts.length < 1000 := L.parts
    have hlr : rounds.length ≤ pic.length := roundsOf_len u pic
    have hd3 : (drawPic s 3).1.length < 100000 := drawPic_len s (by decide) (by decide)
    have hd4 : (drawPic (drawPic s 3).2 4).1.length < 100000 := drawPic_len _ (by decide) (by decide)
    refine Exs.cons (sset 6 nd (Ev.conv (r1 := rd (farPic s)) (xtup B.tuple (Ev.lc0 (own := [("_law_x", 4), ("_law_y", 5)]) (l := (drawPic s 3).1) (pp := true) (fun c => e ((c.1 + 7, c.2) : Cell)) (fun c => [.d (.list (es ns)), .src p q (drawPic s 3).2, rd u, rd (i : Int), rd c.1, rd c.2, .un, .un, .un, .un, .un, .un, .un, .un, .un, .un, .un, .un, .un]) [4, 5] (callS 1 Gdp hr (a1 Ev.kInt a0) ⟨3, by decide, rfl, rfl, rfl⟩) rfl (by show _ ≤ 16777216; omega)
      (fun x _ _ _ _ _ _ => tgt (tg1 (tgn 4 nd) (tg1 (tgn 5 nd) tg0))) (by decide) (fun x _ _ _ _ _ _ => tup (a1 (bin (nm 4) Ev.kInt op_addI) (a1 (nm 5) a0))) (fun _ _ => rfl) (lcok nd))) (by show R.d _ = R.d _; simp [farPic, e, En.e, Function.comp_def]) rfl)) ?_
    refine Exs.wk (rs1 := z p q (drawPic s 3).2 (rd (farPic s)) .un .un .un .un .un .un .un .un .un .un .un .un) ?_
    have hfar : (farPic s).length < 100000 := by unfold farPic; rw [List.length_map]; exact hd3
    refine Exs.cons (sset 7 nd (xtupE (l := pic) B.tuple (xsrtT (l := (drawPic (drawPic s 3).2 4).1 ++ farPic s) B.sorted hr (Ev.conv (r1 := rd ((drawPic (drawPic s 3).2 4).1 ++ farPic s)) (bin (callS 1 Gdp hr (a1 Ev.kInt a0) ⟨4, by decide, rfl, rfl, rfl⟩) (nm 6) (op_addT (by simp only [List.length_map]; show _ ≤ 16777216; omega))) (by rw [es_append]; rfl) rfl) (by rw [List.length_append]; show _ ≤ 16777216; omega)))) ?_
    refine Exs.wk (rs1 := z p q t1 .un (rd pic) .un .un .un .un .un .un .un .un .un .un .un) ?_
    refine Exs.cons (spar 8 9 nd (a1 (call1 Glp hr (a1 (nm 7) a0) ⟨pic, hbig, rfl, rfl⟩) (a1 (call1 Glr hr (a1 (nm 2) (a1 (nm 7) a0)) ⟨u, pic, ⟨hu, hbig⟩, rfl, rfl⟩) a0))) ?_
    refine Exs.pre (Weak.freeze 8 (xs := es parts) rfl) ?_
    let ps : R := .d (.list (es parts))
    let y : R → R → R → R → R → R → R → R → R → List R := fun a10 a11 a12 a13 a14 a15 a16 a17 a18 => z p q t1 .un (rd pic) ps (rd rounds) a10 a11 a12 a13 a14 a15 a16 a17 a18
    let y0 : List R := y .un .un .un .un .un .un .un .un .un
    refine Exs.wk (rs1 := y0) ?_
    refine Exs.cons (rs1 := y0) (Ex.ite (x := false || false) (Et.of (Ew.orp (Et.conv (tcmp (xlst B.list (call1 Gpc hr (a1 (nm 7) a0) ⟨pic, hbig, rfl, rfl⟩)) (nm 8) (op_neEL (x := parts) (y := parts) hr)) (by simp)) (fun _ => Ew.or1 (Et.conv (tcmp (call1 Grs hr (a1 (nm 2) (a1 (nm 7) a0)) ⟨u, pic, ⟨hu, hbig⟩, rfl, rfl⟩) (nm 9) (op_neE (x := rounds) (y := rounds) hr)) (by simp))))) (fun h => nomatch h) (fun _ => Exs.nil)) ?_
    have hcl := hu.s
    refine Exs.cons (rs1 := y0) (Ex.forN (fun _ : Unit => y0) (fun _ _ => ()) () (fun _ _ => True) (xlenE B.len (ixT (nm 2) Ev.kInt (h := rfl))) (by omega) trivial (fun pp _ hpp _ => ⟨trivial, _, _, tgn 10 nd, ?_⟩) PassesOwn.never B.range) ?_
    · have hp : pp < u.c.length := by omega
      refine Exs.cons (sset 11 nd (lst a0)) ?_
      let st2 : Pic → List R := fun t => y (rd (pp : Int)) (rl t) .un .un .un .un .un .un .un
      refine Exs.wk (rs1 := st2 []) ?_
      refine Exs.cons (Ex.forF (l := parts) st2 (fun t x => t ++ strikesOf u pp x) [] (fun i t => t = toldOf u pp (parts.take i)) (nm 8) rfl rfl (fun j x t hx hI => ?_) PassesOwn.never) ?_
      · have hI : t = toldOf u pp (parts.take j) := hI
        have e1 : t ++ strikesOf u pp x = toldOf u pp (parts.take (j + 1)) := by rw [take_succ_get hx]; unfold toldOf; rw [List.foldl_append]; show t ++ _ = _; rw [hI]; rfl
        have h1 := L.tlen pp hp (j + 1)
        have h2 : (t ++ strikesOf u pp x).length < 1000000 := by rw [e1]; exact h1
        have hxl := L.plen x (mem_of_get hx)
        refine ⟨e1, _, _, tgn 12 nd, Exs.cons (sset 11 nd (Ev.conv (r1 := rl (t ++ strikesOf u pp x)) (bin (nm 11) (xlst B.list (call1 Gst hr (a1 (nm 2) (a1 (nm 10) (a1 (nm 12) a0))) ⟨u, pp, x, ⟨hu, hp, Nat.lt_trans hxl (by decide)⟩, rfl, rfl⟩)) (op_addL rfl rfl (by simp only [List.length_map]; rw [List.length_append] at h2; show _ ≤ 16777216; omega))) (by rw [es_append]) rfl)) Exs.fin⟩
      · have hT := L.told pp hp
        have hT1 : (toldOf u pp parts).length < 1000000 := hT.1
        have hTl : (toldOf u pp parts).length ≤ sizeLine := by show _ ≤ 16777216; omega
        refine Exs.cons (rs1 := st2 (toldOf u pp parts)) (Ex.ite (x := false) (Et.conv (tcmp (xlst B.list (call1 Gst hr (a1 (nm 2) (a1 (nm 10) (a1 (nm 7) a0))) ⟨u, pp, pic, ⟨hu, hp, hbig⟩, rfl, rfl⟩)) (xsrtL B.sorted hr (nm 11) (l := toldOf u pp parts) hTl) (op_neEL (x := strikesOf u pp pic) (y := sorted (toldOf u pp parts)) hr)) (by rw [decide_eq_true hT.2]; rfl)) (fun h => nomatch h) (fun _ => Exs.nil)) ?_
        refine Exs.cons (rs1 := st2 (toldOf u pp parts)) (Ex.ite (x := false) (Et.conv (tcmp (xtupE (l := sorted (toldOf u pp parts)) B.tuple (xsrtL B.sorted hr (nm 11) (l := toldOf u pp parts) hTl)) (call1 Gls hr (a1 (nm 2) (a1 (nm 10) (a1 (nm 7) a0))) ⟨u, pp, pic, ⟨hu, hp, hbig⟩, rfl, rfl⟩) (op_neE (x := sorted (toldOf u pp parts)) (y := strikesOf u pp pic) hr)) (by rw [decide_eq_true hT.2.symm]; rfl)) (fun h => nomatch h) (fun _ => Exs.nil)) Exs.fin
    let en := (endOf u parts).1
    let mn := (endOf u parts).2
    refine Exs.cons (stup 13 14 nd (a1 (tup a0) (a1 Ev.kInt a0))) ?_
    let st3 : Pic × Int → List R := fun t => y .un .un .un (rd t.1) (rd t.2) .un .un .un .un
    refine Exs.wk (rs1 := st3 ([], 0)) ?_
    refine Exs.cons (Ex.forF (l := parts) st3 (fun s x => (pictureOf (s.1 ++ bonesOf u x), max s.2 ((roundsOf u x).length : Int))) ([], 0) (fun i t => t = endOf u (parts.take i)) (nm 8) rfl rfl (fun j x t hx hI => ?_) PassesOwn.never) ?_
    · have hI : t = endOf u (parts.take j) := hI
      have e1 : (pictureOf (t.1 ++ bonesOf u x), max t.2 ((roundsOf u x).length : Int)) = endOf u (parts.take (j + 1)) := by rw [take_succ_get hx]; unfold endOf; rw [List.foldl_append, hI]; rfl
      have h1 := L.elen j
      have hxl := L.plen x (mem_of_get hx)
      have hbl : (bonesOf u x).length ≤ x.length := bonesOf_len u x
      have ht1 : t.1.length < 1000 := by rw [hI]; exact h1
      have hx2 : x.length < big := Nat.lt_trans hxl (by decide)
      refine ⟨e1, _, _, tgn 12 nd, Exs.cons (spar 13 14 nd (a1 (call1 Gun hr (a1 (nm 13) (a1 (call1 Gbo hr (a1 (nm 2) (a1 (nm 12) a0)) ⟨u, x, ⟨hu, hx2⟩, rfl, rfl⟩) a0)) ⟨t.1, bonesOf u x, by show _ < 1000000; omega, rfl, rfl⟩) (a1 (xmax2 B.max (nm 14) (xlenE B.len (call1 Grs hr (a1 (nm 2) (a1 (nm 12) a0)) ⟨u, x, ⟨hu, hx2⟩, rfl, rfl⟩))) a0))) Exs.fin⟩
    refine Exs.cons (rs1 := st3 (en, mn)) (Ex.ite (x := false || (false || false)) (Et.of (Ew.orp (Et.conv (tcmp (call1 Gbo hr (a1 (nm 2) (a1 (nm 7) a0)) ⟨u, pic, ⟨hu, hbig⟩, rfl, rfl⟩) (nm 13) (op_neE (x := bonesOf u pic) (y := en) hr)) (by rw [decide_eq_true L.bones]; rfl)) (fun _ => Ew.orp (Et.conv (tcmp (xlenE B.len (nm 9)) (nm 14) (op_neE (x := (rounds.length : Int)) (y := mn) hr)) (by rw [decide_eq_true L.many]; rfl)) (fun _ => Ew.or1 (Et.conv (tcmp (ixT (y := e en) (bin (tup (a1 (nm 7) a0)) (nm 9) (op_addT (by simp only [List.length_map, List.length_cons, List.length_nil]; show _ ≤ 16777216; omega))) (xlenE B.len (nm 9)) (h := atI_nat (es_at L.last))) (nm 13) (op_neE (x := en) (y := en) hr)) (by simp)))))) (fun h => nomatch h) (fun _ => Exs.nil)) ?_
    let dx : Int := u.a * ((pickF t1 5).1 - 2)
    let dy : Int := u.b * ((pickF (pickF t1 5).2 5).1 - 2)
    let t2 : Src := (pickF (pickF t1 5).2 5).2
    let moved := movedBy pic dx dy
    have hml : moved.length = pic.length := List.length_map _
    have hmb : moved.length < big := by rw [hml]; exact hbig
    have hua := hu.a
    have hub := hu.b
    refine Exs.cons (stup 15 16 nd (a1 (bin (ixT (nm 2) Ev.kInt (h := rfl)) (bin (callS 1 Gpk hr (a1 Ev.kInt a0) ⟨5, by decide, rfl, rfl, rfl⟩) Ev.kInt op_subI) (op_mulI (i := u.a) (.inl ⟨by omega, by omega⟩))) (a1 (bin (ixT (nm 2) Ev.kInt (h := rfl)) (bin (callS 1 Gpk hr (a1 Ev.kInt a0) ⟨5, by decide, rfl, rfl, rfl⟩) Ev.kInt op_subI) (op_mulI (i := u.b) (.inl ⟨by omega, by omega⟩))) a0))) ?_
    let w : R → R → R → List R := fun a10 a17 a18 => z p q t2 .un (rd pic) ps (rd rounds) a10 .un .un (rd en) (rd mn) (rd dx) (rd dy) a17 a18
    refine Exs.cons (sset 17 nd (call1 Gsh hr (a1 (nm 7) (a1 (nm 15) (a1 (nm 16) a0))) ⟨pic, dx, dy, hbig, rfl, rfl⟩)) ?_
    refine Exs.wk (rs1 := w .un (rd moved) .un) ?_
    refine Exs.cons (rs1 := w .un (rd moved) .un) (Ex.ite (x := false) (Et.conv (tcmp (nm 17) (xtupE (l := sorted moved) B.tuple (xsrtL (l := moved) B.sorted hr (Ev.conv (r1 := rl moved) (Ev.lc0 (own := [("_law_x", 4), ("_law_y", 5)]) (l := pic) (pp := true) (fun c => e ((c.1 + dx, c.2 + dy) : Cell)) (fun c => [.d (.list (es ns)), .src p q t2, rd u, .un, rd c.1, rd c.2, .un, rd pic, ps, rd rounds, .un, .un, .un, rd en, rd mn, rd dx, rd dy, rd moved, .un]) [4, 5] (nm 7) rfl (by show _ ≤ 16777216; omega)
      (fun x _ _ _ _ _ _ => tgt (tg1 (tgn 4 nd) (tg1 (tgn 5 nd) tg0))) (by decide) (fun x _ _ _ _ _ _ => tup (a1 (bin (nm 4) (nm 15) op_addI) (a1 (bin (nm 5) (nm 16) op_addI) a0))) (fun _ _ => rfl) (lcok nd)) (by show R.ls _ = R.ls _; simp [moved, movedBy, e, En.e, Function.comp_def]) rfl) (by rw [hml]; show _ ≤ 16777216; omega))) (op_neE (x := moved) (y := sorted moved) hr)) (by rw [decide_eq_true (L.srt _ _)]; rfl)) (fun h => nomatch h) (fun _ => Exs.nil)) ?_
    refine Exs.cons (rs1 := w .un (rd moved) .un) (Ex.ite (x := false) (Et.conv (tcmp (call1 Gbo hr (a1 (nm 2) (a1 (nm 17) a0)) ⟨u, moved, ⟨hu, hmb⟩, rfl, rfl⟩) (call1 Gsh hr (a1 (nm 13) (a1 (nm 15) (a1 (nm 16) a0))) ⟨en, dx, dy, by have := L.elen parts.length; rw [List.take_length] at this; exact Nat.lt_trans this (by decide), rfl, rfl⟩) (op_neE (x := bonesOf u moved) (y := movedBy en dx dy) hr)) (by rw [decide_eq_true (L.mov _ _)]; rfl)) (fun h => nomatch h) (fun _ => Exs.nil)) ?_
    by_cases hA : u.a = 1
    · obtain ⟨hwo, hwl⟩ := L.wok hA
      let wd := refinedBy u 2 u.b
      refine Exs.cons (rs1 := st p q t2) (Ex.ite (tcmp (ixT (nm 2) Ev.kInt (h := rfl)) Ev.kInt (op_eqE (x := u.a) (y := (1 : Int)) hr)) (fun _ => ?_) (fun h => absurd hA (of_decide_eq_false h))) Exs.fin
      refine Exs.cons (sset 18 nd (call1 Gre hr (a1 (nm 2) (a1 Ev.kInt (a1 (ixT (nm 2) Ev.kInt (h := rfl)) a0))) ⟨u, 2, u.b, ⟨hu, by decide, hub⟩, rfl, rfl⟩)) ?_
      let w1 : List R := w .un (rd moved) (rd wd)
      refine Exs.wk (rs1 := w1) ?_
      refine Exs.cons (rs1 := w1) (Ex.forN (fun _ : Unit => w1) (fun _ _ => ()) () (fun _ _ => True) (xlenE B.len (ixT (nm 2) Ev.kInt (h := rfl))) (by omega) trivial (fun pp _ hpp _ => ⟨trivial, _, _, tgn 10 nd, ?_⟩) PassesOwn.never B.range) ?_
      · have hp : pp < u.c.length := by omega
        refine Exs.cons (rs1 := w (rd (pp : Int)) (rd moved) (rd wd)) (Ex.ite (x := false) (Et.conv (tcmp (call1 Gst hr (a1 (nm 18) (a1 (nm 10) (a1 (nm 7) a0))) ⟨wd, pp, pic, ⟨hwo, by rw [hwl]; exact hp, hbig⟩, rfl, rfl⟩) (call1 Gst hr (a1 (nm 2) (a1 (nm 10) (a1 (nm 7) a0))) ⟨u, pp, pic, ⟨hu, hp, hbig⟩, rfl, rfl⟩) (op_neE (x := strikesOf wd pp pic) (y := strikesOf u pp pic) hr)) (by rw [decide_eq_true (L.wide hA pp hp pic)]; rfl)) (fun h => nomatch h) (fun _ => Exs.nil)) Exs.fin
      · have hw0 : passOf wd 0 moved = without moved (strikesOf u 0 moved) := by unfold passOf; rw [L.wide hA 0 L.ne moved]
        refine Exs.cons (rs1 := w1) (Ex.ite (x := false) (Et.conv (tcmp (call1 Gpb hr (a1 (nm 18) (a1 Ev.kInt (a1 (nm 17) a0))) ⟨wd, 0, moved, ⟨hwo, by rw [hwl]; exact L.ne, hmb⟩, rfl, rfl⟩) (call1 Gless hr (a1 (nm 17) (a1 (call1 Gls hr (a1 (nm 2) (a1 Ev.kInt (a1 (nm 17) a0))) ⟨u, 0, moved, ⟨hu, L.ne, hmb⟩, rfl, rfl⟩) a0)) ⟨moved, strikesOf u 0 moved, ⟨hmb, Nat.lt_of_le_of_lt (List.length_filter_le _ _) hmb⟩, rfl, rfl⟩) (op_neE (x := passOf wd 0 moved) (y := without moved (strikesOf u 0 moved)) hr)) (by rw [decide_eq_true hw0]; rfl)) (fun h => nomatch h) (fun _ => Exs.nil)) Exs.fin
    · exact Exs.cons (rs1 := st p q t2) (Ex.ite (tcmp (ixT (nm 2) Ev.kInt (h := rfl)) Ev.kInt (op_eqE (x := u.a) (y := (1 : Int)) hr)) (fun h => absurd (of_decide_eq_true h) hA) (fun h => Exs.fin)) Exs.fin
end
end Ab

namespace Ab
/-! ### order -/
def ltC (p q : Cell) : Prop := p.1 < q.1 ∨ (p.1 = q.1 ∧ p.2 < q.2)
theorem ltC_irrefl (p : Cell) : ¬ ltC p p := by unfold ltC; omega
theorem ltC_trans {p q r : Cell} (h : ltC p q) (g : ltC q r) : ltC p r := by unfold ltC at *; omega
abbrev Srt (l : Pic) : Prop := l.Pairwise ltC
theorem Srt.nodup {l : Pic} (h : Srt l) : l.Nodup := List.Pairwise.imp (S := (· ≠ ·)) (fun {a b} (hab : ltC a b) (e : a = b) => by subst e; exact ltC_irrefl _ hab) h
theorem sorted_srt {l : Pic} (h : l.Nodup) : Srt (sorted l) := by
  have h1 : (sorted l).Pairwise fun a b => leC a b = true := List.pairwise_mergeSort (le := leC) (fun a b c h1 h2 => by simp only [leC, decide_eq_true_eq] at *; omega) (fun a b => by simp only [leC, Bool.or_eq_true, decide_eq_true_eq]; omega) l
  have h2 : (sorted l).Pairwise (· ≠ ·) := sorted_nodup h
  refine (h1.and h2).imp fun {a b} ⟨x, y⟩ => ?_
  obtain ⟨a1, a2⟩ := a
  obtain ⟨b1, b2⟩ := b
  simp only [leC, decide_eq_true_eq] at x
  simp only [ne_eq, Prod.mk.injEq] at y
  unfold ltC
  show a1 < b1 ∨ (a1 = b1 ∧ a2 < b2)
  omega
theorem srt_unique : ∀ {l m : Pic}, Srt l → Srt m → (∀ k, k ∈ l ↔ k ∈ m) → l = m
  | [], [], _, _, _ => rfl
  | [], b :: m, _, _, h => absurd ((h b).mpr (by simp)) (by simp)
  | a :: l, [], _, _, h => absurd ((h a).mp (by simp)) (by simp)
  | a :: l, b :: m, h1, h2, h => by
    obtain ⟨a1, a2⟩ := List.pairwise_cons.mp h1
    obtain ⟨b1, b2⟩ := List.pairwise_cons.mp h2
    have e : a = b := by
      rcases List.mem_cons.mp ((h a).mp (by simp)) with q | q
      · exact q
      · rcases List.mem_cons.mp ((h b).mpr (by simp)) with q2 | q2
        · exact q2.symm
        · exact absurd (ltC_trans (a1 b q2) (b1 a q)) (ltC_irrefl a)
    subst e
    congr 1
    refine srt_unique a2 b2 fun k => ⟨fun hk => ?_, fun hk => ?_⟩
    · rcases List.mem_cons.mp ((h k).mp (List.mem_cons_of_mem _ hk)) with q | q
      · exact absurd (q ▸ a1 k hk) (ltC_irrefl a)
      · exact q
    · rcases List.mem_cons.mp ((h k).mpr (List.mem_cons_of_mem _ hk)) with q | q
      · exact absurd (q ▸ b1 k hk) (ltC_irrefl a)
      · exact q
theorem sorted_id {l : Pic} (h : Srt l) : sorted l = l := srt_unique (sorted_srt h.nodup) h fun _ => sorted_mem
theorem pictureOf_srt (l : Pic) : Srt (pictureOf l) := sorted_srt dd_nodup
theorem pictureOf_mem {l : Pic} {c : Cell} : c ∈ pictureOf l ↔ c ∈ l := by unfold pictureOf; rw [sorted_mem, dd_mem]

/-! ### near is mutual -/
theorem near8_symm {c d : Cell} (h : d ∈ near8 c) : c ∈ near8 d := by
  obtain ⟨a, b⟩ := c
  obtain ⟨x, y⟩ := d
  simp only [near8, List.mem_cons, Prod.mk.injEq, List.not_mem_nil, or_false] at h ⊢
  omega
theorem sides4_symm {c d : Cell} (h : d ∈ sides4 c) : c ∈ sides4 d := by
  obtain ⟨a, b⟩ := c
  obtain ⟨x, y⟩ := d
  simp only [sides4, List.mem_cons, Prod.mk.injEq, List.not_mem_nil, or_false] at h ⊢
  omega

/-! ### a flood -/
/-- what holds while a piece is gathered from the cells in l0 -/
structure FlI (nb : Cell → Pic) (l0 : Pic) (s : Fl) : Prop where
  nd : (s.1 ++ (s.2.1 ++ s.2.2)).Nodup
  mem : ∀ c, c ∈ s.1 ++ (s.2.1 ++ s.2.2) ↔ c ∈ l0
  cl : ∀ x ∈ s.2.2, ∀ z ∈ nb x, z ∉ s.1
theorem perm_fl1 (s : Pic × Pic) (hs : s.1.Nodup) (z : Cell) : ((fl1 s z).1 ++ (fl1 s z).2).Perm (s.1 ++ s.2) := by
  unfold fl1
  split
  · next h =>
    have h1 : (s.1.filter fun c => decide (c ≠ z)) = s.1.erase z := by
      rw [hs.erase_eq_filter]
      apply List.filter_congr
      intro c _
      simp [bne]
      rfl
    rw [h1]
    have h2 := List.perm_cons_erase h
    have h3 : (s.1.erase z ++ (s.2 ++ [z])).Perm (z :: (s.1.erase z ++ s.2)) := by
      rw [← List.append_assoc]
      exact List.perm_append_singleton z _
    exact h3.trans (by simpa using List.Perm.append_right s.2 h2.symm)
  · exact List.Perm.refl _
theorem fl1_nodup (s : Pic × Pic) (hs : s.1.Nodup) (z : Cell) : (fl1 s z).1.Nodup := by
  unfold fl1
  split
  · exact hs.filter _
  · exact hs
theorem fl1_sub (s : Pic × Pic) (z c : Cell) (h : c ∈ (fl1 s z).1) : c ∈ s.1 := by
  unfold fl1 at h
  split at h
  · exact (List.mem_filter.mp h).1
  · exact h
theorem fl1_gone (s : Pic × Pic) (z : Cell) : z ∉ (fl1 s z).1 := by
  unfold fl1
  split
  · simp
  · assumption
theorem foldl_fl1 : ∀ (l : Pic) (s : Pic × Pic), s.1.Nodup → ((l.foldl fl1 s).1 ++ (l.foldl fl1 s).2).Perm (s.1 ++ s.2) ∧ (l.foldl fl1 s).1.Nodup ∧ (∀ c, c ∈ (l.foldl fl1 s).1 → c ∈ s.1 ∧ c ∉ l)
  | [], s, hs => ⟨List.Perm.refl _, hs, fun c h => ⟨h, by simp⟩⟩
  | z :: l, s, hs => by
    obtain ⟨h1, h2, h3⟩ := foldl_fl1 l (fl1 s z) (fl1_nodup s hs z)
    rw [List.foldl_cons]
    refine ⟨h1.trans (perm_fl1 s hs z), h2, fun c hc => ?_⟩
    obtain ⟨a, b⟩ := h3 c hc
    refine ⟨fl1_sub s z c a, fun hm => ?_⟩
    rcases List.mem_cons.mp hm with e | e
    · subst e; exact fl1_gone s c a
    · exact b e
theorem FlI.step {nb : Cell → Pic} {l0 : Pic} {s : Fl} (h : FlI nb l0 s) (hc : flc s = true) : FlI nb l0 (fl2 nb s) := by
  obtain ⟨lf, wt, lot⟩ := s
  have hw : wt ≠ [] := by simpa [flc] using hc
  have hd : wt.dropLast ++ [wt.getLastD (0, 0)] = wt := by
    rw [List.getLastD_eq_getLast?, List.getLast?_eq_some_getLast hw]
    exact List.dropLast_concat_getLast hw
  have nd : (lf ++ (wt ++ lot)).Nodup := h.nd
  have nl : lf.Nodup := (List.nodup_append.mp nd).1
  obtain ⟨h1, h2, h3⟩ := foldl_fl1 (nb (wt.getLastD (0, 0))) (lf, wt.dropLast) nl
  generalize hr : (nb (wt.getLastD (0, 0))).foldl fl1 (lf, wt.dropLast) = r at *
  have e : fl2 nb (lf, wt, lot) = (r.1, r.2, lot ++ [wt.getLastD (0, 0)]) := by
    show (let h := wt.getLastD (0, 0); let r := (nb h).foldl fl1 (lf, wt.dropLast); (r.1, r.2, lot ++ [h])) = _
    dsimp only
    rw [hr]
  have pm : (r.1 ++ (r.2 ++ (lot ++ [wt.getLastD (0, 0)]))).Perm (lf ++ (wt ++ lot)) := by
    have p1 : (r.1 ++ (r.2 ++ (lot ++ [wt.getLastD (0, 0)]))).Perm ((lf ++ wt.dropLast) ++ (lot ++ [wt.getLastD (0, 0)])) := by
      rw [← List.append_assoc]
      exact List.Perm.append_right _ h1
    refine p1.trans ?_
    have p2 : (lot ++ [wt.getLastD (0, 0)]).Perm ([wt.getLastD (0, 0)] ++ lot) := List.perm_append_comm
    refine (List.Perm.append_left _ p2).trans ?_
    rw [List.append_assoc, ← List.append_assoc wt.dropLast, hd]
  rw [e]
  refine ⟨pm.nodup_iff.mpr nd, fun c => (pm.mem_iff).trans (h.mem c), fun x hx z hz hm => ?_⟩
  obtain ⟨a, b⟩ := h3 z hm
  rcases List.mem_append.mp hx with hx | hx
  · exact h.cl x hx z hz a
  · rw [List.mem_singleton.mp hx] at hz
    exact b hz
theorem wh_inv {ι : Type} {c : ι → Bool} {step : ι → ι} {I : ι → Prop} (h : ∀ s, I s → c s = true → I (step s)) : ∀ (n : Nat) (s : ι), I s → I (wh c step n s)
  | 0, s, hs => hs
  | n + 1, s, hs => by
    unfold wh
    split
    · next q => exact wh_inv h n _ (h s hs q)
    · exact hs
theorem wh_end {ι : Type} {c : ι → Bool} {step : ι → ι} (μ : ι → Nat) (h : ∀ s, c s = true → μ (step s) < μ s) : ∀ (n : Nat) (s : ι), μ s < n → c (wh c step n s) = false
  | 0, s, hs => absurd hs (Nat.not_lt_zero _)
  | n + 1, s, hs => by
    unfold wh
    by_cases q : c s = true
    · rw [if_pos q]
      have := h s q
      exact wh_end μ h n _ (by omega)
    · rw [if_neg q]; simpa using q
theorem flood_ok {nb : Cell → Pic} {left : Pic} {c : Cell} (hn : left.Nodup) (hc : c ∈ left) :
    ((flood nb left c).1 ++ (flood nb left c).2.2).Nodup ∧ (∀ d, d ∈ (flood nb left c).1 ++ (flood nb left c).2.2 ↔ d ∈ left) ∧ (∀ x ∈ (flood nb left c).2.2, ∀ z ∈ nb x, z ∉ (flood nb left c).1) := by
  have hf : (left.filter fun z => decide (z ≠ c)) = left.erase c := by
    rw [hn.erase_eq_filter]
    apply List.filter_congr
    intro d _
    simp [bne]
    rfl
  have h0 : FlI nb left (left.filter (fun z => decide (z ≠ c)), [c], []) := by
    have pm : ((left.filter (fun z => decide (z ≠ c))) ++ ([c] ++ [])).Perm left := by
      rw [hf]
      exact (List.perm_append_singleton c _).trans (List.perm_cons_erase hc).symm
    exact ⟨pm.nodup_iff.mpr hn, fun d => pm.mem_iff, fun x hx => by simp at hx⟩
  have hi : FlI nb left (flood nb left c) := wh_inv (fun s hs q => hs.step q) _ _ h0
  have he : flc (flood nb left c) = false := by
    refine wh_end (fun s => s.1.length + s.2.1.length) (fun s q => fl2_len nb s q) _ _ ?_
    show (left.filter _).length + 1 < left.length + 2
    have := List.length_filter_le (fun z => decide (z ≠ c)) left
    omega
  have hw : (flood nb left c).2.1 = [] := by simpa [flc] using he
  have h1 := hi.nd
  have h2 := hi.mem
  rw [hw, List.nil_append] at h1 h2
  exact ⟨h1, h2, hi.cl⟩

/-! ### the parts of a picture -/
/-- parts: apart from each other in pic, each all that it touches -/
structure Sep (nb : Cell → Pic) (parts : List Pic) (pic : Pic) : Prop where
  srt : ∀ q ∈ parts, Srt q
  mem : ∀ c, c ∈ pic ↔ ∃ q ∈ parts, c ∈ q
  cl : ∀ q ∈ parts, ∀ c ∈ q, ∀ z ∈ nb c, z ∈ pic → z ∈ q
  dis : parts.Pairwise fun p q => ∀ c ∈ p, c ∉ q
theorem Sep.len {nb : Cell → Pic} {parts : List Pic} {pic : Pic} (S : Sep nb parts pic) : parts.flatten.Nodup := by
  refine List.pairwise_flatten.mpr ⟨fun q hq => (S.srt q hq).nodup, S.dis.imp fun {p q} h => ?_⟩
  exact fun c hc d hd e => h c hc (e ▸ hd)
/-- between two parts: what is left, what is found -/
structure PtI (nb : Cell → Pic) (pic : Pic) (s : Pic × List Pic) : Prop where
  nd : s.1.Nodup
  sub : ∀ c ∈ s.1, c ∈ pic
  srt : ∀ q ∈ s.2, Srt q
  fsub : ∀ q ∈ s.2, ∀ c ∈ q, c ∈ pic
  all : ∀ c ∈ pic, c ∈ s.1 ∨ ∃ q ∈ s.2, c ∈ q
  apart : ∀ q ∈ s.2, ∀ c ∈ q, c ∉ s.1
  cl : ∀ q ∈ s.2, ∀ c ∈ q, ∀ z ∈ nb c, z ∈ pic → z ∈ q
  dis : s.2.Pairwise fun p q => ∀ c ∈ p, c ∉ q
theorem PtI.step {nb : Cell → Pic} (sym : ∀ c d, d ∈ nb c → c ∈ nb d) {pic : Pic} {s : Pic × List Pic} (h : PtI nb pic s) (c : Cell) : PtI nb pic (pt1 nb s c) ∧ c ∉ (pt1 nb s c).1 ∧ ∀ d ∈ (pt1 nb s c).1, d ∈ s.1 := by
  unfold pt1
  by_cases hc : c ∈ s.1
  · rw [if_pos hc]
    obtain ⟨f1, f2, f3⟩ := flood_ok (nb := nb) h.nd hc
    have fc : c ∉ (flood nb s.1 c).1 := by
      have hw : ∀ n (t : Fl), c ∉ t.1 → c ∉ (wh flc (fl2 nb) n t).1 := by
        intro n t ht
        refine wh_inv (I := fun t : Fl => c ∉ t.1) (fun t ht _ hm => ht ?_) n t ht
        have e : (fl2 nb t).1 = ((nb (t.2.1.getLastD (0, 0))).foldl fl1 (t.1, t.2.1.dropLast)).1 := rfl
        rw [e] at hm
        have key : ∀ (l : Pic) (u : Pic × Pic), c ∈ (l.foldl fl1 u).1 → c ∈ u.1 := by
          intro l
          induction l with
          | nil => intro u h; exact h
          | cons z l ih => intro u h; rw [List.foldl_cons] at h; exact fl1_sub u z c (ih _ h)
        exact key _ _ hm
      exact hw _ _ (by simp)
    have lmem : ∀ d ∈ (flood nb s.1 c).2.2, d ∈ s.1 := fun d hd => (f2 d).mp (List.mem_append_right _ hd)
    have rmem : ∀ d ∈ (flood nb s.1 c).1, d ∈ s.1 := fun d hd => (f2 d).mp (List.mem_append_left _ hd)
    have nl := (List.nodup_append.mp f1)
    refine ⟨⟨nl.1, fun d hd => h.sub d (rmem d hd), ?_, ?_, ?_, ?_, ?_, ?_⟩, fc, rmem⟩
    · intro q hq
      rcases List.mem_append.mp hq with hq | hq
      · exact h.srt q hq
      · rw [List.mem_singleton.mp hq]; exact sorted_srt nl.2.1
    · intro q hq d hd
      rcases List.mem_append.mp hq with hq | hq
      · exact h.fsub q hq d hd
      · rw [List.mem_singleton.mp hq] at hd
        exact h.sub d (lmem d (sorted_mem.mp hd))
    · intro d hd
      rcases h.all d hd with hd | ⟨q, hq, hd⟩
      · rcases List.mem_append.mp ((f2 d).mpr hd) with hd | hd
        · exact .inl hd
        · exact .inr ⟨_, List.mem_append_right _ (List.mem_singleton.mpr rfl), sorted_mem.mpr hd⟩
      · exact .inr ⟨q, List.mem_append_left _ hq, hd⟩
    · intro q hq d hd hl
      rcases List.mem_append.mp hq with hq | hq
      · exact h.apart q hq d hd (rmem d hl)
      · rw [List.mem_singleton.mp hq] at hd
        exact nl.2.2 d hl d (sorted_mem.mp hd) rfl
    · intro q hq d hd z hz hp
      rcases List.mem_append.mp hq with hq | hq
      · exact h.cl q hq d hd z hz hp
      · rw [List.mem_singleton.mp hq] at hd ⊢
        have hd' := sorted_mem.mp hd
        refine sorted_mem.mpr ?_
        rcases h.all z hp with hl | ⟨q', hq', hz'⟩
        · rcases List.mem_append.mp ((f2 z).mpr hl) with hl | hl
          · exact absurd hl (f3 d hd' z hz)
          · exact hl
        · exact absurd (lmem d hd') (h.apart q' hq' d (h.cl q' hq' z hz' d (sym d z hz) (h.sub d (lmem d hd'))))
    · refine List.pairwise_append.mpr ⟨h.dis, List.pairwise_singleton _ _, fun p hp q hq d hd he => ?_⟩
      rw [List.mem_singleton.mp hq] at he
      exact h.apart p hp d hd (lmem d (sorted_mem.mp he))
  · rw [if_neg hc]
    exact ⟨h, hc, fun d hd => hd⟩
theorem PtI.fold {nb : Cell → Pic} (sym : ∀ c d, d ∈ nb c → c ∈ nb d) {pic : Pic} : ∀ (l : Pic) (s : Pic × List Pic), PtI nb pic s → PtI nb pic (l.foldl (pt1 nb) s) ∧ (∀ c ∈ l, c ∉ (l.foldl (pt1 nb) s).1) ∧ ∀ d ∈ (l.foldl (pt1 nb) s).1, d ∈ s.1
  | [], s, h => ⟨h, by simp, fun d hd => hd⟩
  | c :: l, s, h => by
    obtain ⟨h1, h2, h3⟩ := h.step sym c
    obtain ⟨g1, g2, g3⟩ := PtI.fold sym l _ h1
    rw [List.foldl_cons]
    refine ⟨g1, fun d hd hm => ?_, fun d hd => h3 d (g3 d hd)⟩
    rcases List.mem_cons.mp hd with e | e
    · subst e; exact h2 (g3 d hm)
    · exact g2 d e hm
theorem parts_sep {nb : Cell → Pic} (sym : ∀ c d, d ∈ nb c → c ∈ nb d) (pic : Pic) : Sep nb (partsOf nb pic) pic := by
  have h0 : PtI nb pic (dd pic, []) := ⟨dd_nodup, fun c hc => dd_mem.mp hc, by simp, by simp, fun c hc => .inl (dd_mem.mpr hc), by simp, by simp, List.Pairwise.nil⟩
  obtain ⟨h1, h2, h3⟩ := PtI.fold sym (sorted pic) _ h0
  refine ⟨h1.srt, fun c => ⟨fun hc => ?_, fun ⟨q, hq, hc⟩ => h1.fsub q hq c hc⟩, h1.cl, h1.dis⟩
  rcases h1.all c hc with h | h
  · exact absurd h (h2 c (sorted_mem.mpr hc))
  · exact h
end Ab

namespace Ab
theorem codeIn_congr {p q : Pic} {c : Cell} (h : ∀ z ∈ near8 c, (z ∈ p ↔ z ∈ q)) : codeIn p c = codeIn q c := by
  unfold codeIn
  congr 1
  have key : ∀ (l : Pic) (s : Int × Int), (∀ z ∈ l, (z ∈ p ↔ z ∈ q)) → l.foldl (fun (s : Int × Int) z => (s.1 + (if z ∈ p then s.2 else 0), s.2 * 2)) s = l.foldl (fun (s : Int × Int) z => (s.1 + (if z ∈ q then s.2 else 0), s.2 * 2)) s := by
    intro l
    induction l with
    | nil => intro s _; rfl
    | cons z l ih =>
      intro s h
      rw [List.foldl_cons, List.foldl_cons]
      have e : (if z ∈ p then s.2 else 0) = (if z ∈ q then s.2 else 0) := by
        have := h z List.mem_cons_self
        by_cases hz : z ∈ p
        · rw [if_pos hz, if_pos (this.mp hz)]
        · rw [if_neg hz, if_neg fun g => hz (this.mpr g)]
      rw [e]
      exact ih _ fun y hy => h y (List.mem_cons_of_mem _ hy)
  exact key _ _ h
theorem Sep.code {parts : List Pic} {pic : Pic} (S : Sep near8 parts pic) {q : Pic} (hq : q ∈ parts) {c : Cell} (hc : c ∈ q) : codeIn q c = codeIn pic c :=
  codeIn_congr fun z hz => ⟨fun h => (S.mem z).mpr ⟨q, hq, h⟩, fun h => S.cl q hq c hc z hz h⟩
theorem Sep.strikes {parts : List Pic} {pic : Pic} (S : Sep near8 parts pic) (u : Rule) (p : Nat) {q : Pic} (hq : q ∈ parts) (c : Cell) : c ∈ strikesOf u p q ↔ c ∈ q ∧ c ∈ strikesOf u p pic := by
  unfold strikesOf
  rw [List.mem_filter, List.mem_filter]
  constructor
  · rintro ⟨h1, h2⟩
    exact ⟨h1, (S.mem c).mpr ⟨q, hq, h1⟩, by rw [← S.code hq h1]; exact h2⟩
  · rintro ⟨h1, _, h2⟩
    exact ⟨h1, by rw [S.code hq h1]; exact h2⟩
theorem mem_pass {u : Rule} {p : Nat} {pic : Pic} {c : Cell} : c ∈ passOf u p pic ↔ c ∈ pic ∧ c ∉ strikesOf u p pic := by
  unfold passOf without
  rw [List.mem_filter]
  simp
theorem Sep.pass {parts : List Pic} {pic : Pic} (S : Sep near8 parts pic) (u : Rule) (p : Nat) : Sep near8 (parts.map (passOf u p)) (passOf u p pic) := by
  refine ⟨fun q hq => ?_, fun c => ?_, fun q hq c hc z hz hp => ?_, ?_⟩
  · obtain ⟨q0, h0, rfl⟩ := List.mem_map.mp hq
    exact (S.srt q0 h0).sublist (passOf_sublist u p q0)
  · rw [mem_pass]
    constructor
    · rintro ⟨h1, h2⟩
      obtain ⟨q, hq, hc⟩ := (S.mem c).mp h1
      exact ⟨_, List.mem_map_of_mem hq, mem_pass.mpr ⟨hc, fun h => h2 ((S.strikes u p hq c).mp h).2⟩⟩
    · rintro ⟨q, hq, hc⟩
      obtain ⟨q0, h0, rfl⟩ := List.mem_map.mp hq
      obtain ⟨h1, h2⟩ := mem_pass.mp hc
      exact ⟨(S.mem c).mpr ⟨q0, h0, h1⟩, fun h => h2 ((S.strikes u p h0 c).mpr ⟨h1, h⟩)⟩
  · obtain ⟨q0, h0, rfl⟩ := List.mem_map.mp hq
    obtain ⟨h1, _⟩ := mem_pass.mp hc
    obtain ⟨h3, h4⟩ := mem_pass.mp hp
    exact mem_pass.mpr ⟨S.cl q0 h0 c h1 z hz h3, fun h => h4 ((S.strikes u p h0 z).mp h).2⟩
  · refine List.pairwise_map.mpr (S.dis.imp fun {a b} h c hc hd => ?_)
    exact h c (mem_pass.mp hc).1 (mem_pass.mp hd).1
theorem Sep.round {parts : List Pic} {pic : Pic} (S : Sep near8 parts pic) (u : Rule) : Sep near8 (parts.map (roundOf u)) (roundOf u pic) := by
  have key : ∀ (l : List Nat) (parts : List Pic) (pic : Pic), Sep near8 parts pic → Sep near8 (parts.map fun q => l.foldl (fun q p => passOf u p q) q) (l.foldl (fun q p => passOf u p q) pic) := by
    intro l
    induction l with
    | nil => intro parts pic S; simpa using S
    | cons p l ih =>
      intro parts pic S
      have := ih _ _ (S.pass u p)
      rw [List.map_map] at this
      exact this
  exact key _ _ _ S
/-- so many rounds -/
def it (u : Rule) : Nat → Pic → Pic
  | 0, p => p
  | n + 1, p => it u n (roundOf u p)
theorem it_succ (u : Rule) : ∀ (n : Nat) (p : Pic), it u (n + 1) p = roundOf u (it u n p)
  | 0, p => rfl
  | n + 1, p => it_succ u n (roundOf u p)
theorem Sep.iter {u : Rule} : ∀ (n : Nat) {parts : List Pic} {pic : Pic}, Sep near8 parts pic → Sep near8 (parts.map (Ab.it u n)) (Ab.it u n pic)
  | 0, parts, pic, S => by
    have : parts.map (Ab.it u 0) = parts := by rw [show Ab.it u 0 = id from rfl, List.map_id]
    rw [this]; exact S
  | n + 1, parts, pic, S => by
    have := Sep.iter (u := u) n (S.round u)
    rw [List.map_map] at this
    exact this
theorem it_stop {u : Rule} {p : Pic} (h : roundOf u p = p) : ∀ n, it u n p = p
  | 0 => rfl
  | n + 1 => by show it u n (roundOf u p) = p; rw [h]; exact it_stop h n
/-- the rounds are the first so many -/
theorem rounds_spec (u : Rule) (p : Pic) : (roundOf u (bonesOf u p) = bonesOf u p) ∧ bonesOf u p = it u (roundsOf u p).length p ∧ (∀ m, m < (roundsOf u p).length → roundOf u (it u m p) ≠ it u m p) ∧ ([p] ++ roundsOf u p)[(roundsOf u p).length]? = some (bonesOf u p) := by
  let I : List Pic × Pic × Pic → Prop := fun s => s.2.2 = roundOf u s.2.1 ∧ s.2.1 = it u s.1.length p ∧ s.2.1 = s.1.getLastD p ∧ (∀ m, m < s.1.length → roundOf u (it u m p) ≠ it u m p)
  have h0 : I ([], p, roundOf u p) := ⟨rfl, rfl, rfl, fun m hm => absurd hm (Nat.not_lt_zero _)⟩
  have hs : ∀ s, I s → rnc s = true → I (rn1 u s) := by
    rintro ⟨f, a, b⟩ ⟨h1, h2, h3, h4⟩ q
    have h1 : b = roundOf u a := h1
    have h2 : a = it u f.length p := h2
    have hne : b ≠ a := by simpa [rnc] using q
    refine ⟨rfl, ?_, ?_, ?_⟩
    · show b = it u (f ++ [b]).length p
      rw [List.length_append, List.length_singleton, it_succ, ← h2, h1]
    · show b = (f ++ [b]).getLastD p
      simp
    · intro m hm
      have hm : m < (f ++ [b]).length := hm
      rw [List.length_append, List.length_singleton] at hm
      by_cases e : m < f.length
      · exact h4 m e
      · have : m = f.length := by omega
        subst this
        rw [← h2, ← h1]
        exact hne
  have hi : I (wh rnc (rn1 u) (p.length + 2) ([], p, roundOf u p)) := wh_inv hs _ _ h0
  -- the loop has ended
  have he : rnc (wh rnc (rn1 u) (p.length + 2) ([], p, roundOf u p)) = false := by
    have key : ∀ (n : Nat) (s : List Pic × Pic × Pic), s.2.2 = roundOf u s.2.1 → s.2.1.length < n → rnc (wh rnc (rn1 u) n s) = false := by
      intro n
      induction n with
      | zero => intro s _ h; exact absurd h (Nat.not_lt_zero _)
      | succ n ih =>
        intro s h1 h2
        unfold wh
        by_cases q : rnc s = true
        · rw [if_pos q]
          refine ih _ rfl ?_
          show s.2.2.length < n
          have hsub : s.2.2.Sublist s.2.1 := h1 ▸ roundOf_sublist u s.2.1
          have hne : s.2.2 ≠ s.2.1 := by simpa [rnc] using q
          have hl : s.2.2.length < s.2.1.length := by
            rcases Nat.lt_or_ge s.2.2.length s.2.1.length with h | h
            · exact h
            · exact absurd (hsub.eq_of_length_le h) hne
          omega
        · rw [if_neg q]; simpa using q
    exact key _ _ rfl (by show p.length < p.length + 2; omega)
  generalize hW : wh rnc (rn1 u) (p.length + 2) ([], p, roundOf u p) = W at hi he
  have eW : roundsOf u p = W.1 := by unfold roundsOf; rw [hW]
  obtain ⟨f, a, b⟩ := W
  obtain ⟨h1, h2, h3, h4⟩ := hi
  have eb : bonesOf u p = a := by unfold bonesOf; rw [eW]; exact h3.symm
  have hba : b = a := by simpa [rnc] using he
  rw [eb, eW]
  refine ⟨?_, h2, h4, ?_⟩
  · exact (show b = roundOf u a from h1).symm.trans hba
  · have h3 : a = f.getLastD p := h3
    show ([p] ++ f)[f.length]? = some a
    rw [h3]
    cases f with
    | nil => rfl
    | cons x t =>
      rw [List.getLastD_cons, List.getLastD_eq_getLast?]
      show ((x :: t))[t.length]? = _
      cases t with
      | nil => rfl
      | cons y t =>
        rw [List.getLast?_eq_some_getLast (by simp)]
        simp [List.getLast_eq_getElem]
theorem bones_it {u : Rule} {p : Pic} {n : Nat} (h : p.length ≤ n) : bonesOf u p = it u n p := by
  obtain ⟨h1, h2, _, _⟩ := rounds_spec u p
  have hl : (roundsOf u p).length ≤ p.length := by
    have key : ∀ (m : Nat) (s : List Pic × Pic × Pic), s.2.2 = roundOf u s.2.1 → s.1.length + s.2.1.length ≤ p.length → (wh rnc (rn1 u) m s).1.length ≤ p.length := by
      intro m
      induction m with
      | zero => intro s _ h; show s.1.length ≤ _; omega
      | succ m ih =>
        intro s h1 h2
        unfold wh
        by_cases q : rnc s = true
        · rw [if_pos q]
          have hsub : s.2.2.Sublist s.2.1 := h1 ▸ roundOf_sublist u s.2.1
          have hne : s.2.2 ≠ s.2.1 := by simpa [rnc] using q
          have hl : s.2.2.length < s.2.1.length := by
            rcases Nat.lt_or_ge s.2.2.length s.2.1.length with h | h
            · exact h
            · exact absurd (hsub.eq_of_length_le h) hne
          refine ih _ rfl ?_
          show (s.1 ++ [s.2.2]).length + s.2.2.length ≤ p.length
          rw [List.length_append, List.length_singleton]
          omega
        · rw [if_neg q]; omega
    exact key _ _ rfl (by simp)
  obtain ⟨d, rfl⟩ : ∃ d, n = (roundsOf u p).length + d := ⟨n - (roundsOf u p).length, by omega⟩
  have add : ∀ (a b : Nat) (q : Pic), it u (a + b) q = it u b (it u a q) := by
    intro a
    induction a with
    | zero => intro b q; rw [Nat.zero_add]; rfl
    | succ a ih => intro b q; rw [Nat.succ_add]; exact ih b _
  rw [add, ← h2, it_stop h1]
end Ab

namespace Ab
theorem srt_filter {q pic : Pic} (h : Srt q) (g : Srt pic) (s : ∀ c ∈ q, c ∈ pic) : q = pic.filter fun c => decide (c ∈ q) :=
  srt_unique h (g.sublist List.filter_sublist) fun c => by
    rw [List.mem_filter, decide_eq_true_iff]
    exact ⟨fun hc => ⟨s c hc, hc⟩, fun hc => hc.2⟩
theorem srt_len {q pic : Pic} (h : Srt q) (g : Srt pic) (s : ∀ c ∈ q, c ∈ pic) : q.length ≤ pic.length := by
  rw [srt_filter h g s]
  exact List.length_filter_le _ _
theorem it_sublist (u : Rule) : ∀ (n : Nat) (p : Pic), (it u n p).Sublist p
  | 0, p => List.Sublist.refl _
  | n + 1, p => (it_sublist u n _).trans (roundOf_sublist u p)
theorem dis_eq {parts : List Pic} (h : parts.Pairwise fun p q => ∀ c ∈ p, c ∉ q) {p q : Pic} (hp : p ∈ parts) (hq : q ∈ parts) {c : Cell} (h1 : c ∈ p) (h2 : c ∈ q) : p = q := by
  induction parts with
  | nil => cases hp
  | cons a l ih =>
    obtain ⟨g1, g2⟩ := List.pairwise_cons.mp h
    rcases List.mem_cons.mp hp with e1 | e1
    · rcases List.mem_cons.mp hq with e2 | e2
      · rw [e1, e2]
      · subst e1; exact absurd h2 (g1 q e2 c h1)
    · rcases List.mem_cons.mp hq with e2 | e2
      · subst e2; exact absurd h1 (g1 p e1 c h2)
      · exact ih g2 e1 e2
section
variable {u : Rule} {parts : List Pic} {pic : Pic}
theorem told_flat (p : Nat) (parts : List Pic) : toldOf u p parts = parts.flatMap (strikesOf u p) := by
  have key : ∀ (l : List Pic) (t : Pic), l.foldl (fun t q => t ++ strikesOf u p q) t = t ++ l.flatMap (strikesOf u p) := by
    intro l
    induction l with
    | nil => intro t; simp
    | cons q l ih => intro t; rw [List.foldl_cons, ih, List.flatMap_cons, List.append_assoc]
  have := key parts []
  simpa [toldOf] using this
theorem Sep.told (S : Sep near8 parts pic) (hs : Srt pic) (p : Nat) : strikesOf u p pic = sorted (toldOf u p parts) := by
  have nd : (toldOf u p parts).Nodup := by
    rw [told_flat, List.flatMap]
    refine List.pairwise_flatten.mpr ⟨fun q hq => ?_, List.pairwise_map.mpr (S.dis.imp fun {a b} h => ?_)⟩
    · obtain ⟨q0, h0, rfl⟩ := List.mem_map.mp hq
      exact (S.srt q0 h0).nodup.filter _
    · intro c hc d hd e
      subst e
      exact h c (List.mem_filter.mp hc).1 (List.mem_filter.mp hd).1
  refine srt_unique (hs.sublist List.filter_sublist) (sorted_srt nd) fun c => ?_
  rw [sorted_mem, told_flat, List.mem_flatMap]
  constructor
  · intro h
    obtain ⟨q, hq, hc⟩ := (S.mem c).mp (List.mem_filter.mp h).1
    exact ⟨q, hq, (S.strikes u p hq c).mpr ⟨hc, h⟩⟩
  · rintro ⟨q, hq, hc⟩
    exact ((S.strikes u p hq c).mp hc).2
theorem end_fold : ∀ (l : List Pic) (s : Pic × Int), (∀ c, c ∈ (l.foldl (fun s q => (pictureOf (s.1 ++ bonesOf u q), max s.2 ((roundsOf u q).length : Int))) s).1 ↔ c ∈ s.1 ∨ ∃ q ∈ l, c ∈ bonesOf u q) ∧ (Srt s.1 → Srt (l.foldl (fun s q => (pictureOf (s.1 ++ bonesOf u q), max s.2 ((roundsOf u q).length : Int))) s).1) ∧
    (s.2 ≤ (l.foldl (fun s q => (pictureOf (s.1 ++ bonesOf u q), max s.2 ((roundsOf u q).length : Int))) s).2 ∧ (∀ q ∈ l, ((roundsOf u q).length : Int) ≤ (l.foldl (fun s q => (pictureOf (s.1 ++ bonesOf u q), max s.2 ((roundsOf u q).length : Int))) s).2) ∧
      ∀ k : Int, s.2 ≤ k → (∀ q ∈ l, ((roundsOf u q).length : Int) ≤ k) → (l.foldl (fun s q => (pictureOf (s.1 ++ bonesOf u q), max s.2 ((roundsOf u q).length : Int))) s).2 ≤ k)
  | [], s => by simp
  | q :: l, s => by
    obtain ⟨h1, h2, h3, h4, h5⟩ := end_fold l (pictureOf (s.1 ++ bonesOf u q), max s.2 ((roundsOf u q).length : Int))
    rw [List.foldl_cons]
    refine ⟨fun c => ?_, fun _ => h2 (pictureOf_srt _), ?_, ?_, fun k hk hq => ?_⟩
    · rw [h1 c]
      simp only [pictureOf_mem, List.mem_append, List.mem_cons]
      constructor
      · rintro ((h | h) | ⟨q', hq', h⟩)
        · exact .inl h
        · exact .inr ⟨q, .inl rfl, h⟩
        · exact .inr ⟨q', .inr hq', h⟩
      · rintro (h | ⟨q', rfl | hq', h⟩)
        · exact .inl (.inl h)
        · exact .inl (.inr h)
        · exact .inr ⟨q', hq', h⟩
    · have h3 : max s.2 ((roundsOf u q).length : Int) ≤ _ := h3
      omega
    · intro q' hq'
      rcases List.mem_cons.mp hq' with e | e
      · subst e
        have h3 : max s.2 ((roundsOf u q').length : Int) ≤ _ := h3
        omega
      · exact h4 q' e
    · refine h5 k ?_ fun q' hq' => hq q' (List.mem_cons_of_mem _ hq')
      show max s.2 ((roundsOf u q).length : Int) ≤ k
      have := hq q List.mem_cons_self
      omega
theorem Sep.sub (S : Sep near8 parts pic) {q : Pic} (hq : q ∈ parts) : ∀ c ∈ q, c ∈ pic := fun c hc => (S.mem c).mpr ⟨q, hq, hc⟩
theorem Sep.bones (S : Sep near8 parts pic) (hs : Srt pic) : bonesOf u pic = (endOf u parts).1 := by
  obtain ⟨h1, h2, _⟩ := end_fold (u := u) parts ([], 0)
  have eb : bonesOf u pic = it u pic.length pic := bones_it (Nat.le_refl _)
  refine srt_unique (by rw [eb]; exact hs.sublist (it_sublist u _ _)) (h2 List.Pairwise.nil) fun c => ?_
  have Si := Sep.iter (u := u) pic.length S
  have h1' : ∀ c, c ∈ (endOf u parts).1 ↔ c ∈ ([] : Pic) ∨ ∃ q ∈ parts, c ∈ bonesOf u q := h1
  rw [h1' c, eb, Si.mem c]
  constructor
  · rintro ⟨q, hq, hc⟩
    obtain ⟨q0, h0, rfl⟩ := List.mem_map.mp hq
    exact .inr ⟨q0, h0, by rw [bones_it (srt_len (S.srt q0 h0) hs (S.sub h0))]; exact hc⟩
  · rintro (h | ⟨q, hq, hc⟩)
    · exact absurd h (by simp)
    · exact ⟨_, List.mem_map_of_mem hq, by rw [← bones_it (srt_len (S.srt q hq) hs (S.sub hq))]; exact hc⟩
theorem Sep.many (S : Sep near8 parts pic) (hs : Srt pic) : ((roundsOf u pic).length : Int) = (endOf u parts).2 := by
  obtain ⟨_, _, h3, h4, h5⟩ := end_fold (u := u) parts ([], 0)
  obtain ⟨f1, f2, f3, _⟩ := rounds_spec u pic
  apply Int.le_antisymm
  · -- all parts stand still behind so many rounds
    have hM0 : (0 : Int) ≤ (endOf u parts).2 := h3
    let M := (endOf u parts).2.toNat
    have hM : (M : Int) = (endOf u parts).2 := Int.toNat_of_nonneg hM0
    have still : ∀ q ∈ parts, roundOf u (it u M q) = it u M q := fun q hq => by
      obtain ⟨g1, g2, _, _⟩ := rounds_spec u q
      have hl : (roundsOf u q).length ≤ M := by
        have := h4 q hq
        have h' : ((roundsOf u q).length : Int) ≤ (endOf u parts).2 := this
        omega
      obtain ⟨d, hd⟩ : ∃ d, M = (roundsOf u q).length + d := ⟨M - (roundsOf u q).length, by omega⟩
      have add : ∀ (a b : Nat) (q : Pic), it u (a + b) q = it u b (it u a q) := by
        intro a
        induction a with
        | zero => intro b q; rw [Nat.zero_add]; rfl
        | succ a ih => intro b q; rw [Nat.succ_add]; exact ih b _
      rw [hd, add, ← g2, it_stop g1, g1]
    have fixed : roundOf u (it u M pic) = it u M pic := by
      have Si := Sep.iter (u := u) M S
      refine srt_unique ((hs.sublist (it_sublist u _ _)).sublist (roundOf_sublist u _)) (hs.sublist (it_sublist u _ _)) fun c => ?_
      rw [(Si.round u).mem c, Si.mem c]
      constructor
      · rintro ⟨q, hq, hc⟩
        obtain ⟨q1, hq1, rfl⟩ := List.mem_map.mp hq
        exact ⟨q1, hq1, (roundOf_sublist u q1).subset hc⟩
      · rintro ⟨q, hq, hc⟩
        obtain ⟨q0, h0, rfl⟩ := List.mem_map.mp hq
        exact ⟨_, List.mem_map_of_mem (List.mem_map_of_mem h0), by rw [still q0 h0]; exact hc⟩
    rw [← hM]
    have : ¬ M < (roundsOf u pic).length := fun h => f3 M h fixed
    omega
  · refine h5 _ (by show (0 : Int) ≤ _; omega) fun q hq => ?_
    obtain ⟨g1, g2, g3, _⟩ := rounds_spec u q
    let K := (roundsOf u pic).length
    have fixed : roundOf u (it u K q) = it u K q := by
      have Si := Sep.iter (u := u) K S
      have fp : roundOf u (it u K pic) = it u K pic := by rw [← f2]; exact f1
      refine ((roundOf_sublist u (it u K q)).eq_of_length_le ?_)
      have hsq := (S.srt q hq).sublist (it_sublist u K q)
      refine srt_len hsq (hsq.sublist (roundOf_sublist u _)) fun c hc => ?_
      have hcp : c ∈ it u K pic := (Si.mem c).mpr ⟨_, List.mem_map_of_mem hq, hc⟩
      rw [← fp, (Si.round u).mem c] at hcp
      obtain ⟨q1, hq1, hc1⟩ := hcp
      obtain ⟨q2, hq2, rfl⟩ := List.mem_map.mp hq1
      obtain ⟨q3, hq3, rfl⟩ := List.mem_map.mp hq2
      have c3 : c ∈ q3 := (it_sublist u K q3).subset ((roundOf_sublist u _).subset hc1)
      have c0 : c ∈ q := (it_sublist u K q).subset hc
      rw [dis_eq S.dis hq hq3 c0 c3]
      exact hc1
    have : ¬ K < (roundsOf u q).length := fun h => g3 K h fixed
    show ((roundsOf u q).length : Int) ≤ (K : Int)
    omega
end

/-! ### moved pictures -/
theorem moved_mem {p : Pic} {dx dy : Int} {c : Cell} : c ∈ movedBy p dx dy ↔ (c.1 - dx, c.2 - dy) ∈ p := by
  unfold movedBy
  rw [List.mem_map]
  constructor
  · rintro ⟨a, ha, rfl⟩
    rw [show ((a.1 + dx, a.2 + dy).1 - dx, (a.1 + dx, a.2 + dy).2 - dy) = a from Prod.ext (by show a.1 + dx - dx = a.1; omega) (by show a.2 + dy - dy = a.2; omega)]
    exact ha
  · intro h
    exact ⟨_, h, Prod.ext (by show c.1 - dx + dx = c.1; omega) (by show c.2 - dy + dy = c.2; omega)⟩
theorem moved_srt {p : Pic} (h : Srt p) (dx dy : Int) : Srt (movedBy p dx dy) := by
  unfold movedBy
  refine List.pairwise_map.mpr (h.imp fun {a b} hab => ?_)
  unfold ltC at *
  show a.1 + dx < b.1 + dx ∨ (a.1 + dx = b.1 + dx ∧ a.2 + dy < b.2 + dy)
  omega
theorem moved_code (p : Pic) (dx dy : Int) (c : Cell) : codeIn (movedBy p dx dy) (c.1 + dx, c.2 + dy) = codeIn p c := by
  have m : ∀ z : Cell, ((z.1 + dx, z.2 + dy) ∈ movedBy p dx dy) = (z ∈ p) := fun z => by
    rw [moved_mem]
    rw [show ((z.1 + dx, z.2 + dy).1 - dx, (z.1 + dx, z.2 + dy).2 - dy) = z from Prod.ext (by show z.1 + dx - dx = z.1; omega) (by show z.2 + dy - dy = z.2; omega)]
  have e : near8 (c.1 + dx, c.2 + dy) = (near8 c).map fun z => (z.1 + dx, z.2 + dy) := by
    obtain ⟨a, b⟩ := c
    simp only [near8, List.map_cons, List.map_nil, List.cons.injEq, Prod.mk.injEq, and_true, true_and]
    refine ⟨?_, ?_⟩ <;> (try constructor) <;> omega
  unfold codeIn
  rw [e, List.foldl_map]
  simp only [m]
section
variable {u : Rule} (hu : u.Ok) (i j : Int)
include hu
theorem moved_no (c : Cell) : tableNo u (c.1 + u.a * i, c.2 + u.b * j) = tableNo u c := by
  unfold tableNo
  show (c.1 + u.a * i) % u.a * u.b + (c.2 + u.b * j) % u.b = _
  rw [Int.add_mul_emod_self_left, Int.add_mul_emod_self_left]
theorem moved_strikes (p : Nat) (pic : Pic) : strikesOf u p (movedBy pic (u.a * i) (u.b * j)) = movedBy (strikesOf u p pic) (u.a * i) (u.b * j) := by
  unfold strikesOf
  conv => lhs; arg 2; unfold movedBy
  rw [List.filter_map]
  unfold movedBy
  congr 1
  apply List.filter_congr
  intro c _
  show strikesCode u p (c.1 + u.a * i, c.2 + u.b * j) (codeIn (movedBy pic (u.a * i) (u.b * j)) (c.1 + u.a * i, c.2 + u.b * j)) = _
  rw [moved_code]
  unfold strikesCode tableAt
  rw [moved_no hu i j c]
theorem moved_pass (p : Nat) (pic : Pic) : passOf u p (movedBy pic (u.a * i) (u.b * j)) = movedBy (passOf u p pic) (u.a * i) (u.b * j) := by
  unfold passOf without
  rw [moved_strikes hu i j]
  conv => lhs; arg 2; unfold movedBy
  rw [List.filter_map]
  conv => rhs; unfold movedBy
  congr 1
  apply List.filter_congr
  intro c _
  show (!decide ((c.1 + u.a * i, c.2 + u.b * j) ∈ movedBy (strikesOf u p pic) (u.a * i) (u.b * j))) = _
  have m : ((c.1 + u.a * i, c.2 + u.b * j) ∈ movedBy (strikesOf u p pic) (u.a * i) (u.b * j)) ↔ (c ∈ strikesOf u p pic) := by
    rw [moved_mem]
    rw [show ((c.1 + u.a * i, c.2 + u.b * j).1 - u.a * i, (c.1 + u.a * i, c.2 + u.b * j).2 - u.b * j) = c from Prod.ext (by show c.1 + u.a * i - u.a * i = c.1; omega) (by show c.2 + u.b * j - u.b * j = c.2; omega)]
  rw [decide_eq_decide.mpr m]
theorem moved_round (pic : Pic) : roundOf u (movedBy pic (u.a * i) (u.b * j)) = movedBy (roundOf u pic) (u.a * i) (u.b * j) := by
  unfold roundOf
  generalize List.range u.c.length = l
  induction l generalizing pic with
  | nil => rfl
  | cons p l ih => rw [List.foldl_cons, List.foldl_cons, moved_pass hu i j, ih]
theorem moved_bones (pic : Pic) : bonesOf u (movedBy pic (u.a * i) (u.b * j)) = movedBy (bonesOf u pic) (u.a * i) (u.b * j) := by
  rw [bones_it (n := pic.length) (by unfold movedBy; rw [List.length_map]; exact Nat.le_refl _), bones_it (n := pic.length) (Nat.le_refl _)]
  have key : ∀ (n : Nat) (pic : Pic), it u n (movedBy pic (u.a * i) (u.b * j)) = movedBy (it u n pic) (u.a * i) (u.b * j) := by
    intro n
    induction n with
    | zero => intro pic; rfl
    | succ n ih => intro pic; show it u n (roundOf u _) = _; rw [moved_round hu i j, ih]; rfl
  exact key _ _
end
end Ab

namespace Ab
/-! ### drawn pictures, drawn rules -/
theorem dpr_form (x dense : Int) : ∀ (l : List Nat) (t : Pic × Src), ∃ ys : List Nat, ys.Sublist l ∧ (l.foldl (dpc x dense) t).1 = t.1 ++ ys.map fun y : Nat => (x, (y : Int))
  | [], t => ⟨[], List.Sublist.refl _, by simp⟩
  | k :: l, t => by
    obtain ⟨ys, h1, h2⟩ := dpr_form x dense l (dpc x dense t k)
    rw [List.foldl_cons, h2]
    unfold dpc
    dsimp only
    split
    · exact ⟨k :: ys, h1.cons_cons k, by simp⟩
    · exact ⟨ys, h1.cons k, rfl⟩
theorem dpr_mem {x dense : Int} {n : Nat} {s : Src} : (dpr x dense n s).1.Nodup ∧ ∀ c ∈ (dpr x dense n s).1, c.1 = x := by
  obtain ⟨ys, h1, h2⟩ := dpr_form x dense (List.range n) ([], s)
  unfold dpr
  rw [h2, List.nil_append]
  constructor
  · refine List.pairwise_map.mpr ((List.nodup_range.sublist h1).imp fun {a b} h e => h ?_)
    have := (Prod.mk.inj e).2
    omega
  · intro c hc
    obtain ⟨y, _, rfl⟩ := List.mem_map.mp hc
    rfl
theorem dpf_mem (dense : Int) (n : Nat) (s : Src) : ∀ k : Nat, ((List.range k).foldl (dpf dense n) ([], s)).1.Nodup ∧ ∀ c ∈ ((List.range k).foldl (dpf dense n) ([], s)).1, 0 ≤ c.1 ∧ c.1 < k
  | 0 => by simp
  | k + 1 => by
    obtain ⟨h1, h2⟩ := dpf_mem dense n s k
    rw [List.range_succ, List.foldl_append]
    generalize (List.range k).foldl (dpf dense n) ([], s) = t at *
    show (t.1 ++ (dpr k dense n t.2).1).Nodup ∧ ∀ c ∈ t.1 ++ (dpr k dense n t.2).1, 0 ≤ c.1 ∧ c.1 < ((k + 1 : Nat) : Int)
    obtain ⟨g1, g2⟩ := dpr_mem (x := (k : Int)) (dense := dense) (n := n) (s := t.2)
    refine ⟨List.nodup_append.mpr ⟨h1, g1, fun a ha b hb e => ?_⟩, fun c hc => ?_⟩
    · subst e
      have := h2 a ha
      have := g2 a hb
      omega
    · rcases List.mem_append.mp hc with hc | hc
      · have := h2 c hc; omega
      · have := g2 c hc; omega
theorem drawPic_ok (s : Src) {m : Int} (h1 : 1 ≤ m) (h2 : m < 300) : (drawPic s m).1.Nodup ∧ (∀ c ∈ (drawPic s m).1, 0 ≤ c.1 ∧ c.1 < m) ∧ ((drawPic s m).1.length : Int) ≤ m * m := by
  have ha := pick_b s h1
  have hb := pick_b (pickF s m).2 h1
  have hm := dpf_mem (([2, 3, 3, 5] : List Int).getD (pickF (pickF (pickF s m).2 m).2 4).1.toNat 2) (1 + (pickF (pickF s m).2 m).1).toNat (pickF (pickF (pickF s m).2 m).2 4).2 (1 + (pickF s m).1).toNat
  have h := dpf_len (([2, 3, 3, 5] : List Int).getD (pickF (pickF (pickF s m).2 m).2 4).1.toNat 2) (1 + (pickF (pickF s m).2 m).1).toNat (List.range (1 + (pickF s m).1).toNat) ([], (pickF (pickF (pickF s m).2 m).2 4).2)
  refine ⟨sorted_nodup hm.1, fun c hc => ?_, ?_⟩
  · have := hm.2 c (sorted_mem.mp hc)
    omega
  · show ((sorted _).length : Int) ≤ m * m
    rw [sorted_length]
    rw [List.length_range] at h
    simp only [List.length_nil, Nat.zero_add] at h
    have h3 : (1 + (pickF s m).1).toNat * (1 + (pickF (pickF s m).2 m).1).toNat ≤ m.toNat * m.toNat := Nat.mul_le_mul (by omega) (by omega)
    have h4 : ((m.toNat * m.toNat : Nat) : Int) = m * m := by rw [Int.natCast_mul, Int.toNat_of_nonneg (by omega)]
    rw [← h4]
    exact Int.ofNat_le.mpr (Nat.le_trans h h3)
theorem lawPic_ok (s : Src) : Srt (lawPic s) ∧ (lawPic s).length ≤ 25 := by
  obtain ⟨a1, a2, a3⟩ := drawPic_ok s (m := 3) (by decide) (by decide)
  obtain ⟨b1, b2, b3⟩ := drawPic_ok (drawPic s 3).2 (m := 4) (by decide) (by decide)
  have f1 : (farPic s).Nodup := List.pairwise_map.mpr (a1.imp fun {a b} h e => h (by
    have e1 := (Prod.mk.inj e).1
    have e2 := (Prod.mk.inj e).2
    exact Prod.ext (by omega) e2))
  constructor
  · refine sorted_srt (List.nodup_append.mpr ⟨b1, f1, fun a ha b hb e => ?_⟩)
    subst e
    have h1 := b2 a ha
    obtain ⟨c, hc, rfl⟩ := List.mem_map.mp hb
    have h2 := a2 c hc
    have h1 : 0 ≤ c.1 + 7 ∧ c.1 + 7 < 4 := h1
    omega
  · show (sorted _).length ≤ 25
    rw [sorted_length, List.length_append]
    have : (farPic s).length = (drawPic s 3).1.length := List.length_map _
    omega
theorem dr1_len : ∀ (l : List Nat) (t : List (List Int) × Src), (l.foldl dr1 t).1.length = t.1.length + l.length
  | [], t => rfl
  | k :: l, t => by rw [List.foldl_cons, dr1_len l]; simp [dr1]; omega
theorem dr2_ok (n : Nat) : ∀ (l : List Nat) (t : List (List (List Int)) × Src), (∀ x ∈ t.1, x.length = n) → (l.foldl (dr2 n) t).1.length = t.1.length + l.length ∧ ∀ x ∈ (l.foldl (dr2 n) t).1, x.length = n
  | [], t, h => ⟨rfl, h⟩
  | k :: l, t, h => by
    rw [List.foldl_cons]
    obtain ⟨h1, h2⟩ := dr2_ok n l (dr2 n t k) (by
      intro x hx
      rcases List.mem_append.mp hx with hx | hx
      · exact h x hx
      · rw [List.mem_singleton.mp hx, dr1_len]; simp)
    refine ⟨?_, h2⟩
    rw [h1]
    simp [dr2]
    omega
theorem drawRule_ok (s : Src) : (drawRule s).1.Ok ∧ 0 < (drawRule s).1.c.length := by
  have ha : 0 ≤ (pickF s 2).1 ∧ (pickF s 2).1 < 2 := pick_b s (by decide)
  have hb : 0 ≤ (pickF (pickF s 2).2 2).1 ∧ (pickF (pickF s 2).2 2).1 < 2 := pick_b _ (by decide)
  have hd : 0 ≤ (pickF (pickF (pickF s 2).2 2).2 2).1 ∧ (pickF (pickF (pickF s 2).2 2).2 2).1 < 2 := pick_b _ (by decide)
  obtain ⟨h1, h2⟩ := dr2_ok (((1 + (pickF s 2).1) * (1 + (pickF (pickF s 2).2 2).1)).toNat) (List.range (1 + (pickF (pickF (pickF s 2).2 2).2 2).1).toNat) ([], (pickF (pickF (pickF s 2).2 2).2 2).2) (by simp)
  rw [List.length_range] at h1
  have hl : (drawRule s).1.c.length = (1 + (pickF (pickF (pickF s 2).2 2).2 2).1).toNat := by
    have : (drawRule s).1.c.length = ([] : List (List (List Int))).length + (1 + (pickF (pickF (pickF s 2).2 2).2 2).1).toNat := h1
    simpa using this
  have nn : 0 ≤ (1 + (pickF s 2).1) * (1 + (pickF (pickF s 2).2 2).1) := Int.mul_nonneg (by omega) (by omega)
  refine ⟨⟨?_, ?_, fun t ht => ?_, ?_⟩, ?_⟩
  · show 0 < 1 + (pickF s 2).1 ∧ 1 + (pickF s 2).1 < 1000
    omega
  · show 0 < 1 + (pickF (pickF s 2).2 2).1 ∧ 1 + (pickF (pickF s 2).2 2).1 < 1000
    omega
  · rw [h2 t ht]
    show ((((1 + (pickF s 2).1) * (1 + (pickF (pickF s 2).2 2).1)).toNat : Nat) : Int) = (1 + (pickF s 2).1) * (1 + (pickF (pickF s 2).2 2).1)
    exact Int.toNat_of_nonneg nn
  · rw [hl]; omega
  · rw [hl]; omega
section
variable {u : Rule} (hu : u.Ok) (hA : u.a = 1)
include hu hA
theorem no_one (c : Cell) : tableNo u c = c.2 % u.b := by
  unfold tableNo
  rw [hA, Int.emod_one, Int.zero_mul, Int.zero_add]
theorem spots_two : spotsOf u 2 u.b = irange u.b ++ irange u.b := by
  have e : ∀ x : Int, (irange u.b).map (fun y => tableNo u (x, y)) = irange u.b := fun x => by
    conv => rhs; rw [← List.map_id (irange u.b)]
    apply List.map_congr_left
    intro y hy
    obtain ⟨h1, h2⟩ := irange_mem.mp hy
    rw [no_one hu hA]
    exact Int.emod_eq_of_lt h1 h2
  unfold spotsOf
  rw [show irange 2 = [0, 1] from rfl, List.flatMap_cons, List.flatMap_cons, List.flatMap_nil, List.append_nil, e, e]
theorem wide_at {p : Nat} (hp : p < u.c.length) (c : Cell) : tableAt (refinedBy u 2 u.b) p c = tableAt u p c := by
  have hb := hu.b
  have y1 := Int.emod_nonneg c.2 (show u.b ≠ 0 by omega)
  have y2 := Int.emod_lt_of_pos c.2 hb.1
  have x1 := Int.emod_nonneg c.1 (show (2 : Int) ≠ 0 by decide)
  have x2 := Int.emod_lt_of_pos c.1 (show (0 : Int) < 2 by decide)
  have en : tableNo (refinedBy u 2 u.b) c = c.1 % 2 * u.b + c.2 % u.b := rfl
  have ir : ∀ k : Nat, (k : Int) < u.b → (irange u.b)[k]? = some (k : Int) := fun k hk => by
    unfold irange
    rw [List.getElem?_map, List.getElem?_range (by omega)]
    rfl
  have hs : (spotsOf u 2 u.b)[(tableNo (refinedBy u 2 u.b) c).toNat]? = some (c.2 % u.b) := by
    rw [spots_two hu hA, en]
    have hl := irange_len u.b
    have key := ir (c.2 % u.b).toNat (by omega)
    rw [Int.toNat_of_nonneg y1] at key
    rcases (show c.1 % 2 = 0 ∨ c.1 % 2 = 1 by omega) with h | h
    · rw [h, Int.zero_mul, Int.zero_add, List.getElem?_append_left (by rw [hl]; omega)]
      exact key
    · rw [h, Int.one_mul, List.getElem?_append_right (by rw [hl]; omega), hl]
      rw [show (u.b + c.2 % u.b).toNat - u.b.toNat = (c.2 % u.b).toNat by omega]
      exact key
  have e1 : u.c[p]? = some u.c[p] := List.getElem?_eq_getElem hp
  have e2 : (refinedBy u 2 u.b).c[p]? = some ((spotsOf u 2 u.b).map fun i => (u.c[p]).getD i.toNat []) := by
    show (u.c.map _)[p]? = _
    rw [List.getElem?_map, e1]; rfl
  unfold tableAt
  simp only [List.getD_eq_getElem?_getD, e1, e2, Option.getD_some, List.getElem?_map, hs, Option.map_some, no_one hu hA]
theorem wide_strikes {p : Nat} (hp : p < u.c.length) (q : Pic) : strikesOf (refinedBy u 2 u.b) p q = strikesOf u p q := by
  unfold strikesOf strikesCode
  apply List.filter_congr
  intro c _
  rw [wide_at hu hA hp c]
theorem wide_ok : (refinedBy u 2 u.b).Ok ∧ (refinedBy u 2 u.b).c.length = u.c.length := by
  have hl : (refinedBy u 2 u.b).c.length = u.c.length := by unfold refinedBy; exact List.length_map _
  refine ⟨⟨⟨by show (0 : Int) < 2; decide, by show (2 : Int) < 1000; decide⟩, hu.b, fun t ht => ?_, by rw [hl]; exact hu.s⟩, hl⟩
  obtain ⟨t0, _, rfl⟩ := List.mem_map.mp ht
  rw [List.length_map, spots_two hu hA, List.length_append, irange_len]
  have := hu.b
  show ((u.b.toNat + u.b.toNat : Nat) : Int) = 2 * u.b
  omega
end
theorem law73 (ns : List Int) (s : Src) : Law73 (drawRule (opened ns)).1 (lawPic s) := by
  obtain ⟨hu, hc⟩ := drawRule_ok (opened ns)
  obtain ⟨hs, hl⟩ := lawPic_ok s
  have S : Sep near8 (piecesOf (lawPic s)) (lawPic s) := parts_sep (fun c d h => near8_symm h) _
  have hq : ∀ q ∈ piecesOf (lawPic s), q.length ≤ 25 := fun q hq => Nat.le_trans (srt_len (S.srt q hq) hs (S.sub hq)) hl
  have hp : (piecesOf (lawPic s)).length ≤ 25 := Nat.le_trans (partsOf_len near8 _) hl
  have tl : ∀ p (l : List Pic), (∀ q ∈ l, q ∈ piecesOf (lawPic s)) → l.length ≤ 25 → (toldOf (drawRule (opened ns)).1 p l).length < 1000000 := fun p l h1 h2 => by
    rw [told_flat]
    have : ∀ (l : List Pic), (∀ q ∈ l, q ∈ piecesOf (lawPic s)) → (l.flatMap (strikesOf (drawRule (opened ns)).1 p)).length ≤ l.length * 25 := by
      intro l
      induction l with
      | nil => intro _; simp
      | cons q l ih =>
        intro h
        rw [List.flatMap_cons, List.length_append, List.length_cons, Nat.succ_mul]
        have g1 := ih fun x hx => h x (List.mem_cons_of_mem _ hx)
        have g2 : (strikesOf (drawRule (opened ns)).1 p q).length ≤ q.length := List.length_filter_le _ _
        have g3 := hq q (h q List.mem_cons_self)
        omega
    have := this l h1
    omega
  have lens : ∀ i, ((piecesOf (lawPic s)).take i).length ≤ 25 := fun i => Nat.le_trans (List.length_take_le' _ _) hp
  refine ⟨by omega, by omega, fun q h => by have := hq q h; omega, hu, hc, fun p _ => ⟨tl p _ (fun q h => h) hp, S.told hs p⟩, fun p _ i => tl p _ (fun q h => List.mem_of_mem_take h) (lens i), fun i => ?_, S.bones hs, S.many hs, ?_, fun i j => (sorted_id (moved_srt hs _ _)).symm, fun i j => ?_, fun hA => wide_ok hu hA, fun hA p hp q => wide_strikes hu hA hp q⟩
  · obtain ⟨h1, h2, _⟩ := end_fold (u := (drawRule (opened ns)).1) ((piecesOf (lawPic s)).take i) ([], 0)
    have h3 : Srt (endOf (drawRule (opened ns)).1 ((piecesOf (lawPic s)).take i)).1 := h2 List.Pairwise.nil
    have h4 := srt_len h3 hs fun c hc => by
      rcases (h1 c).mp hc with h | ⟨q, hq', h⟩
      · exact absurd h (by simp)
      · rw [bones_it (Nat.le_refl _)] at h
        exact S.sub (List.mem_of_mem_take hq') c ((it_sublist _ _ _).subset h)
    omega
  · rw [← S.bones hs]
    exact (rounds_spec _ _).2.2.2
  · rw [moved_bones hu, S.bones hs]
end Ab

namespace Ab
open PySem PySem.Spec PyProof.Rows L2
open En (e)
/-- where a def stands, as the heap behind the top says it -/
structure Std (K : PySem.W.Frag) (x : Str) (st : Stmt) (f : Addr) : Prop where
  g : PySem.W.nsIn K mainGlobals x = some (some (.ref f))
  at_ : ∃ fd, Fun K x x st f fd
theorem Std.to {K : PySem.W.Frag} {h : Heap} {mg : Str → Option Value} {x : Str} {st : Stmt} {f : Addr} (X : K.In h) (G : h.Ns mainGlobals mg) (s : Std K x st f) : At K mg x st f := ⟨s.at_, PySem.W.mg_of X G s.g⟩
theorem all_mk {l : PySem.W.OpenLaw} {w : World} {K : PySem.W.Frag} {h : Heap} {mg : Str → Option Value} {fa f1 f2 f3 f4 f6 f7 f9 f10 f12 f13 f14 f16 f17 f18 f19 f20 f22 f23 f24 f25 f26 f27 f28 f29 f30 f31 f32 f33 f34 f35 f36 f37 f38 : Addr} (X : K.In h) (G : h.Ns mainGlobals mg) (hfa : mg "law" = some (.ref fa))
    (s1 : Std K "picture_of" (topS 1) f1)
    (s2 : Std K "near_cells" (topS 2) f2)
    (s3 : Std K "united" (topS 3) f3)
    (s4 : Std K "shifted" (topS 4) f4)
    (s6 : Std K "parts_of" (topS 6) f6)
    (s7 : Std K "pieces" (topS 7) f7)
    (s9 : Std K "code_at" (topS 9) f9)
    (s10 : Std K "struck" (topS 10) f10)
    (s12 : Std K "table_number" (topS 12) f12)
    (s13 : Std K "strikes_code" (topS 13) f13)
    (s14 : Std K "refined" (topS 14) f14)
    (s16 : Std K "strikes" (topS 16) f16)
    (s17 : Std K "pass_behind" (topS 17) f17)
    (s18 : Std K "round_behind" (topS 18) f18)
    (s19 : Std K "rounds_of" (topS 19) f19)
    (s20 : Std K "bones" (topS 20) f20)
    (s22 : Std K "_law_open_cells" (topS 22) f22)
    (s23 : Std K "_law_pick" (topS 23) f23)
    (s24 : Std K "_law_sides" (topS 24) f24)
    (s25 : Std K "_law_near" (topS 25) f25)
    (s26 : Std K "_law_parts_by" (topS 26) f26)
    (s27 : Std K "_law_pieces" (topS 27) f27)
    (s28 : Std K "_law_code" (topS 28) f28)
    (s29 : Std K "_law_round" (topS 29) f29)
    (s30 : Std K "_law_is_simple" (topS 30) f30)
    (s31 : Std K "_law_less" (topS 31) f31)
    (s32 : Std K "_law_draw_picture" (topS 32) f32)
    (s33 : Std K "_law_strikes" (topS 33) f33)
    (s34 : Std K "_law_round_behind" (topS 34) f34)
    (s35 : Std K "_law_rounds" (topS 35) f35)
    (s36 : Std K "_law_draw_table" (topS 36) f36)
    (s37 : Std K "_law_draw_rule" (topS 37) f37)
    {od an : Option Addr} {sl : Array (Option Value)} {oc kV dc pm cd ct : Value} (a38 : PySem.W.nsIn K mainGlobals "law" = some (some (.ref f38))) (l38 : K.lookup f38 = some ⟨oc, od, .func (PySem.W.fnOf "law" "law" (defArgs (topS 38)) (defBody (topS 38)) (defScope (topS 38)) .none kV dc pm an cd ct), sl⟩) (c38 : PySem.W.codeIn K cd "law" = true) (k38 : PySem.W.keepIn K (.ref f38) = true)
    (zlen : PySem.W.nsIn K mainGlobals "len" = some none) (ztuple : PySem.W.nsIn K mainGlobals "tuple" = some none) (zlist : PySem.W.nsIn K mainGlobals "list" = some none) (zint : PySem.W.nsIn K mainGlobals "int" = some none) (zabs : PySem.W.nsIn K mainGlobals "abs" = some none) (zmax : PySem.W.nsIn K mainGlobals "max" = some none) (zsorted : PySem.W.nsIn K mainGlobals "sorted" = some none) (zdict : PySem.W.nsIn K mainGlobals "dict" = some none) (zany : PySem.W.nsIn K mainGlobals "any" = some none) (zrange : PySem.W.nsIn K mainGlobals "range" = some none) (zset : PySem.W.nsIn K mainGlobals "set" = some none) :
    ∃ fd : FuncData, (∀ (s : Shared) (v : Value), BindsTo s fd ⟨[v], []⟩ [("_law_script", v)]) ∧ ∀ base : Heap, K.In base → base.Ns mainGlobals mg → FnOk l.prog w K mg base CX0 8 fa fd ["_law_script"] (spP l.prog w K SLaw) := by
  have e := hfa.symm.trans (PySem.W.mg_of X G a38)
  cases e
  have F := fun_mk (st := topS 38) l38 c38 k38
  have B : Bt mg := ⟨PySem.W.mg_none_of X G zlen, PySem.W.mg_none_of X G ztuple, PySem.W.mg_none_of X G zlist, PySem.W.mg_none_of X G zint, PySem.W.mg_none_of X G zabs, PySem.W.mg_none_of X G zmax, PySem.W.mg_none_of X G zsorted, PySem.W.mg_none_of X G zdict, PySem.W.mg_none_of X G zany, PySem.W.mg_none_of X G zrange, PySem.W.mg_none_of X G zset⟩
  refine ⟨PySem.W.fnOf "law" "law" (defArgs (topS 38)) (defBody (topS 38)) (defScope (topS 38)) .none kV dc pm an cd ct, fun s v => .of_eq rfl, fun base _ _ => ?_⟩
  have g2 := near_cells_ok (P := l.prog) (W := w) (base := base) (s2.to X G)
  have g1 := picture_of_ok (P := l.prog) (W := w) (base := base) B (s1.to X G)
  have g3 := united_ok (P := l.prog) (W := w) (base := base) (s3.to X G) g1
  have g4 := shifted_ok (P := l.prog) (W := w) (base := base) B (s4.to X G)
  have g6 := parts_of_ok (P := l.prog) (W := w) (base := base) B (s6.to X G) g2
  have g7 := pieces_ok (P := l.prog) (W := w) (base := base) (s7.to X G) g6 g2
  have g9 := code_at_ok (P := l.prog) (W := w) (base := base) (s9.to X G) g2
  have g10 := struck_ok (P := l.prog) (W := w) (base := base) B (s10.to X G)
  have g12 := table_number_ok (P := l.prog) (W := w) (base := base) (s12.to X G)
  have g13 := strikes_code_ok (P := l.prog) (W := w) (base := base) (s13.to X G) g12
  have g14 := refined_ok (P := l.prog) (W := w) (base := base) B (s14.to X G) g12
  have g16 := strikes_ok (P := l.prog) (W := w) (base := base) B (s16.to X G) g13 g9
  have g17 := pass_behind_ok (P := l.prog) (W := w) (base := base) (s17.to X G) g16 g10
  have g18 := round_behind_ok (P := l.prog) (W := w) (base := base) B (s18.to X G) g17
  have g19 := rounds_of_ok (P := l.prog) (W := w) (base := base) B (s19.to X G) g18
  have g20 := bones_ok (P := l.prog) (W := w) (base := base) (s20.to X G) g19
  have g22 := open_ok (P := l.prog) (W := w) (base := base) B (s22.to X G)
  have g23 := pick_ok (P := l.prog) (W := w) (base := base) B (s23.to X G)
  have g24 := sides_ok (P := l.prog) (W := w) (base := base) (s24.to X G)
  have g25 := near_ok (P := l.prog) (W := w) (base := base) (s25.to X G)
  have g26 := parts_by_ok (P := l.prog) (W := w) (base := base) B (s26.to X G) g25 g24
  have g27 := lpieces_ok (P := l.prog) (W := w) (base := base) (s27.to X G) g26
  have g28 := lcode_ok (P := l.prog) (W := w) (base := base) B (s28.to X G) g25
  have g29 := round_ok (P := l.prog) (W := w) (base := base) B (s29.to X G) g25
  have g30 := simple_ok (P := l.prog) (W := w) (base := base) B (s30.to X G) g25 g24 g26 g29
  have g31 := less_ok (P := l.prog) (W := w) (base := base) B (s31.to X G)
  have g32 := drawpic_ok (P := l.prog) (W := w) (base := base) B (s32.to X G) g23
  have g33 := lstrikes_ok (P := l.prog) (W := w) (base := base) B (s33.to X G) g28
  have g34 := lround_ok (P := l.prog) (W := w) (base := base) B (s34.to X G) g33 g31
  have g35 := lrounds_ok (P := l.prog) (W := w) (base := base) B (s35.to X G) g34
  have g36 := drawtable_ok (P := l.prog) (W := w) (base := base) B (s36.to X G) g23 g29 g30
  have g37 := drawrule_ok (P := l.prog) (W := w) (base := base) B (s37.to X G) g23 g36
  exact lawmain_ok B (fun ns _ s => law73 ns s) F g22 g37 g32 g23 g27 g35 g33 g31 g7 g19 g16 g3 g20 g4 g14 g17
end Ab
open PySem PySem.W PyProof.Rows
set_option maxHeartbeats 0 in
theorem PySem.Challenge.cw_boneways_k73_whole_pieces_by_themselves_holds : PySem.Challenge.rw_boneways_k73_whole_pieces_by_themselves.Holds := by
  w_on; o_law; k_head; (case hw => w_witness2)
  k_fill
  refine L2.walk_of (l := PySem.Challenge.rw_boneways_k73_whole_pieces_by_themselves) (n := 63) (k := 8) (x := "_law_script") (CX := fun _ => L2.CX0) (sp := fun w => Ab.spP PySem.Challenge.rw_boneways_k73_whole_pieces_by_themselves.prog w _ Ab.SLaw) rfl (by decide) rfl ⟨rfl, by decide, by decide⟩ (fun w h Y => PySem.W.kIn_of Y) ?F (fun _ _ a ns hl _ hS => Ab.law_end hl hS) (fun _ _ _ _ _ h => h)
  case F =>
    intro w mg fa h KX G hmg
    refine' Ab.all_mk KX G hmg ⟨?a1, _, L2.fun_mk ?l1 ?c1 ?k1⟩ ⟨?a2, _, L2.fun_mk ?l2 ?c2 ?k2⟩ ⟨?a3, _, L2.fun_mk ?l3 ?c3 ?k3⟩ ⟨?a4, _, L2.fun_mk ?l4 ?c4 ?k4⟩ ⟨?a6, _, L2.fun_mk ?l6 ?c6 ?k6⟩ ⟨?a7, _, L2.fun_mk ?l7 ?c7 ?k7⟩ ⟨?a9, _, L2.fun_mk ?l9 ?c9 ?k9⟩ ⟨?a10, _, L2.fun_mk ?l10 ?c10 ?k10⟩ ⟨?a12, _, L2.fun_mk ?l12 ?c12 ?k12⟩ ⟨?a13, _, L2.fun_mk ?l13 ?c13 ?k13⟩ ⟨?a14, _, L2.fun_mk ?l14 ?c14 ?k14⟩ ⟨?a16, _, L2.fun_mk ?l16 ?c16 ?k16⟩ ⟨?a17, _, L2.fun_mk ?l17 ?c17 ?k17⟩ ⟨?a18, _, L2.fun_mk ?l18 ?c18 ?k18⟩ ⟨?a19, _, L2.fun_mk ?l19 ?c19 ?k19⟩ ⟨?a20, _, L2.fun_mk ?l20 ?c20 ?k20⟩ ⟨?a22, _, L2.fun_mk ?l22 ?c22 ?k22⟩ ⟨?a23, _, L2.fun_mk ?l23 ?c23 ?k23⟩ ⟨?a24, _, L2.fun_mk ?l24 ?c24 ?k24⟩ ⟨?a25, _, L2.fun_mk ?l25 ?c25 ?k25⟩ ⟨?a26, _, L2.fun_mk ?l26 ?c26 ?k26⟩ ⟨?a27, _, L2.fun_mk ?l27 ?c27 ?k27⟩ ⟨?a28, _, L2.fun_mk ?l28 ?c28 ?k28⟩ ⟨?a29, _, L2.fun_mk ?l29 ?c29 ?k29⟩ ⟨?a30, _, L2.fun_mk ?l30 ?c30 ?k30⟩ ⟨?a31, _, L2.fun_mk ?l31 ?c31 ?k31⟩ ⟨?a32, _, L2.fun_mk ?l32 ?c32 ?k32⟩ ⟨?a33, _, L2.fun_mk ?l33 ?c33 ?k33⟩ ⟨?a34, _, L2.fun_mk ?l34 ?c34 ?k34⟩ ⟨?a35, _, L2.fun_mk ?l35 ?c35 ?k35⟩ ⟨?a36, _, L2.fun_mk ?l36 ?c36 ?k36⟩ ⟨?a37, _, L2.fun_mk ?l37 ?c37 ?k37⟩ ?a38 ?l38 ?c38 ?k38 ?zlen ?ztuple ?zlist ?zint ?zabs ?zmax ?zsorted ?zdict ?zany ?zrange ?zset
    (case a1 => k_is); (case l1 => k_is); (case c1 => k_is); (case k1 => k_is)
    (case a2 => k_is); (case l2 => k_is); (case c2 => k_is); (case k2 => k_is)
    (case a3 => k_is); (case l3 => k_is); (case c3 => k_is); (case k3 => k_is)
    (case a4 => k_is); (case l4 => k_is); (case c4 => k_is); (case k4 => k_is)
    (case a6 => k_is); (case l6 => k_is); (case c6 => k_is); (case k6 => k_is)
    (case a7 => k_is); (case l7 => k_is); (case c7 => k_is); (case k7 => k_is)
    (case a9 => k_is); (case l9 => k_is); (case c9 => k_is); (case k9 => k_is)
    (case a10 => k_is); (case l10 => k_is); (case c10 => k_is); (case k10 => k_is)
    (case a12 => k_is); (case l12 => k_is); (case c12 => k_is); (case k12 => k_is)
    (case a13 => k_is); (case l13 => k_is); (case c13 => k_is); (case k13 => k_is)
    (case a14 => k_is); (case l14 => k_is); (case c14 => k_is); (case k14 => k_is)
    (case a16 => k_is); (case l16 => k_is); (case c16 => k_is); (case k16 => k_is)
    (case a17 => k_is); (case l17 => k_is); (case c17 => k_is); (case k17 => k_is)
    (case a18 => k_is); (case l18 => k_is); (case c18 => k_is); (case k18 => k_is)
    (case a19 => k_is); (case l19 => k_is); (case c19 => k_is); (case k19 => k_is)
    (case a20 => k_is); (case l20 => k_is); (case c20 => k_is); (case k20 => k_is)
    (case a22 => k_is); (case l22 => k_is); (case c22 => k_is); (case k22 => k_is)
    (case a23 => k_is); (case l23 => k_is); (case c23 => k_is); (case k23 => k_is)
    (case a24 => k_is); (case l24 => k_is); (case c24 => k_is); (case k24 => k_is)
    (case a25 => k_is); (case l25 => k_is); (case c25 => k_is); (case k25 => k_is)
    (case a26 => k_is); (case l26 => k_is); (case c26 => k_is); (case k26 => k_is)
    (case a27 => k_is); (case l27 => k_is); (case c27 => k_is); (case k27 => k_is)
    (case a28 => k_is); (case l28 => k_is); (case c28 => k_is); (case k28 => k_is)
    (case a29 => k_is); (case l29 => k_is); (case c29 => k_is); (case k29 => k_is)
    (case a30 => k_is); (case l30 => k_is); (case c30 => k_is); (case k30 => k_is)
    (case a31 => k_is); (case l31 => k_is); (case c31 => k_is); (case k31 => k_is)
    (case a32 => k_is); (case l32 => k_is); (case c32 => k_is); (case k32 => k_is)
    (case a33 => k_is); (case l33 => k_is); (case c33 => k_is); (case k33 => k_is)
    (case a34 => k_is); (case l34 => k_is); (case c34 => k_is); (case k34 => k_is)
    (case a35 => k_is); (case l35 => k_is); (case c35 => k_is); (case k35 => k_is)
    (case a36 => k_is); (case l36 => k_is); (case c36 => k_is); (case k36 => k_is)
    (case a37 => k_is); (case l37 => k_is); (case c37 => k_is); (case k37 => k_is)
    (case a38 => k_is); (case l38 => k_is); (case c38 => k_is); (case k38 => k_is)
    (case zlen => k_is); (case ztuple => k_is); (case zlist => k_is); (case zint => k_is); (case zabs => k_is); (case zmax => k_is); (case zsorted => k_is); (case zdict => k_is); (case zany => k_is); (case zrange => k_is); (case zset => k_is)

