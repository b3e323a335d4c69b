import PyProof.Rows.All
import Wide.All
import OpenK.AllK
import Wide.FinOn
import HandS.ForMost
import HandS.ForExc
import KE.KDictKeyed
import HandS.CallSlots
import HandS.Wide
import HandS.WideBits
import HandS.TupAny
import HandS.Deep
import HandS.IsInst
import HandS.StrMore
import HandS.Zip
import HandS.Rev
import HandS.RevTup
import HandS.More
import HandS.SetFor
import HandS.SortInts
import HandS.Conv
import HandS.EndBits
import HandS.Defaults
import HandS.Dict
import HandS.ExcOwn
import HandS.ExcIs
import HandS.HotCalls
import HandS.TryElse
import PySem.Challenge.RW_samewise_k14_sizes_and_trees
set_option Elab.async false
section
set_option linter.all false
set_option maxRecDepth 100000
namespace FL
open PySem PySem.Spec PyProof.Rows L2

/-! ## values, stores -/
structure Ca where
  /-- the classes and defs by their names -/
  f : String → Addr
  /-- the world -/
  w : World
  /-- the exception that is handled: where it stands, its class -/
  ex : Option (Addr × String)
instance : CoeFun Ca (fun _ => String → Addr) := ⟨Ca.f⟩
inductive PV where
  | exc (c : String)
  | non | bl (b : Bool) | int (i : Int) | str (x : Str) | ty (n : String) | cls (n : String)
  | ref (n : Nat) | tup (xs : List PV) | frz (xs : List PV)
structure Ex where
  c : String
  val : Option (Str × PV)
inductive PO where
  | lst (xs : List PV) | dK (kvs : List (Key × PV)) | dN (kvs : List (NestedKey × PV)) | ins (c : String) (fs : List (Str × PV))
abbrev Store := List PO
abbrev Env := List (Option PV)
inductive R (α : Type) where
  | ok (a : α) (st : Store) | er (x : Ex) (st : Store) | no
def R.bind {α β : Type} (r : R α) (g : α → Store → R β) : R β :=
  match r with
  | .ok a s => g a s
  | .er x s => .er x s
  | .no => .no
/-- what a value-level deed gives -/
abbrev O (α : Type) := Option (α × Store)
def R.of {α : Type} : O α → R α
  | some (a, s) => .ok a s
  | none => .no
inductive RS where
  | nx (e : Env) (st : Store) | rt (v : PV) (st : Store) | bk (e : Env) (st : Store) | ct (e : Env) (st : Store) | er (x : Ex) (e : Env) (st : Store) | no
abbrev FE := Env → Store → R PV
abbrev FT := Env → Store → R Bool
abbrev FA := Env → Store → R (List PV)
abbrev FS := Env → Store → RS
abbrev Fn := List PV → Store → R PV

/-! ## the relation -/
def RoL (K : PySem.W.Frag) (H : Hp) (a : Addr) (xs : List V) : Prop :=
  (∃ o, H a = some (.frz o (.lst xs))) ∨
    ∃ (o : Obj) (its : Array Value) (n : Nat), K.lookup a = some o ∧ o.cls = .type "list" ∧ o.dict = none ∧ o.data = .seq its n ∧ its.size ≤ sizeLine ∧ Vals xs its.toList
theorem RoL.sq {K : PySem.W.Frag} {H : Hp} {a : Addr} {xs : List V} (h : RoL K H a xs) : SqL K H a xs := by
  rcases h with ⟨o, h⟩ | h
  · exact .inl (.inr ⟨o, h⟩)
  · exact .inr h

mutual
inductive VR (K : PySem.W.Frag) (ca : Ca) (H : Hp) (m : List Addr) : PV → V → Prop
  | non : VR K ca H m .non .non
  | bl (b : Bool) : VR K ca H m (.bl b) (.bl b)
  | int (i : Int) : VR K ca H m (.int i) (.int i)
  | str (x : Str) : VR K ca H m (.str x) (.str x)
  | ty (n : String) : VR K ca H m (.ty n) (.ty n)
  | cls (n : String) : VR K ca H m (.cls n) (.ref (ca n))
  | exc {c : String} {a : Addr} (h : ca.ex = some (a, c)) : VR K ca H m (.exc c) (.ref a)
  | ref {n : Nat} {a : Addr} (h : m[n]? = some a) : VR K ca H m (.ref n) (.ref a)
  | tup {xs : List PV} {a : Addr} {vs : List V} (h : SqT K H a vs) (r : VRs K ca H m xs vs) : VR K ca H m (.tup xs) (.ref a)
  | frz {xs : List PV} {a : Addr} {vs : List V} (h : RoL K H a vs) (r : VRs K ca H m xs vs) : VR K ca H m (.frz xs) (.ref a)
inductive VRs (K : PySem.W.Frag) (ca : Ca) (H : Hp) (m : List Addr) : List PV → List V → Prop
  | nil : VRs K ca H m [] []
  | cons {x : PV} {v : V} {xs : List PV} {vs : List V} (h : VR K ca H m x v) (r : VRs K ca H m xs vs) : VRs K ca H m (x :: xs) (v :: vs)
end
structure Keep (K : PySem.W.Frag) (H H' : Hp) : Prop where
  t : ∀ a xs, SqT K H a xs → SqT K H' a xs
  f : ∀ a xs, RoL K H a xs → RoL K H' a xs
section
variable {K : PySem.W.Frag} {ca : Ca} {H H' H'' : Hp} {m m' m'' : List Addr}
theorem Keep.refl : Keep K H H := ⟨fun _ _ h => h, fun _ _ h => h⟩
theorem Keep.trans (a : Keep K H H') (b : Keep K H' H'') : Keep K H H'' := ⟨fun x y h => b.t x y (a.t x y h), fun x y h => b.f x y (a.f x y h)⟩
theorem pre_get {i : Nat} {a : Addr} (p : m <+: m') (h : m[i]? = some a) : m'[i]? = some a := by
  obtain ⟨l, rfl⟩ := p
  have hi : i < m.length := (List.getElem?_eq_some_iff.mp h).1
  rw [List.getElem?_append_left hi]
  exact h
mutual
theorem VR.mono (p : m <+: m') (k : Keep K H H') : ∀ {x : PV} {v : V}, VR K ca H m x v → VR K ca H' m' x v
  | _, _, .non => .non
  | _, _, .bl b => .bl b
  | _, _, .int i => .int i
  | _, _, .str x => .str x
  | _, _, .ty n => .ty n
  | _, _, .cls n => .cls n
  | _, _, .exc h => .exc h
  | _, _, .ref h => .ref (pre_get p h)
  | _, _, .tup h r => .tup (k.t _ _ h) (VRs.mono p k r)
  | _, _, .frz h r => .frz (k.f _ _ h) (VRs.mono p k r)
theorem VRs.mono (p : m <+: m') (k : Keep K H H') : ∀ {xs : List PV} {vs : List V}, VRs K ca H m xs vs → VRs K ca H' m' xs vs
  | _, _, .nil => .nil
  | _, _, .cons h r => .cons (VR.mono p k h) (VRs.mono p k r)
end
theorem VRs.length : ∀ {xs : List PV} {vs : List V}, VRs K ca H m xs vs → xs.length = vs.length
  | _, _, .nil => rfl
  | _, _, .cons _ r => by rw [List.length_cons, List.length_cons, VRs.length r]
theorem VRs.get : ∀ {xs : List PV} {vs : List V} {i : Nat} {x : PV}, VRs K ca H m xs vs → xs[i]? = some x → ∃ v, vs[i]? = some v ∧ VR K ca H m x v
  | _, _, _, _, .nil, e => by simp at e
  | _, _, 0, _, .cons h _, e => by simp at e; subst e; exact ⟨_, rfl, h⟩
  | _, _, i + 1, x, .cons _ r, e => by
    obtain ⟨v, h1, h2⟩ := VRs.get (i := i) (x := x) r (by simpa using e)
    exact ⟨v, by simpa using h1, h2⟩
theorem VRs.get' : ∀ {xs : List PV} {vs : List V} {i : Nat} {v : V}, VRs K ca H m xs vs → vs[i]? = some v → ∃ x, xs[i]? = some x ∧ VR K ca H m x v
  | _, _, _, _, .nil, e => by simp at e
  | _, _, 0, _, .cons h _, e => by simp at e; subst e; exact ⟨_, rfl, h⟩
  | _, _, i + 1, v, .cons _ r, e => by
    obtain ⟨x, h1, h2⟩ := VRs.get' (i := i) (v := v) r (by simpa using e)
    exact ⟨x, by simpa using h1, h2⟩
theorem VRs.append : ∀ {xs ys : List PV} {vs ws : List V}, VRs K ca H m xs vs → VRs K ca H m ys ws → VRs K ca H m (xs ++ ys) (vs ++ ws)
  | _, _, _, _, .nil, s => s
  | _, _, _, _, .cons h r, s => .cons h (VRs.append r s)
theorem VRs.take : ∀ {xs : List PV} {vs : List V} (n : Nat), VRs K ca H m xs vs → VRs K ca H m (xs.take n) (vs.take n)
  | _, _, 0, _ => .nil
  | _, _, _ + 1, .nil => .nil
  | _, _, n + 1, .cons h r => .cons h (VRs.take n r)
theorem VRs.drop : ∀ {xs : List PV} {vs : List V} (n : Nat), VRs K ca H m xs vs → VRs K ca H m (xs.drop n) (vs.drop n)
  | _, _, 0, r => r
  | _, _, _ + 1, .nil => .nil
  | _, _, n + 1, .cons _ r => VRs.drop n r
theorem VRs.set {x : PV} {v : V} (h : VR K ca H m x v) : ∀ {xs : List PV} {vs : List V} (i : Nat), VRs K ca H m xs vs → VRs K ca H m (xs.set i x) (vs.set i v)
  | _, _, _, .nil => .nil
  | _, _, 0, .cons _ t => .cons h t
  | _, _, i + 1, .cons q t => .cons q (VRs.set h i t)
theorem VRs.rev {xs : List PV} {vs : List V} (h : VRs K ca H m xs vs) : VRs K ca H m xs.reverse vs.reverse := by
  induction xs generalizing vs with
  | nil => cases h; exact .nil
  | cons x xs ih =>
    cases h with
    | cons h r =>
      rw [List.reverse_cons, List.reverse_cons]
      exact (ih r).append (.cons h .nil)
theorem VRs.ints : ∀ (ns : List Int), VRs K ca H m (ns.map PV.int) (ns.map V.int)
  | [] => .nil
  | n :: r => .cons (.int n) (VRs.ints r)

/-- a key of nested tuples, as a value -/
inductive NkV (K : PySem.W.Frag) (H : Hp) : NestedKey → V → Prop
  | non : NkV K H .none .non
  | int (i : Int) : NkV K H (.num i) (.int i)
  | str (x : Str) : NkV K H (.text x) (.str x)
  | tup {ks : List NestedKey} {a : Addr} {vs : List V} (h : SqT K H a vs) (n : ks.length = vs.length) (r : ∀ (i : Nat) k v, ks[i]? = some k → vs[i]? = some v → NkV K H k v) : NkV K H (.tup ks) (.ref a)
theorem NkV.mono (k : Keep K H H') {x : NestedKey} {v : V} (h : NkV K H x v) : NkV K H' x v := by
  induction h with
  | non => exact .non
  | int i => exact .int i
  | str x => exact .str x
  | tup h n r ih => exact .tup (k.t _ _ h) n ih
/-- what the one object of such a dict holds -/
def DnOk (w : World) (a : Addr) (xs : List (NestedKey × Addr × V)) (h : Heap) : Prop := xs.length ≤ sizeLine ∧ (a == sysModules) = false ∧
  ∃ ys : List (NestedKey × Addr × Value), Paired (fun (p : NestedKey × Addr × V) (q : NestedKey × Addr × Value) => p.1 = q.1 ∧ p.2.1 = q.2.1 ∧ RelV p.2.2 q.2.2) xs ys ∧
    ∃ o es ep, h.get? a = some o ∧ o.ExactDict ∧ o.data = .dict es ep ∧ es.toList = ys.map (fun x => (⟨x.1.hash w, .ref x.2.1, x.2.2⟩ : DictEntry)) ∧ (ys.map (·.1)).Nodup
def DR (K : PySem.W.Frag) (ca : Ca) (H : Hp) (m : List Addr) : List (NestedKey × PV) → List (NestedKey × Addr × V) → Prop := Paired fun p q => p.1 = q.1 ∧ (NkV K H p.1 (.ref q.2.1) ∧ p.1.depth ≤ 8) ∧ VR K ca H m p.2 q.2.2
theorem DR.mono (p : m <+: m') (k : Keep K H H') {a : List (NestedKey × PV)} {b : List (NestedKey × Addr × V)} (h : DR K ca H m a b) : DR K ca H' m' a b := Paired.mapP h fun _ _ q => ⟨q.1, ⟨q.2.1.1.mono k, q.2.1.2⟩, q.2.2.mono p k⟩
/-- pairs with one key -/
def KR {κ : Type} (K : PySem.W.Frag) (ca : Ca) (H : Hp) (m : List Addr) : List (κ × PV) → List (κ × V) → Prop := Paired fun p q => p.1 = q.1 ∧ VR K ca H m p.2 q.2
theorem KR.mono {κ : Type} (p : m <+: m') (k : Keep K H H') {a : List (κ × PV)} {b : List (κ × V)} (h : KR K ca H m a b) : KR K ca H' m' a b := Paired.mapP h fun _ _ q => ⟨q.1, q.2.mono p k⟩
/-- what stands at a place of the store -/
def OR (K : PySem.W.Frag) (ca : Ca) (H : Hp) (m : List Addr) (a : Addr) : PO → Prop
  | .lst xs => ∃ vs, H a = some (.lst vs) ∧ VRs K ca H m xs vs
  | .dK kvs => ∃ ws, H a = some (.dK ws) ∧ KR K ca H m kvs ws
  | .dN kvs => ∃ xs, H a = some (.ext (DnOk ca.w a xs)) ∧ DR K ca H m kvs xs
  | .ins c fs => ∃ dx gs, H a = some (.ins (ca c) dx gs) ∧ KR K ca H m fs gs
structure SR (K : PySem.W.Frag) (ca : Ca) (H : Hp) (m : List Addr) (st : Store) : Prop where
  len : m.length = st.length
  nd : m.Nodup
  ob : ∀ (n : Nat) (a : Addr) (o : PO), m[n]? = some a → st[n]? = some o → OR K ca H m a o
def ER (K : PySem.W.Frag) (ca : Ca) (H : Hp) (m : List Addr) (e : Env) (σ : L2.St) : Prop :=
  e.length = σ.length ∧ ∀ (i : Nat) v, e[i]? = some (some v) → ∃ w, σ[i]? = some (some w) ∧ VR K ca H m v w
theorem ER.mono {e : Env} {σ : L2.St} (h : ER K ca H m e σ) (p : m <+: m') (k : Keep K H H') : ER K ca H' m' e σ :=
  ⟨h.1, fun i v q => let ⟨w, a, b⟩ := h.2 i v q; ⟨w, a, b.mono p k⟩⟩
theorem OR.some {a : Addr} {o : PO} (h : OR K ca H m a o) : ∃ u, H a = Option.some u ∧ (∀ xs, u ≠ .tup xs) ∧ (∀ o' w, u ≠ .frz o' w) := by
  cases o with
  | lst xs => obtain ⟨vs, e, _⟩ := h; exact ⟨_, e, (fun _ z => nomatch z), (fun _ _ z => nomatch z)⟩
  | dK kvs => obtain ⟨vs, e, _⟩ := h; exact ⟨_, e, (fun _ z => nomatch z), (fun _ _ z => nomatch z)⟩
  | dN kvs => obtain ⟨vs, e, _⟩ := h; exact ⟨_, e, (fun _ z => nomatch z), (fun _ _ z => nomatch z)⟩
  | ins c fs => obtain ⟨dx, vs, e, _⟩ := h; exact ⟨_, e, (fun _ z => nomatch z), (fun _ _ z => nomatch z)⟩
/-- what stands stays where its own cell, the tuples and the map stay -/
theorem OR.mono {a : Addr} {o : PO} (h : OR K ca H m a o) (p : m <+: m') (k : Keep K H H') (e : H' a = H a) : OR K ca H' m' a o := by
  cases o with
  | lst xs => obtain ⟨vs, q, r⟩ := h; exact ⟨vs, by rw [e]; exact q, r.mono p k⟩
  | dK kvs => obtain ⟨vs, q, r⟩ := h; exact ⟨vs, by rw [e]; exact q, r.mono p k⟩
  | dN kvs => obtain ⟨vs, q, r⟩ := h; exact ⟨vs, by rw [e]; exact q, r.mono p k⟩
  | ins c fs => obtain ⟨dx, vs, q, r⟩ := h; exact ⟨dx, vs, by rw [e]; exact q, r.mono p k⟩
/-- a new object that is no matter to the store -/
theorem Keep.new {p : Addr} {o : HO} (h : H p = none) : Keep K H (upd H p o) where
  t := fun a xs q => by
    rcases q with (q | ⟨ob, q⟩) | q
    · exact .inl (.inl (by rw [upd_ne (ne_of_none q h)]; exact q))
    · exact .inl (.inr ⟨ob, by rw [upd_ne (ne_of_none q h)]; exact q⟩)
    · exact .inr q
  f := fun a xs q => by
    rcases q with ⟨ob, q⟩ | q
    · exact .inl ⟨ob, by rw [upd_ne (ne_of_none q h)]; exact q⟩
    · exact .inr q
/-- an object of the store is changed -/
theorem Keep.upd {p : Addr} {o u : HO} (h : H p = some u) (h1 : ∀ xs, u ≠ .tup xs) (h2 : ∀ o' w, u ≠ .frz o' w) : Keep K H (upd H p o) where
  t := fun a xs q => by
    rcases q with (q | ⟨ob, q⟩) | q
    · exact .inl (.inl (by rw [upd_ne (ne_of q h fun z => h1 _ z.symm)]; exact q))
    · exact .inl (.inr ⟨ob, by rw [upd_ne (ne_of q h fun z => h2 _ _ z.symm)]; exact q⟩)
    · exact .inr q
  f := fun a xs q => by
    rcases q with ⟨ob, q⟩ | q
    · exact .inl ⟨ob, by rw [upd_ne (ne_of q h fun z => h2 _ _ z.symm)]; exact q⟩
    · exact .inr q
section
variable {st : Store}
theorem SR.get (s : SR K ca H m st) {n : Nat} {o : PO} (h : st[n]? = some o) : ∃ a, m[n]? = some a ∧ OR K ca H m a o := by
  have hn : n < m.length := by rw [s.len]; exact (List.getElem?_eq_some_iff.mp h).1
  exact ⟨m[n], List.getElem?_eq_getElem hn, s.ob n _ o (List.getElem?_eq_getElem hn) h⟩
theorem SR.at (s : SR K ca H m st) {n : Nat} {a : Addr} {o : PO} (h : st[n]? = some o) (ha : m[n]? = some a) : OR K ca H m a o := s.ob n a o ha h
theorem SR.ne_new (s : SR K ca H m st) {p : Addr} (h : H p = none) : p ∉ m := fun hm => by
  obtain ⟨i, hi, e⟩ := List.getElem_of_mem hm
  have hi' : i < st.length := by rw [← s.len]; exact hi
  obtain ⟨u, q, _⟩ := (s.ob i _ _ (List.getElem?_eq_getElem hi) (List.getElem?_eq_getElem hi')).some
  rw [e, h] at q
  cases q
/-- a new object that the store does not hold -/
theorem SR.skip (s : SR K ca H m st) {p : Addr} {o : HO} (h : H p = none) : SR K ca (upd H p o) m st :=
  ⟨s.len, s.nd, fun n a ob ha ho => (s.ob n a ob ha ho).mono (List.prefix_refl _) (Keep.new h) (upd_ne fun z => s.ne_new h (z ▸ List.mem_of_getElem? ha))⟩
/-- a new object that the store holds -/
theorem SR.new (s : SR K ca H m st) {p : Addr} {o : HO} {ob : PO} (h : H p = none) (r : OR K ca (L2.upd H p o) (m ++ [p]) p ob) : SR K ca (L2.upd H p o) (m ++ [p]) (st ++ [ob]) := by
  refine ⟨by rw [List.length_append, List.length_append, s.len] <;> rfl, ?_, fun n a u ha hu => ?_⟩
  · rw [List.nodup_append]
    refine ⟨s.nd, List.nodup_cons.mpr ⟨List.not_mem_nil, List.nodup_nil⟩, fun x hx y hy => ?_⟩
    obtain rfl := List.mem_singleton.mp hy
    exact fun z => s.ne_new h (z ▸ hx)
  · by_cases hn : n < m.length
    · rw [List.getElem?_append_left hn] at ha
      rw [List.getElem?_append_left (by rw [← s.len]; exact hn)] at hu
      exact (s.ob n a u ha hu).mono (List.prefix_append _ _) (Keep.new h) (upd_ne fun z => s.ne_new h (z ▸ List.mem_of_getElem? ha))
    · have e : n = m.length := by
        have := (List.getElem?_eq_some_iff.mp ha).1
        rw [List.length_append, List.length_singleton] at this
        omega
      subst e
      rw [List.getElem?_append_right (Nat.le_refl _), Nat.sub_self] at ha
      rw [s.len, List.getElem?_append_right (Nat.le_refl _), Nat.sub_self] at hu
      cases ha
      cases hu
      exact r
/-- an object of the store is changed -/
theorem SR.set (s : SR K ca H m st) {n : Nat} {p : Addr} {o u : HO} {ob : PO} (hp : m[n]? = some p) (hu : H p = some u) (h1 : ∀ xs, u ≠ .tup xs) (h2 : ∀ o' w, u ≠ .frz o' w)
    (r : OR K ca (L2.upd H p o) m p ob) : SR K ca (L2.upd H p o) m (st.set n ob) := by
  refine ⟨by rw [List.length_set, s.len], s.nd, fun k a w ha hw => ?_⟩
  by_cases e : n = k
  · subst e
    rw [hp] at ha
    cases ha
    rw [List.getElem?_set_self (by rw [← s.len]; exact (List.getElem?_eq_some_iff.mp hp).1)] at hw
    cases hw
    exact r
  · rw [List.getElem?_set_ne e] at hw
    refine (s.ob k a w ha hw).mono (List.prefix_refl _) (Keep.upd hu h1 h2) (upd_ne fun z => e ?_)
    subst z
    have i1 := (List.getElem?_eq_some_iff.mp hp)
    have i2 := (List.getElem?_eq_some_iff.mp ha)
    obtain ⟨l1, e1⟩ := i1
    obtain ⟨l2, e2⟩ := i2
    exact (List.getElem_inj s.nd).mp (e1.trans e2.symm)
end
end

/-! ## what is wanted behind -/
section
variable (K : PySem.W.Frag) (ca : Ca)
/-- an exception -/
def XR (H : Hp) (m : List Addr) (x : Ex) (d : Option Addr) : Prop :=
  match x.val with
  | none => d = none
  | some (f, v) => ∃ a w, d = some a ∧ H a = some (.xd [(f, w)]) ∧ VR K ca H m v w
abbrev WV := Ex → Hp → List Addr → Store → Prop
def Post {α β : Type} (rel : Hp → List Addr → α → β → Prop) (E : Ex → Option Addr → Hp → Prop) (m : List Addr) (H : Hp) (Q : β → Hp → Prop) (r : R α) : Prop :=
  match r with
  | .ok a st' => ∀ m' b H', m <+: m' → Keep K H H' → SR K ca H' m' st' → rel H' m' a b → Q b H'
  | .er x st' => ∀ m' d H', m <+: m' → Keep K H H' → SR K ca H' m' st' → XR K ca H' m' x d → E x d H'
  | .no => False
def Post0 {α β : Type} (rel : Hp → List Addr → α → β → Prop) (m : List Addr) (H : Hp) (Q : β → Hp → Prop) (r : O α) : Prop :=
  match r with
  | some (a, st') => ∀ m' b H', m <+: m' → Keep K H H' → SR K ca H' m' st' → rel H' m' a b → Q b H'
  | none => False
def PostS (E : Ex → Option Addr → L2.St → Hp → Prop) (m : List Addr) (H : Hp) (D : Ends) (r : RS) : Prop :=
  match r with
  | .nx e st' => ∀ m' σ' H', m <+: m' → Keep K H H' → SR K ca H' m' st' → ER K ca H' m' e σ' → D.nx σ' H'
  | .rt v st' => ∀ m' w H', m <+: m' → Keep K H H' → SR K ca H' m' st' → VR K ca H' m' v w → D.rt w H'
  | .bk e st' => ∀ m' σ' H', m <+: m' → Keep K H H' → SR K ca H' m' st' → ER K ca H' m' e σ' → D.bk σ' H'
  | .ct e st' => ∀ m' σ' H', m <+: m' → Keep K H H' → SR K ca H' m' st' → ER K ca H' m' e σ' → D.ct σ' H'
  | .er x e st' => ∀ m' d σ' H', m <+: m' → Keep K H H' → SR K ca H' m' st' → ER K ca H' m' e σ' → XR K ca H' m' x d → E x d σ' H'
  | .no => False
end
section
variable {K : PySem.W.Frag} {ca : Ca} {m m' : List Addr} {H H' : Hp}
theorem Post.mono {α β : Type} {rel : Hp → List Addr → α → β → Prop} {E : Ex → Option Addr → Hp → Prop} {Q : β → Hp → Prop} {r : R α} (h : Post K ca rel E m H Q r) (p : m <+: m') (k : Keep K H H') : Post K ca rel E m' H' Q r := by
  cases r with
  | ok a st => exact fun m2 b H2 p2 k2 => h m2 b H2 (p.trans p2) (k.trans k2)
  | er x st => exact fun m2 b H2 p2 k2 => h m2 b H2 (p.trans p2) (k.trans k2)
  | no => exact h
theorem Post0.mono {α β : Type} {rel : Hp → List Addr → α → β → Prop} {Q : β → Hp → Prop} {r : O α} (h : Post0 K ca rel m H Q r) (p : m <+: m') (k : Keep K H H') : Post0 K ca rel m' H' Q r := by
  cases r with
  | some a => exact fun m2 b H2 p2 k2 => h m2 b H2 (p.trans p2) (k.trans k2)
  | none => exact h
theorem PostS.mono {E : Ex → Option Addr → L2.St → Hp → Prop} {D : Ends} {r : RS} (h : PostS K ca E m H D r) (p : m <+: m') (k : Keep K H H') : PostS K ca E m' H' D r := by
  cases r with
  | nx e st => exact fun m2 b H2 p2 k2 => h m2 b H2 (p.trans p2) (k.trans k2)
  | rt v st => exact fun m2 b H2 p2 k2 => h m2 b H2 (p.trans p2) (k.trans k2)
  | bk e st => exact fun m2 b H2 p2 k2 => h m2 b H2 (p.trans p2) (k.trans k2)
  | ct e st => exact fun m2 b H2 p2 k2 => h m2 b H2 (p.trans p2) (k.trans k2)
  | er x e st => exact fun m2 d b H2 p2 k2 => h m2 d b H2 (p.trans p2) (k.trans k2)
  | no => exact h
theorem Post.of {α β : Type} {rel : Hp → List Addr → α → β → Prop} {E : Ex → Option Addr → Hp → Prop} {Q : β → Hp → Prop} {r : O α} (h : Post K ca rel E m H Q (R.of r)) : Post0 K ca rel m H Q r := by
  cases r with
  | some a => exact h
  | none => exact h
end

/-! ## judgements -/
section
variable (X : Cx) (W : WX) (ca : Ca)
/-- the wish of an exception at the slots σ -/
abbrev EW (σ : L2.St) : Ex → Option Addr → Hp → Prop := fun x d H => W (.ref (ca x.c)) d σ H
abbrev EWs : Ex → Option Addr → L2.St → Hp → Prop := fun x d σ H => W (.ref (ca x.c)) d σ H
abbrev rB : Hp → List Addr → Bool → Bool → Prop := fun _ _ a b => a = b
structure JE (e : Expr) (f : FE) : Prop where
  ex : ∃ t, PE X e t ∧ ∀ σ H m env st Q, SR X.K ca H m st → ER X.K ca H m env σ → Post X.K ca (VR X.K ca) (EW W ca σ) m H Q (f env st) → t σ H Q
structure JT (e : Expr) (f : FT) : Prop where
  ex : ∃ t, PT X e t ∧ ∀ σ H m env st Q, SR X.K ca H m st → ER X.K ca H m env σ → Post X.K ca rB (EW W ca σ) m H Q (f env st) → t σ H Q
/-- and, or, whatever the whole is -/
structure JW (e : Expr) (f : FT) : Prop where
  ex : ∃ t, PW X e t ∧ ∀ σ H m env st Q, SR X.K ca H m st → ER X.K ca H m env σ → Post X.K ca rB (EW W ca σ) m H Q (f env st) → t σ H Q
structure JA (es : List Expr) (f : FA) : Prop where
  ex : ∃ t, PA X es t ∧ ∀ σ H m env st Q, SR X.K ca H m st → ER X.K ca H m env σ → Post X.K ca (VRs X.K ca) (EW W ca σ) m H Q (f env st) → t σ H Q
structure JS (s : Stmt) (f : FS) : Prop where
  ex : ∃ t, PS X s t ∧ ∀ σ H m env st D, SR X.K ca H m st → ER X.K ca H m env σ → PostS X.K ca (EWs W ca) m H D (f env st) → t D σ H
structure JSs (s : List Stmt) (f : FS) : Prop where
  ex : ∃ t, PSs X s t ∧ ∀ σ H m env st D, SR X.K ca H m st → ER X.K ca H m env σ → PostS X.K ca (EWs W ca) m H D (f env st) → t D σ H
/-- a target -/
abbrev FG := PV → Env → Option Env
structure JG (tg : Expr) (g : FG) : Prop where
  ex : ∃ t, PG X tg t ∧ ∀ σ H m env v w env' Q, ER X.K ca H m env σ → VR X.K ca H m v w → g v env = some env' → (∀ σ', ER X.K ca H m env' σ' → Q σ' H) → t w σ H Q
structure JGs (tgs : List Expr) (g : List PV → Env → Option Env) : Prop where
  ex : ∃ t, PGs X tgs t ∧ ∀ σ H m env v w env' Q, ER X.K ca H m env σ → VRs X.K ca H m v w → g v env = some env' → (∀ σ', ER X.K ca H m env' σ' → Q σ' H) → t w σ H Q
end
end FL
end
section
set_option linter.all false
set_option maxRecDepth 100000
namespace FL
open PySem PySem.Spec PyProof.Rows L2
noncomputable section

/-! ## rules of the nodes -/
section
variable {K : PySem.W.Frag} {ca : Ca} {m m' : List Addr} {H H' : Hp}
theorem Post.bind {α β α' β' : Type} {rel : Hp → List Addr → α → β → Prop} {rel2 : Hp → List Addr → α' → β' → Prop} {E : Ex → Option Addr → Hp → Prop} {Q1 : β → Hp → Prop} {Q2 : β' → Hp → Prop} {r : R α} {g : α → Store → R α'}
    (h : Post K ca rel2 E m H Q2 (r.bind g))
    (f : ∀ a st1 m1 b H1, m <+: m1 → Keep K H H1 → SR K ca H1 m1 st1 → rel H1 m1 a b → Post K ca rel2 E m1 H1 Q2 (g a st1) → Q1 b H1) : Post K ca rel E m H Q1 r := by
  cases r with
  | ok a st => exact fun m1 b H1 p k s q => f a st m1 b H1 p k s q (Post.mono h p k)
  | er x st => exact h
  | no => exact h
/-- a result at hand -/
theorem Post.ok {α β : Type} {rel : Hp → List Addr → α → β → Prop} {E : Ex → Option Addr → Hp → Prop} {Q : β → Hp → Prop} {a : α} {st : Store} {b : β} (h : Post K ca rel E m H Q (.ok a st)) (s : SR K ca H m st) (r : rel H m a b) : Q b H :=
  h m b H (List.prefix_refl _) Keep.refl s r
end

def varF (i : Nat) : FE := fun e st => match e[i]? with
  | some (some v) => .ok v st
  | _ => .no
def cstF (v : PV) : FE := fun _ st => .ok v st
def opF (g : PV → PV → Store → O PV) (fa fb : FE) : FE := fun e st => (fa e st).bind fun x s1 => (fb e s1).bind fun y s2 => R.of (g x y s2)
def unF (g : PV → Store → O PV) (fa : FE) : FE := fun e st => (fa e st).bind fun x s1 => R.of (g x s1)
def asB (v : PV) (st : Store) : R Bool := match v with
  | .bl b => .ok b st
  | _ => .no
def chF (g g' : PV → PV → Store → O PV) (fa fb fc : FE) : FE := fun e st => (fa e st).bind fun x s1 => (fb e s1).bind fun y s2 => (R.of (g x y s2)).bind fun z s3 => (asB z s3).bind fun k s4 =>
  if k = true then (fc e s4).bind fun u s5 => R.of (g' y u s5) else .ok (.bl false) s4
def isB (fa : FE) : FT := fun e st => (fa e st).bind asB
def andT (f g : FT) : FT := fun e st => (f e st).bind fun k s1 => if k = true then g e s1 else .ok false s1
def orT (f g : FT) : FT := fun e st => (f e st).bind fun k s1 => if k = true then .ok true s1 else g e s1
def notT (f : FT) : FT := fun e st => (f e st).bind fun k s1 => .ok (!k) s1
def andF (f g : FE) : FE := fun e st => ((f e st).bind asB).bind fun k s1 => if k = true then g e s1 else .ok (.bl false) s1
def orF (f g : FE) : FE := fun e st => ((f e st).bind asB).bind fun k s1 => if k = true then .ok (.bl true) s1 else g e s1
def notF (f : FE) : FE := fun e st => ((f e st).bind asB).bind fun k s1 => .ok (.bl (!k)) s1
def ifF (c : FT) (f g : FE) : FE := fun e st => (c e st).bind fun k s1 => if k = true then f e s1 else g e s1
def nilA : FA := fun _ st => .ok [] st
def consA (f : FE) (g : FA) : FA := fun e st => (f e st).bind fun x s1 => (g e s1).bind fun xs s2 => .ok (x :: xs) s2
def tupF (f : FA) : FE := fun e st => (f e st).bind fun xs s1 => if xs.length ≤ sizeLine then .ok (.tup xs) s1 else .no
def lstF (f : FA) : FE := fun e st => (f e st).bind fun xs s1 => if xs.length ≤ sizeLine then .ok (.ref s1.length) (s1 ++ [.lst xs]) else .no
def cbF (g : List PV → Store → O PV) (f : FA) : FE := fun e st => (f e st).bind fun xs s1 => R.of (g xs s1)
/-- a call of a def; ds: the defaults that fill up -/
def callF (n : Nat) (F : Fn) (ds : List PV) (f : FA) : FE := fun e st => (f e st).bind fun xs s1 => if (xs ++ ds).length = n then F (xs ++ ds) s1 else .no
/-- a method of a built-in type -/
def bmF (g : PV → List PV → Store → O PV) (fo : FE) (f : FA) : FE := fun e st => (fo e st).bind fun o s1 => (f e s1).bind fun xs s2 => R.of (g o xs s2)
def truV (v : PV) (st : Store) : R Bool := match v with
  | .non => .ok false st
  | .bl b => .ok b st
  | .int i => .ok (i != 0) st
  | .str x => if x.length ≤ sizeLine then .ok (x.length != 0) st else .no
  | .tup xs => .ok (!xs.isEmpty) st
  | .frz xs => .ok (!xs.isEmpty) st
  | .ref n => match st[n]? with
    | some (.lst xs) => .ok (!xs.isEmpty) st
    | some (.dK kvs) => .ok (!kvs.isEmpty) st
    | _ => .no
  | _ => .no
def truT (fa : FE) : FT := fun e st => (fa e st).bind truV

section
variable {X : Cx} {W : WX} {ca : Ca}
/-! ### value-level deeds -/
def OpF (X : Cx) (ca : Ca) (f : Value → Value → Sem Value) (g : PV → PV → Store → O PV) : Prop :=
  ∃ r, OpR X f r ∧ ∀ H m st x y x' y' Q, SR X.K ca H m st → VR X.K ca H m x x' → VR X.K ca H m y y' → Post0 X.K ca (VR X.K ca) m H Q (g x y st) → r x' y' H Q
def UnF (X : Cx) (ca : Ca) (f : Value → Sem Value) (g : PV → Store → O PV) : Prop :=
  ∃ r, UnR X f r ∧ ∀ H m st x x' Q, SR X.K ca H m st → VR X.K ca H m x x' → Post0 X.K ca (VR X.K ca) m H Q (g x st) → r x' H Q
def IxF (X : Cx) (ca : Ca) (g : PV → PV → Store → O PV) : Prop :=
  ∃ r, IxR X r ∧ ∀ H m st x y x' y' Q, SR X.K ca H m st → VR X.K ca H m x x' → VR X.K ca H m y y' → Post0 X.K ca (VR X.K ca) m H Q (g x y st) → r x' y' H Q
def CbF (X : Cx) (ca : Ca) (f : Value) (g : List PV → Store → O PV) : Prop :=
  ∃ r, CallR X f r ∧ ∀ H m st xs vs Q, SR X.K ca H m st → VRs X.K ca H m xs vs → Post0 X.K ca (VR X.K ca) m H Q (g xs st) → r vs H Q
/-- T: the type of the receiver -/
def BmF (X : Cx) (ca : Ca) (T : String) (id : String) (g : PV → List PV → Store → O PV) : Prop :=
  ∃ r, MtR X id r ∧ ∀ H m st o o' xs vs Q, SR X.K ca H m st → VR X.K ca H m o o' → VRs X.K ca H m xs vs → Post0 X.K ca (VR X.K ca) m H Q (g o xs st) → r o' vs H Q

/-! ### names, constants -/
theorem je_v (i : Nat) {x : Str} {pos : Pos} (hN : X.N[i]? = some x := by rfl) (hv : Vis X.env.scope x := by first | exact Or.inl rfl | exact Or.inr (Or.inl rfl) | exact Or.inr (Or.inr rfl))
    (hd : (x == ("__debug__" : Str)) = false := by decide) (hcd : (x == ("__classdict__" : Str)) = false := by decide) : JE X W ca (.Name x pos) (varF i) := by
  refine ⟨_, pe_var hN hv hd hcd, fun σ H m env st Q s e h => ?_⟩
  unfold varF at h
  split at h
  · rename_i v hv
    obtain ⟨w, h1, h2⟩ := e.2 i v hv
    exact ⟨w, h1, h.ok s h2⟩
  · exact h.elim
theorem je_int {i j pos} : JE X W ca (.Constant (.int i) j pos) (cstF (.int i)) := ⟨_, pe_int, fun σ H m env st Q s e h => h.ok s (.int i)⟩
theorem je_bl {b j pos} : JE X W ca (.Constant (.bool b) j pos) (cstF (.bl b)) := ⟨_, pe_bl, fun σ H m env st Q s e h => h.ok s (.bl b)⟩
theorem je_non {j pos} : JE X W ca (.Constant .none j pos) (cstF .non) := ⟨_, pe_non, fun σ H m env st Q s e h => h.ok s .non⟩
theorem je_str {x j pos} : JE X W ca (.Constant (.str x) j pos) (cstF (.str x)) := ⟨_, pe_str, fun σ H m env st Q s e h => h.ok s (.str x)⟩
/-- a constant of the module -/
theorem je_glob {x : Str} {v : PV} {u : Value} {w : V} {pos : Pos} (hg : Gl X x) (hm : X.mg x = some u) (r : RelV w u) (hr : ∀ H m, VR X.K ca H m v w) (hd : (x == ("__debug__" : Str)) = false := by decide) : JE X W ca (.Name x pos) (cstF v) :=
  ⟨_, pe_glob hg hm r hd, fun σ H m env st Q s e h => h.ok s (hr H m)⟩
/-- a built-in type as a value -/
theorem je_ty {x : Str} {n : String} {pos : Pos} (hg : Gl X x) (hm : X.mg x = none) (hv : bootBuiltins x = some (.type n)) (hn : x ≠ "__name__" := by decide) (hd : (x == ("__debug__" : Str)) = false := by decide) : JE X W ca (.Name x pos) (cstF (.ty n)) :=
  ⟨_, pe_bltn (v := .ty n) hg hm hv rfl hn hd, fun σ H m env st Q s e h => h.ok s (.ty n)⟩

/-! ### operators -/
theorem je_op {op : Operator} {a b : Expr} {pos : Pos} {fa fb : FE} {g : PV → PV → Store → O PV} (ho : OpF X ca (binaryOp op) g) (ha : JE X W ca a fa) (hb : JE X W ca b fb) : JE X W ca (.BinOp a op b pos) (opF g fa fb) := by
  obtain ⟨ta, pa, ra⟩ := ha.ex
  obtain ⟨tb, pb, rb⟩ := hb.ex
  obtain ⟨r, po, ro⟩ := ho
  refine ⟨_, pe_op po pa pb, fun σ H m env st Q s e h => ?_⟩
  refine ra σ H m env st _ s e (Post.bind h fun x st1 m1 x' H1 p1 k1 s1 r1 h1 => ?_)
  refine rb σ H1 m1 env st1 _ s1 (e.mono p1 k1) (Post.bind h1 fun y st2 m2 y' H2 p2 k2 s2 r2 h2 => ?_)
  exact ro H2 m2 st2 x y x' y' Q s2 (r1.mono p2 k2) r2 h2.of
theorem je_un {op : UnaryOp} {a : Expr} {pos : Pos} {fa : FE} {g : PV → Store → O PV} (ho : UnF X ca (unaryOp op) g) (ha : JE X W ca a fa) : JE X W ca (.UnaryOp op a pos) (unF g fa) := by
  obtain ⟨ta, pa, ra⟩ := ha.ex
  obtain ⟨r, po, ro⟩ := ho
  refine ⟨_, pe_un po pa, fun σ H m env st Q s e h => ?_⟩
  refine ra σ H m env st _ s e (Post.bind h fun x st1 m1 x' H1 p1 k1 s1 r1 h1 => ?_)
  exact ro H1 m1 st1 x x' Q s1 r1 h1.of
theorem je_cmp {op : CmpOp} {a b : Expr} {pos : Pos} {fa fb : FE} {g : PV → PV → Store → O PV} (ho : OpF X ca (compareOp op) g) (ha : JE X W ca a fa) (hb : JE X W ca b fb) (hm : behindInMarks op b = false) : JE X W ca (.Compare a [op] [b] pos) (opF g fa fb) := by
  obtain ⟨ta, pa, ra⟩ := ha.ex
  obtain ⟨tb, pb, rb⟩ := hb.ex
  obtain ⟨r, po, ro⟩ := ho
  refine ⟨_, pe_cmpR po pa pb hm, fun σ H m env st Q s e h => ?_⟩
  refine ra σ H m env st _ s e (Post.bind h fun x st1 m1 x' H1 p1 k1 s1 r1 h1 => ?_)
  refine rb σ H1 m1 env st1 _ s1 (e.mono p1 k1) (Post.bind h1 fun y st2 m2 y' H2 p2 k2 s2 r2 h2 => ?_)
  exact ro H2 m2 st2 x y x' y' Q s2 (r1.mono p2 k2) r2 h2.of
theorem asB_post {m : List Addr} {H : Hp} {E : Ex → Option Addr → Hp → Prop} {Q : Bool → Hp → Prop} {x : PV} {x' : V} {st : Store} (h : Post X.K ca rB E m H Q (asB x st)) (s : SR X.K ca H m st) (r : VR X.K ca H m x x') : ∃ k, x' = .bl k ∧ Q k H := by
  cases r with
  | bl b => exact ⟨b, rfl, h.ok s rfl⟩
  | _ => exact h.elim
theorem jt_cmp {op : CmpOp} {a b : Expr} {pos : Pos} {fa fb : FE} {g : PV → PV → Store → O PV} (ho : OpF X ca (compareOp op) g) (ha : JE X W ca a fa) (hb : JE X W ca b fb) (hm : behindInMarks op b = false) : JT X W ca (.Compare a [op] [b] pos) (isB (opF g fa fb)) := by
  obtain ⟨ta, pa, ra⟩ := ha.ex
  obtain ⟨tb, pb, rb⟩ := hb.ex
  obtain ⟨r, po, ro⟩ := ho
  refine ⟨_, pt_cmpR po pa pb hm, fun σ H m env st Q s e h => ?_⟩
  unfold isB opF at h
  have h' : Post X.K ca rB (EW W ca σ) m H Q ((fa env st).bind fun x s1 => (fb env s1).bind fun y s2 => (R.of (g x y s2)).bind asB) := by
    cases q : fa env st with
    | ok x s1 =>
      rw [q] at h
      simp only [R.bind] at h ⊢
      cases q2 : fb env s1 <;> rw [q2] at h <;> exact h
    | er x s1 => rw [q] at h; exact h
    | no => rw [q] at h; exact h
  refine ra σ H m env st _ s e (Post.bind h' fun x st1 m1 x' H1 p1 k1 s1 r1 h1 => ?_)
  refine rb σ H1 m1 env st1 _ s1 (e.mono p1 k1) (Post.bind h1 fun y st2 m2 y' H2 p2 k2 s2 r2 h2 => ?_)
  refine ro H2 m2 st2 x y x' y' _ s2 (r1.mono p2 k2) r2 (Post.of (Post.bind h2 fun z st3 m3 z' H3 p3 k3 s3 r3 h3 => ?_))
  exact asB_post h3 s3 r3
theorem je_ch {op op' : CmpOp} {a b c : Expr} {pos : Pos} {fa fb fc : FE} {g g' : PV → PV → Store → O PV} (ho : OpF X ca (compareOp op) g) (ho' : OpF X ca (compareOp op') g') (ha : JE X W ca a fa) (hb : JE X W ca b fb) (hc : JE X W ca c fc)
    (hm : lastMarks [op, op'] [b, c] = false := by with_unfolding_all rfl) : JE X W ca (.Compare a [op, op'] [b, c] pos) (chF g g' fa fb fc) := by
  obtain ⟨ta, pa, ra⟩ := ha.ex
  obtain ⟨tb, pb, rb⟩ := hb.ex
  obtain ⟨tc, pc, rc⟩ := hc.ex
  obtain ⟨r, po, ro⟩ := ho
  obtain ⟨r', po', ro'⟩ := ho'
  refine ⟨_, pe_chain po po' pa pb pc hm, fun σ H m env st Q s e h => ?_⟩
  refine ra σ H m env st _ s e (Post.bind h fun x st1 m1 x' H1 p1 k1 s1 r1 h1 => ?_)
  refine rb σ H1 m1 env st1 _ s1 (e.mono p1 k1) (Post.bind h1 fun y st2 m2 y' H2 p2 k2 s2 r2 h2 => ?_)
  refine ro H2 m2 st2 x y x' y' _ s2 (r1.mono p2 k2) r2 (Post.of (Post.bind h2 fun z st3 m3 z' H3 p3 k3 s3 r3 h3 => ?_))
  have h4 := Post.bind (rel := rB) (Q1 := fun k H4 => H4 = H3 → if k = true then tc σ H4 (fun u H5 => r' y' u H5 Q) else Q (.bl false) H4) h3 fun k st4 m4 k' H4 p4 k4 s4 r4 h4 e4 => by
    subst e4
    have rk : k = k' := r4
    subst rk
    cases k with
    | true =>
      rw [if_pos rfl] at h4 ⊢
      refine rc σ H4 m4 env st4 _ s4 (e.mono (((p1.trans p2).trans p3).trans p4) (((k1.trans k2).trans k3).trans k4)) (Post.bind h4 fun u st5 m5 u' H5 p5 k5 s5 r5 h5 => ?_)
      exact ro' H5 m5 st5 y u y' u' Q s5 (r2.mono ((p3.trans p4).trans p5) ((k3.trans k4).trans k5)) r5 h5.of
    | false =>
      rw [if_neg Bool.false_ne_true] at h4 ⊢
      exact h4.ok s4 (.bl false)
  obtain ⟨k, ek, q⟩ := asB_post h4 s3 r3
  subst ek
  exact ⟨k, rfl, q rfl⟩
theorem jt_val {e : Expr} {f : FE} (h : JE X W ca e f) (he : ∀ whole, isTrue e X.env whole = (do let v ← whole; standAt e.pos; holding [v] (truthy v)) := by intro _; rfl) : JT X W ca e (isB f) := by
  obtain ⟨t, p, r⟩ := h.ex
  refine ⟨_, pt_val p he, fun σ H m env st Q s e h => ?_⟩
  exact r σ H m env st _ s e (Post.bind h fun z st3 m3 z' H3 p3 k3 s3 r3 h3 => asB_post h3 s3 r3)
theorem truV_post {m : List Addr} {H : Hp} {E : Ex → Option Addr → Hp → Prop} {Q : Bool → Hp → Prop} {x : PV} {x' : V} {st : Store} (h : Post X.K ca rB E m H Q (truV x st)) (s : SR X.K ca H m st) (r : VR X.K ca H m x x') : ∃ k, TruV X.K x' H k ∧ Q k H := by
  have ie : ∀ {xs : List PV} {vs : List V}, VRs X.K ca H m xs vs → (!xs.isEmpty) = (!vs.isEmpty) := fun q => by cases q <;> rfl
  cases r with
  | non => exact ⟨false, rfl, h.ok s rfl⟩
  | bl b => exact ⟨b, rfl, h.ok s rfl⟩
  | int i => exact ⟨_, rfl, h.ok s rfl⟩
  | str x =>
    simp only [truV] at h
    split at h
    · rename_i hl
      exact ⟨_, ⟨hl, rfl⟩, h.ok s (by show (x.length != 0) = (((x.length : Nat) : Int) != 0); cases x.length with | zero => rfl | succ n => rw [show (n + 1 != 0) = true by simp]; symm; simp; omega)⟩
    · exact h.elim
  | tup hs rs => exact ⟨_, .inr (.inl ⟨_, hs, rfl⟩), h.ok s (ie rs)⟩
  | frz hs rs => exact ⟨_, .inl ⟨_, hs.sq, rfl⟩, h.ok s (ie rs)⟩
  | ref hn =>
    simp only [truV] at h
    split at h
    · rename_i xs hx
      obtain ⟨vs, e1, rs⟩ := s.at hx hn
      exact ⟨_, .inl ⟨_, SqL.of e1, rfl⟩, h.ok s (ie rs)⟩
    · rename_i kvs hx
      obtain ⟨vs, e1, rs⟩ := s.at hx hn
      refine ⟨_, .inr (.inr ⟨_, e1, rfl⟩), h.ok s ?_⟩
      show (!kvs.isEmpty) = (!vs.isEmpty)
      cases rs <;> rfl
    · exact h.elim
  | _ => exact h.elim
theorem jt_tru {e : Expr} {f : FE} (h : JE X W ca e f) (he : ∀ whole, isTrue e X.env whole = (do let v ← whole; standAt e.pos; holding [v] (truthy v)) := by intro _; rfl) : JT X W ca e (truT f) := by
  obtain ⟨t, p, r⟩ := h.ex
  refine ⟨_, pt_truth p he, fun σ H m env st Q s e h => ?_⟩
  exact r σ H m env st _ s e (Post.bind h fun z st3 m3 z' H3 p3 k3 s3 r3 h3 => truV_post h3 s3 r3)
theorem JW.jt {e : Expr} {f : FT} (h : JW X W ca e f) : JT X W ca e f := by
  obtain ⟨t, p, r⟩ := h.ex
  exact ⟨t, p.pt, r⟩
theorem jw_and1 {a : Expr} {pos : Pos} {f : FT} (ha : JT X W ca a f) : JW X W ca (.BoolOp .And [a] pos) f := by
  obtain ⟨t, p, r⟩ := ha.ex
  exact ⟨_, pw_and1 p, r⟩
theorem jw_or1 {a : Expr} {pos : Pos} {f : FT} (ha : JT X W ca a f) : JW X W ca (.BoolOp .Or [a] pos) f := by
  obtain ⟨t, p, r⟩ := ha.ex
  exact ⟨_, pw_or1 p, r⟩
theorem jw_and {a b : Expr} {rest : List Expr} {pos : Pos} {f g : FT} (ha : JT X W ca a f) (hb : JW X W ca (.BoolOp .And (b :: rest) pos) g) : JW X W ca (.BoolOp .And (a :: b :: rest) pos) (andT f g) := by
  obtain ⟨t, p, r⟩ := ha.ex
  obtain ⟨u, q, z⟩ := hb.ex
  refine ⟨_, pw_and p q, fun σ H m env st Q s e h => ?_⟩
  refine r σ H m env st _ s e (Post.bind h fun k st1 m1 k' H1 p1 k1 s1 r1 h1 => ?_)
  have rk : k = k' := r1
  subst rk
  cases k with
  | true => exact z σ H1 m1 env st1 Q s1 (e.mono p1 k1) h1
  | false => exact h1.ok s1 rfl
theorem jw_or {a b : Expr} {rest : List Expr} {pos : Pos} {f g : FT} (ha : JT X W ca a f) (hb : JW X W ca (.BoolOp .Or (b :: rest) pos) g) : JW X W ca (.BoolOp .Or (a :: b :: rest) pos) (orT f g) := by
  obtain ⟨t, p, r⟩ := ha.ex
  obtain ⟨u, q, z⟩ := hb.ex
  refine ⟨_, pw_or p q, fun σ H m env st Q s e h => ?_⟩
  refine r σ H m env st _ s e (Post.bind h fun k st1 m1 k' H1 p1 k1 s1 r1 h1 => ?_)
  have rk : k = k' := r1
  subst rk
  cases k with
  | true => exact h1.ok s1 rfl
  | false => exact z σ H1 m1 env st1 Q s1 (e.mono p1 k1) h1
theorem jt_not {a : Expr} {pos : Pos} {f : FT} (ha : JT X W ca a f) : JT X W ca (.UnaryOp .Not a pos) (notT f) := by
  obtain ⟨t, p, r⟩ := ha.ex
  refine ⟨_, pt_not p, fun σ H m env st Q s e h => ?_⟩
  refine r σ H m env st _ s e (Post.bind h fun k st1 m1 k' H1 p1 k1 s1 r1 h1 => ?_)
  have rk : k = k' := r1
  subst rk
  exact h1.ok s1 rfl
theorem je_one {op} {a : Expr} {pos : Pos} {f : FE} (ha : JE X W ca a f) : JE X W ca (.BoolOp op [a] pos) f := by
  obtain ⟨t, p, r⟩ := ha.ex
  exact ⟨_, pe_one p, r⟩
theorem je_and {a b : Expr} {rest : List Expr} {pos : Pos} {f g : FE} (ha : JE X W ca a f) (hb : JE X W ca (.BoolOp .And (b :: rest) pos) g) : JE X W ca (.BoolOp .And (a :: b :: rest) pos) (andF f g) := by
  obtain ⟨t, p, r⟩ := ha.ex
  obtain ⟨u, q, z⟩ := hb.ex
  refine ⟨_, pe_and p q, fun σ H m env st Q s e h => ?_⟩
  have h' : Post X.K ca (VR X.K ca) (EW W ca σ) m H Q ((f env st).bind fun x s1 => (asB x s1).bind fun k s1 => if k = true then g env s1 else .ok (.bl false) s1) := by
    unfold andF at h
    cases q : f env st <;> rw [q] at h <;> exact h
  refine r σ H m env st _ s e (Post.bind h' fun x st1 m1 x' H1 p1 k1 s1 r1 h1 => ?_)
  cases r1 with
  | bl k =>
    refine ⟨k, rfl, ?_⟩
    cases k with
    | true => exact z σ H1 m1 env st1 Q s1 (e.mono p1 k1) h1
    | false => exact h1.ok s1 (.bl false)
  | _ => exact h1.elim
theorem je_or {a b : Expr} {rest : List Expr} {pos : Pos} {f g : FE} (ha : JE X W ca a f) (hb : JE X W ca (.BoolOp .Or (b :: rest) pos) g) : JE X W ca (.BoolOp .Or (a :: b :: rest) pos) (orF f g) := by
  obtain ⟨t, p, r⟩ := ha.ex
  obtain ⟨u, q, z⟩ := hb.ex
  refine ⟨_, pe_or p q, fun σ H m env st Q s e h => ?_⟩
  have h' : Post X.K ca (VR X.K ca) (EW W ca σ) m H Q ((f env st).bind fun x s1 => (asB x s1).bind fun k s1 => if k = true then .ok (.bl true) s1 else g env s1) := by
    unfold orF at h
    cases q : f env st <;> rw [q] at h <;> exact h
  refine r σ H m env st _ s e (Post.bind h' fun x st1 m1 x' H1 p1 k1 s1 r1 h1 => ?_)
  cases r1 with
  | bl k =>
    refine ⟨k, rfl, ?_⟩
    cases k with
    | true => exact h1.ok s1 (.bl true)
    | false => exact z σ H1 m1 env st1 Q s1 (e.mono p1 k1) h1
  | _ => exact h1.elim
theorem je_not {a : Expr} {pos : Pos} {f : FE} (ha : JE X W ca a f) : JE X W ca (.UnaryOp .Not a pos) (notF f) := by
  obtain ⟨t, p, r⟩ := ha.ex
  refine ⟨_, pe_not p, fun σ H m env st Q s e h => ?_⟩
  have h' : Post X.K ca (VR X.K ca) (EW W ca σ) m H Q ((f env st).bind fun x s1 => (asB x s1).bind fun k s1 => .ok (.bl (!k)) s1) := by
    unfold notF at h
    cases q : f env st <;> rw [q] at h <;> exact h
  refine r σ H m env st _ s e (Post.bind h' fun x st1 m1 x' H1 p1 k1 s1 r1 h1 => ?_)
  cases r1 with
  | bl k => exact ⟨k, rfl, h1.ok s1 (.bl _)⟩
  | _ => exact h1.elim
theorem je_if {c a b : Expr} {pos : Pos} {fc : FT} {f g : FE} (hc : JT X W ca c fc) (ha : JE X W ca a f) (hb : JE X W ca b g) : JE X W ca (.IfExp c a b pos) (ifF fc f g) := by
  obtain ⟨tc, pc, rc⟩ := hc.ex
  obtain ⟨t, p, r⟩ := ha.ex
  obtain ⟨u, q, z⟩ := hb.ex
  refine ⟨_, pe_ifExp pc p q, fun σ H m env st Q s e h => ?_⟩
  refine rc σ H m env st _ s e (Post.bind h fun k st1 m1 k' H1 p1 k1 s1 r1 h1 => ?_)
  have rk : k = k' := r1
  subst rk
  cases k with
  | true => exact r σ H1 m1 env st1 Q s1 (e.mono p1 k1) h1
  | false => exact z σ H1 m1 env st1 Q s1 (e.mono p1 k1) h1

/-! ### argument lists, displays -/
theorem ja_nil : JA X W ca [] nilA := ⟨_, pa_nil, fun σ H m env st Q s e h => h.ok s .nil⟩
theorem ja_cons {e : Expr} {es : List Expr} {f : FE} {g : FA} (ha : JE X W ca e f) (hr : JA X W ca es g) (hs : starEach (e :: es) X.env = (false, eval e X.env) :: starEach es X.env := by rfl) : JA X W ca (e :: es) (consA f g) := by
  obtain ⟨t, p, r⟩ := ha.ex
  obtain ⟨u, q, z⟩ := hr.ex
  refine ⟨_, pa_cons p q hs, fun σ H m env st Q s e h => ?_⟩
  refine r σ H m env st _ s e (Post.bind h fun x st1 m1 x' H1 p1 k1 s1 r1 h1 => ?_)
  refine z σ H1 m1 env st1 _ s1 (e.mono p1 k1) (Post.bind h1 fun y st2 m2 y' H2 p2 k2 s2 r2 h2 => ?_)
  exact h2.ok s2 (.cons (r1.mono p2 k2) r2)
theorem upd_t {K : PySem.W.Frag} {ca : Ca} {H : Hp} {m : List Addr} {st : Store} {p : Addr} {xs : List PV} {vs : List V} (s : SR K ca H m st) (hp : H p = none) (r : VRs K ca H m xs vs) :
    Keep K H (upd H p (.tup vs)) ∧ SR K ca (upd H p (.tup vs)) m st ∧ VR K ca (upd H p (.tup vs)) m (.tup xs) (.ref p) :=
  ⟨Keep.new hp, s.skip hp, .tup (SqT.of upd_same) (r.mono (List.prefix_refl _) (Keep.new hp))⟩
theorem upd_l {K : PySem.W.Frag} {ca : Ca} {H : Hp} {m : List Addr} {st : Store} {p : Addr} {xs : List PV} {vs : List V} (s : SR K ca H m st) (hp : H p = none) (r : VRs K ca H m xs vs) :
    m <+: m ++ [p] ∧ Keep K H (upd H p (.lst vs)) ∧ SR K ca (upd H p (.lst vs)) (m ++ [p]) (st ++ [.lst xs]) ∧ VR K ca (upd H p (.lst vs)) (m ++ [p]) (.ref st.length) (.ref p) :=
  ⟨List.prefix_append _ _, Keep.new hp, s.new hp ⟨vs, upd_same, r.mono (List.prefix_append _ _) (Keep.new hp)⟩, .ref (by rw [← s.len, List.getElem?_append_right (Nat.le_refl _), Nat.sub_self]; rfl)⟩
theorem je_tup {es : List Expr} {x1} {pos : Pos} {f : FA} (h : JA X W ca es f) : JE X W ca (.Tuple es x1 pos) (tupF f) := by
  obtain ⟨t, p, r⟩ := h.ex
  refine ⟨_, pe_tup p, fun σ H m env st Q s e h => ?_⟩
  refine r σ H m env st _ s e (Post.bind h fun x st1 m1 x' H1 p1 k1 s1 r1 h1 => ?_)
  split at h1
  · rename_i hz
    refine ⟨by rw [← r1.length]; exact hz, fun q hq => ?_⟩
    obtain ⟨a, b, c⟩ := upd_t s1 hq r1
    exact h1 m1 _ _ (List.prefix_refl _) a b c
  · exact h1.elim
theorem je_lst {es : List Expr} {pos : Pos} {f : FA} (h : JA X W ca es f) : JE X W ca (.List es pos) (lstF f) := by
  obtain ⟨t, p, r⟩ := h.ex
  refine ⟨_, pe_lst p, fun σ H m env st Q s e h => ?_⟩
  refine r σ H m env st _ s e (Post.bind h fun x st1 m1 x' H1 p1 k1 s1 r1 h1 => ?_)
  split at h1
  · rename_i hz
    refine ⟨by rw [← r1.length]; exact hz, fun q hq => ?_⟩
    obtain ⟨a, b, c, d⟩ := upd_l s1 hq r1
    exact h1 _ _ _ a b c d
  · exact h1.elim

/-! ### calls -/
/-- a def's promise, from what it does on values -/
def spF (K : PySem.W.Frag) (ca : Ca) (n : Nat) (F : Fn) : Sp := fun vs H Q E => ∃ m st xs, SR K ca H m st ∧ VRs K ca H m xs vs ∧ xs.length = n ∧ Post K ca (VR K ca) (fun x d H' => E (.ref (ca x.c)) d H') m H Q (F xs st)
/-- a def that can be called: level, parameters, the defaults that fill up -/
structure Cal (P : Program) (w : World) (K : PySem.W.Frag) (mg : Str → Option Value) (base : Heap) (ca : Ca) (k : Nat) (f : Addr) (fd : FuncData) (ps : List Str) (F : Fn) : Prop where
  ok : FnOk P w K mg base (L2.CX P w) k f fd ps (spF K ca ps.length F)
  kp : PySem.W.keepIn K (.ref f) = true
/-- the defaults that fill up -/
structure Bnd (K : PySem.W.Frag) (ca : Ca) (fd : FuncData) (ps : List Str) (ds : List PV) : Prop where
  ex : ∃ (us : List Value) (vs : List V), Binds K fd ps us ∧ Vals vs us ∧ ∀ H m, VRs K ca H m ds vs
theorem Bnd.nil {K : PySem.W.Frag} {fd : FuncData} {ps : List Str} (b : Binds K fd ps []) : Bnd K ca fd ps [] := ⟨[], [], b, .nil, fun _ _ => .nil⟩
theorem je_call {k n : Nat} {f : Addr} {fd : FuncData} {ps : List Str} {F : Fn} {ds : List PV} {x : Str} {p pos : Pos} {e : Expr} {es : List Expr} {fa : FA} (tk : Takes X W) (C : Cal X.prog X.w X.K X.mg X.base ca k f fd ps F) (b : Bnd X.K ca fd ps ds) (hr : Room k X.A) (hm : X.mg x = some (.ref f))
    (ha : JA X W ca (e :: es) fa) (hn : ps.length = n := by rfl) (hg : Gl X x := by rfl) (hdb : (x == ("__debug__" : Str)) = false := by decide) (he : starEach (e :: es) X.env = (false, eval e X.env) :: starEach es X.env := by rfl) (hpl : (backTo pos (starEach es X.env)).any (·.1) = false := by rfl) :
    JE X W ca (.Call (.Name x p) (e :: es) [] pos) (callF n F ds fa) := by
  subst hn
  obtain ⟨t, pa, r⟩ := ha.ex
  obtain ⟨us, vs, hb, hd, rd⟩ := b.ex
  refine ⟨_, pe_callSD (E := WE W) C.ok hr hg hm C.kp hb hd (passAt tk) pa hdb he hpl, fun σ H m env st Q s e h => ?_⟩
  refine r σ H m env st _ s e (Post.bind h fun x st1 m1 x' H1 p1 k1 s1 r1 h1 => ?_)
  split at h1
  · rename_i hl
    exact ⟨m1, st1, _, s1, r1.append (rd H1 m1), hl, h1⟩
  · exact h1.elim
theorem je_callB {id : String} {g : List PV → Store → O PV} {x : Str} {p pos : Pos} {e : Expr} {es : List Expr} {fa : FA} (hc : CbF X ca (.builtin id) g) (hm : X.mg x = none) (hv : bootBuiltins x = some (.builtin id)) (ha : JA X W ca (e :: es) fa) (hg : Gl X x := by rfl) (hn : x ≠ "__name__" := by decide) (hdb : (x == ("__debug__" : Str)) = false := by decide)
    (he : starEach (e :: es) X.env = (false, eval e X.env) :: starEach es X.env := by rfl) (hpl : (backTo pos (starEach es X.env)).any (·.1) = false := by rfl) : JE X W ca (.Call (.Name x p) (e :: es) [] pos) (cbF g fa) := by
  obtain ⟨t, pa, r⟩ := ha.ex
  obtain ⟨rr, pc, rc⟩ := hc
  refine ⟨_, pe_callB pc hg hm hv pa hn hdb he hpl, fun σ H m env st Q s e h => ?_⟩
  refine r σ H m env st _ s e (Post.bind h fun x st1 m1 x' H1 p1 k1 s1 r1 h1 => ?_)
  exact rc H1 m1 st1 x x' Q s1 r1 h1.of
theorem je_callTy {T : String} {g : List PV → Store → O PV} {x : Str} {p pos : Pos} {e : Expr} {es : List Expr} {fa : FA} (hc : CbF X ca (.type T) g) (hm : X.mg x = none) (hv : bootBuiltins x = some (.type T)) (ha : JA X W ca (e :: es) fa) (hg : Gl X x := by rfl) (hn : x ≠ "__name__" := by decide) (hdb : (x == ("__debug__" : Str)) = false := by decide)
    (he : starEach (e :: es) X.env = (false, eval e X.env) :: starEach es X.env := by rfl) (hpl : (backTo pos (starEach es X.env)).any (·.1) = false := by rfl) : JE X W ca (.Call (.Name x p) (e :: es) [] pos) (cbF g fa) := by
  obtain ⟨t, pa, r⟩ := ha.ex
  obtain ⟨rr, pc, rc⟩ := hc
  refine ⟨_, pe_callTy pc hg hm hv pa hn hdb he hpl, fun σ H m env st Q s e h => ?_⟩
  refine r σ H m env st _ s e (Post.bind h fun x st1 m1 x' H1 p1 k1 s1 r1 h1 => ?_)
  exact rc H1 m1 st1 x x' Q s1 r1 h1.of
/-! ### subscripts -/
theorem je_ix {g : PV → PV → Store → O PV} {a b : Expr} {pos : Pos} {fa fb : FE} (hi : IxF X ca g) (ha : JE X W ca a fa) (hb : JE X W ca b fb) (hs : PlainIx b := by exact fun _ _ => rfl) : JE X W ca (.Subscript a b pos) (opF g fa fb) := by
  obtain ⟨ta, pa, ra⟩ := ha.ex
  obtain ⟨tb, pb, rb⟩ := hb.ex
  obtain ⟨r, po, ro⟩ := hi
  refine ⟨_, pe_ix po pa pb hs, fun σ H m env st Q s e h => ?_⟩
  refine ra σ H m env st _ s e (Post.bind h fun x st1 m1 x' H1 p1 k1 s1 r1 h1 => ?_)
  refine rb σ H1 m1 env st1 _ s1 (e.mono p1 k1) (Post.bind h1 fun y st2 m2 y' H2 p2 k2 s2 r2 h2 => ?_)
  exact ro H2 m2 st2 x y x' y' Q s2 (r1.mono p2 k2) r2 h2.of
end
end
end FL
end
section
set_option linter.all false
set_option maxRecDepth 100000
namespace FL
open PySem PySem.Spec PyProof.Rows L2
noncomputable section

/-! ## statements -/
def R.toS {α : Type} (r : R α) (e : Env) (g : α → Store → RS) : RS :=
  match r with
  | .ok a s => g a s
  | .er x s => .er x e s
  | .no => .no
def nxS : FS := fun e st => .nx e st
def bkS : FS := fun e st => .bk e st
def ctS : FS := fun e st => .ct e st
def seqS (f g : FS) : FS := fun e st => match f e st with
  | .nx e1 s1 => g e1 s1
  | r => r
def ifS (c : FT) (f g : FS) : FS := fun e st => (c e st).toS e fun k s1 => if k = true then f e s1 else g e s1
def dropS (f : FE) : FS := fun e st => (f e st).toS e fun _ s1 => .nx e s1
def retS (f : FE) : FS := fun e st => (f e st).toS e fun v s1 => .rt v s1
def retN : FS := fun _ st => .rt .non st
def setS (i : Nat) (f : FE) : FS := fun e st => (f e st).toS e fun v s1 => .nx (e.set i (some v)) s1
def augS (i : Nat) (g : PV → PV → Store → O PV) (f : FE) : FS := fun e st => match e[i]? with
  | some (some x) => (f e st).toS e fun y s1 => (R.of (g x y s1)).toS e fun z s2 => .nx (e.set i (some z)) s2
  | _ => .no
def nameG (i : Nat) : FG := fun v e => some (e.set i (some v))
def nilG : List PV → Env → Option Env := fun vs e => match vs with
  | [] => some e
  | _ => none
def consG (g : FG) (h : List PV → Env → Option Env) : List PV → Env → Option Env := fun vs e => match vs with
  | v :: r => (g v e).bind fun e1 => h r e1
  | [] => none
def tupG (n : Nat) (h : List PV → Env → Option Env) : FG := fun v e => match v with
  | .tup xs => if xs.length = n then h xs e else none
  | _ => none
def asgS (g : FG) (f : FE) : FS := fun e st => (f e st).toS e fun v s1 => match g v e with
  | some e1 => .nx e1 s1
  | none => .no
/-- o[i] = v: the value first -/
def subS (g : PV → PV → PV → Store → Option Store) (fv fo fi : FE) : FS := fun e st => (fv e st).toS e fun v s1 => (fo e s1).toS e fun o s2 => (fi e s2).toS e fun i s3 => match g o i v s3 with
  | some s4 => .nx e s4
  | none => .no

section
variable {K : PySem.W.Frag} {ca : Ca} {m m' : List Addr} {H H' : Hp}
theorem Post.toS {α β : Type} {rel : Hp → List Addr → α → β → Prop} {E : Ex → Option Addr → L2.St → Hp → Prop} {Q1 : β → Hp → Prop} {D : Ends} {r : R α} {env : Env} {σ : L2.St} {g : α → Store → RS}
    (h : PostS K ca E m H D (r.toS env g)) (e : ER K ca H m env σ)
    (f : ∀ a st1 m1 b H1, m <+: m1 → Keep K H H1 → SR K ca H1 m1 st1 → rel H1 m1 a b → PostS K ca E m1 H1 D (g a st1) → Q1 b H1) : Post K ca rel (fun x d H => E x d σ H) m H Q1 r := by
  cases r with
  | ok a st => exact fun m1 b H1 p k s q => f a st m1 b H1 p k s q (PostS.mono h p k)
  | er x st => exact fun m1 d H1 p k s q => h m1 d σ H1 p k s (e.mono p k) q
  | no => exact h
theorem PostS.nx {E : Ex → Option Addr → L2.St → Hp → Prop} {D : Ends} {env : Env} {σ : L2.St} {st : Store} (h : PostS K ca E m H D (.nx env st)) (s : SR K ca H m st) (e : ER K ca H m env σ) : D.nx σ H :=
  h m σ H (List.prefix_refl _) Keep.refl s e
theorem ER.set {env : Env} {σ : L2.St} {v : PV} {w : V} (e : ER K ca H m env σ) (r : VR K ca H m v w) (i : Nat) : ER K ca H m (env.set i (some v)) (σ.set i (some w)) := by
  refine ⟨by rw [List.length_set, List.length_set, e.1], fun j u q => ?_⟩
  by_cases hj : i = j
  · subst hj
    have hi : i < env.length := by
      have := (List.getElem?_eq_some_iff.mp q).1
      rwa [List.length_set] at this
    rw [List.getElem?_set_self hi] at q
    cases q
    exact ⟨w, by rw [List.getElem?_set_self (by rw [← e.1]; exact hi)], r⟩
  · rw [List.getElem?_set_ne hj] at q ⊢
    exact e.2 j u q
end

section
variable {X : Cx} {W : WX} {ca : Ca} {pos : Pos}
theorem jss_nil : JSs X W ca [] nxS := ⟨_, pss_nil, fun σ H m env st D s e h => h.nx s e⟩
theorem jss_cons {s : Stmt} {rest : List Stmt} {f g : FS} (h1 : JS X W ca s f) (h2 : JSs X W ca rest g) : JSs X W ca (s :: rest) (seqS f g) := by
  obtain ⟨t, p, r⟩ := h1.ex
  obtain ⟨u, q, z⟩ := h2.ex
  refine ⟨_, pss_cons p q, fun σ H m env st D s e h => ?_⟩
  refine r σ H m env st _ s e ?_
  unfold seqS at h
  cases c : f env st with
  | nx e1 s1 =>
    rw [c] at h
    exact fun m1 σ1 H1 p1 k1 s2 e2 => z σ1 H1 m1 e1 s1 D s2 e2 (PostS.mono h p1 k1)
  | rt v s1 => rw [c] at h; exact h
  | bk e1 s1 => rw [c] at h; exact h
  | ct e1 s1 => rw [c] at h; exact h
  | er x e1 s1 => rw [c] at h; exact h
  | no => rw [c] at h; exact h
theorem jss_one {s : Stmt} {f : FS} (h1 : JS X W ca s f) : JSs X W ca [s] f := by
  obtain ⟨t, p, r⟩ := h1.ex
  exact ⟨_, pss_one p, r⟩
theorem js_pass : JS X W ca (.Pass pos) nxS := ⟨_, ps_pass, fun σ H m env st D s e h => h.nx s e⟩
theorem js_break : JS X W ca (.Break pos) bkS := ⟨_, ps_break, fun σ H m env st D s e h => h m σ H (List.prefix_refl _) Keep.refl s e⟩
theorem js_continue : JS X W ca (.Continue pos) ctS := ⟨_, ps_continue, fun σ H m env st D s e h => h m σ H (List.prefix_refl _) Keep.refl s e⟩
theorem js_doc {x j pos pos'} : JS X W ca (.Expr (.Constant (.str x) j pos) pos') nxS := ⟨_, ps_doc, fun σ H m env st D s e h => h.nx s e⟩
theorem js_expr {e : Expr} {f : FE} (he : JE X W ca e f) (hs : swapsWith e none pos.line X.env = pure false := by rfl) : JS X W ca (.Expr e pos) (dropS f) := by
  obtain ⟨t, p, r⟩ := he.ex
  refine ⟨_, ps_expr p hs, fun σ H m env st D s e h => ?_⟩
  exact r σ H m env st _ s e (Post.toS h e fun v st1 m1 w H1 p1 k1 s1 r1 h1 => h1.nx s1 (e.mono p1 k1))
theorem js_ret {e : Expr} {f : FE} (he : JE X W ca e f) : JS X W ca (.Return (some e) pos) (retS f) := by
  obtain ⟨t, p, r⟩ := he.ex
  refine ⟨_, ps_ret p, fun σ H m env st D s e h => ?_⟩
  exact r σ H m env st _ s e (Post.toS h e fun v st1 m1 w H1 p1 k1 s1 r1 h1 => h1 m1 w H1 (List.prefix_refl _) Keep.refl s1 r1)
theorem js_retN : JS X W ca (.Return none pos) retN := ⟨_, ps_retN, fun σ H m env st D s e h => h m .non H (List.prefix_refl _) Keep.refl s .non⟩
theorem js_if {c : Expr} {a b : List Stmt} {fc : FT} {f g : FS} (hc : JT X W ca c fc) (ha : JSs X W ca a f) (hb : JSs X W ca b g) : JS X W ca (.If c a b pos) (ifS fc f g) := by
  obtain ⟨tc, pc, rc⟩ := hc.ex
  obtain ⟨t, p, r⟩ := ha.ex
  obtain ⟨u, q, z⟩ := hb.ex
  refine ⟨_, ps_if pc p q, fun σ H m env st D s e h => ?_⟩
  refine rc σ H m env st _ s e (Post.toS h e fun k st1 m1 k' H1 p1 k1 s1 r1 h1 => ?_)
  have rk : k = k' := r1
  subst rk
  cases k with
  | true => exact r σ H1 m1 env st1 D s1 (e.mono p1 k1) h1
  | false => exact z σ H1 m1 env st1 D s1 (e.mono p1 k1) h1
theorem js_set {i : Nat} {x : Str} {e : Expr} {f : FE} {pos' : Pos} (hN : X.N.Nodup) (he : JE X W ca e f) (hi : X.N[i]? = some x := by rfl) (hx : Loc X.env.scope x := by first | exact Or.inl rfl | exact Or.inr rfl) (hs : swapsWith e (some (.Name x pos')) pos.line X.env = pure false := by rfl) (hf : X.fn x = true ∨ X.env.scope.names.lookup x = some .local := by first | exact .inl rfl | exact .inr rfl | assumption) :
    JS X W ca (.Assign [.Name x pos'] e pos) (setS i f) := by
  obtain ⟨t, p, r⟩ := he.ex
  refine ⟨_, ps_set hN hi hx p hs hf, fun σ H m env st D s e h => ?_⟩
  refine r σ H m env st _ s e (Post.toS h e fun v st1 m1 w H1 p1 k1 s1 r1 h1 => ?_)
  exact h1.nx s1 ((e.mono p1 k1).set r1 i)
theorem js_aug {i : Nat} {x : Str} {e : Expr} {f : FE} {op : Operator} {g : PV → PV → Store → O PV} {pos' : Pos} (hN : X.N.Nodup) (ho : OpF X ca (inplaceOp op) g) (he : JE X W ca e f) (hi : X.N[i]? = some x := by rfl) (hx : Loc X.env.scope x := by first | exact Or.inl rfl | exact Or.inr rfl) (hf : X.fn x = true ∨ X.env.scope.names.lookup x = some .local := by first | exact .inl rfl | exact .inr rfl | assumption) :
    JS X W ca (.AugAssign (.Name x pos') op e pos) (augS i g f) := by
  obtain ⟨t, p, r⟩ := he.ex
  obtain ⟨rr, po, ro⟩ := ho
  refine ⟨_, ps_aug (ti := rr) hN hi hx p (fun pins s σ H x y v u Q I rx ry q => po pins s σ H x y v u Q I rx ry q) hf, fun σ H m env st D s e h => ?_⟩
  unfold augS at h
  split at h
  · rename_i x hx
    obtain ⟨w, h1, h2⟩ := e.2 i x hx
    refine ⟨w, h1, ?_⟩
    refine r σ H m env st _ s e (Post.toS h e fun y st1 m1 y' H1 p1 k1 s1 r1 h3 => ?_)
    refine ro H1 m1 st1 x y w y' _ s1 (h2.mono p1 k1) r1 (Post.of (Post.toS h3 (e.mono p1 k1) fun z st2 m2 z' H2 p2 k2 s2 r2 h4 => ?_))
    exact h4.nx s2 ((e.mono (p1.trans p2) (k1.trans k2)).set r2 i)
  · exact h.elim

/-! ### targets -/
/-- sl: the slots that are written -/
structure JG' (X : Cx) (ca : Ca) (tg : Expr) (sl : List Nat) (g : FG) : Prop where
  ex : ∃ t, PG X tg t ∧ ∀ σ H m env v w env' Q, ER X.K ca H m env σ → VR X.K ca H m v w → g v env = some env' → (∀ σ', ER X.K ca H m env' σ' → (σ'.length = σ.length ∧ ∀ j, j ∉ sl → σ'[j]? = σ[j]?) → Q σ' H) → t w σ H Q
structure JGs' (X : Cx) (ca : Ca) (tgs : List Expr) (sl : List Nat) (g : List PV → Env → Option Env) : Prop where
  ex : ∃ t, PGs X tgs t ∧ ∀ σ H m env v w env' Q, ER X.K ca H m env σ → VRs X.K ca H m v w → g v env = some env' → (∀ σ', ER X.K ca H m env' σ' → (σ'.length = σ.length ∧ ∀ j, j ∉ sl → σ'[j]? = σ[j]?) → Q σ' H) → t w σ H Q
theorem jg_name {i : Nat} {x : Str} (hN : X.N.Nodup) (hi : X.N[i]? = some x := by rfl) (hx : Loc X.env.scope x := by first | exact Or.inl rfl | exact Or.inr rfl) (hf : X.fn x = true ∨ X.env.scope.names.lookup x = some .local := by first | exact .inl rfl | exact .inr rfl | assumption) :
    JG' X ca (.Name x pos) [i] (nameG i) :=
  ⟨_, pg_name hN hi hx hf, fun σ H m env v w env' Q e r hg q => by
    cases hg
    refine q _ (e.set r i) ⟨List.length_set, fun j hj => ?_⟩
    rw [List.getElem?_set_ne (fun z => hj (List.mem_singleton.mpr z.symm))]⟩
theorem jgs_nil : JGs' X ca [] [] nilG := ⟨_, pgs_nil, fun σ H m env v w env' Q e r hg q => by
  cases r with
  | nil => cases hg; exact ⟨rfl, q _ e ⟨rfl, fun _ _ => rfl⟩⟩
  | cons a b => cases hg⟩
theorem jgs_cons {e : Expr} {es : List Expr} {sl sl2 : List Nat} {g : FG} {h : List PV → Env → Option Env} (h1 : JG' X ca e sl g) (h2 : JGs' X ca es sl2 h)
    (hs : (assignEach (e :: es) X.env).map (·.2) = assign e X.env :: (assignEach es X.env).map (·.2) := by rfl) : JGs' X ca (e :: es) (sl ++ sl2) (consG g h) := by
  obtain ⟨t, p, r⟩ := h1.ex
  obtain ⟨u, q, z⟩ := h2.ex
  refine ⟨_, pgs_cons p q hs, fun σ H m env v w env' Q e rv hg k => ?_⟩
  cases rv with
  | nil => cases hg
  | cons ra rb =>
    rename_i x v xs vs
    unfold consG at hg
    simp only at hg
    cases c : g x env with
    | none => rw [c] at hg; cases hg
    | some e1 =>
      rw [c] at hg
      refine ⟨v, vs, rfl, r σ H m env x v e1 _ e ra c fun σ1 e2 n1 => ?_⟩
      refine z σ1 H m e1 xs vs env' Q e2 rb hg fun σ2 e3 n2 => k σ2 e3 ⟨n2.1.trans n1.1, fun j hj => ?_⟩
      rw [List.mem_append, not_or] at hj
      rw [n2.2 j hj.2, n1.2 j hj.1]
theorem jg_tup {es : List Expr} {k : Nat} {sl : List Nat} {h : List PV → Env → Option Env} {n : Nat} (hc : X.calm = true) (hg : JGs' X ca es sl h)
    (hn : (assignEach es X.env).length = n := by rfl) (hst : (assignEach es X.env).findIdx? (·.1) = none := by rfl) : JG' X ca (.Tuple es k pos) sl (tupG n h) := by
  obtain ⟨t, p, r⟩ := hg.ex
  refine ⟨_, pg_tup hc p hn hst, fun σ H m env v w env' Q e rv hh q => ?_⟩
  cases rv with
  | tup hs rs =>
    rename_i xs a vs
    simp only [tupG] at hh
    split at hh
    · rename_i hl
      exact ⟨a, vs, rfl, hs, by rw [← rs.length]; exact hl, r σ H m env xs vs env' Q e rs hh q⟩
    · cases hh
  | _ => cases hh
theorem js_asg {tg e : Expr} {sl : List Nat} {f : FE} {g : FG} (he : JE X W ca e f) (hg : JG' X ca tg sl g) (hs : swapsWithSole [tg] e pos.line X.env = pure false := by rfl) (hw : swappedStores [tg] e X.env = pure none := by rfl)
    (h1 : (assignEach [tg] X.env).map (·.2) = [assign tg X.env] := by rfl) : JS X W ca (.Assign [tg] e pos) (asgS g f) := by
  obtain ⟨t, p, r⟩ := he.ex
  obtain ⟨u, q, z⟩ := hg.ex
  refine ⟨_, ps_asg p q hs hw h1, fun σ H m env st D s e h => ?_⟩
  refine r σ H m env st _ s e (Post.toS h e fun v st1 m1 w H1 p1 k1 s1 r1 h2 => ?_)
  cases c : g v env with
  | none => rw [c] at h2; exact h2.elim
  | some e1 =>
    rw [c] at h2
    exact z σ H1 m1 env v w e1 _ (e.mono p1 k1) r1 c fun σ' e' _ => h2.nx s1 e'
/-- a store by values -/
def SetF (X : Cx) (ca : Ca) (g : PV → PV → PV → Store → Option Store) : Prop :=
  ∃ t, PSet X t ∧ ∀ H m st o i v o' i' v' st' Q, SR X.K ca H m st → VR X.K ca H m o o' → VR X.K ca H m i i' → VR X.K ca H m v v' → g o i v st = some st' → (∀ H', Keep X.K H H' → SR X.K ca H' m st' → Q H') → t o' i' v' H Q
theorem js_sub {o i e : Expr} {g : PV → PV → PV → Store → Option Store} {fv fo fi : FE} {pos' : Pos} (hs : SetF X ca g) (he : JE X W ca e fv) (ho : JE X W ca o fo) (hi : JE X W ca i fi)
    (ha : ∀ v, assign (.Subscript o i pos') X.env v = (do
      let ov ← holding [v] (eval o X.env)
      let iv ← holding [v, ov] (eval i X.env)
      standAt pos'
      holding [v, ov, iv] (setItem ov iv v)
      release [v, ov, iv] []) := by intro _; rfl)
    (hs1 : swapsWithSole [.Subscript o i pos'] e pos.line X.env = pure false := by rfl) (hw : swappedStores [.Subscript o i pos'] e X.env = pure none := by rfl)
    (h1 : (assignEach [.Subscript o i pos'] X.env).map (·.2) = [assign (.Subscript o i pos') X.env] := by rfl) : JS X W ca (.Assign [.Subscript o i pos'] e pos) (subS g fv fo fi) := by
  obtain ⟨t, p, r⟩ := he.ex
  obtain ⟨to, po, ro⟩ := ho.ex
  obtain ⟨ti, pi, ri⟩ := hi.ex
  obtain ⟨ts, pS, rs⟩ := hs
  refine ⟨_, ps_asg p (pg_sub po pi pS ha) hs1 hw h1, fun σ H m env st D s e h => ?_⟩
  refine r σ H m env st _ s e (Post.toS h e fun v st1 m1 v' H1 p1 k1 s1 r1 h2 => ?_)
  refine ro σ H1 m1 env st1 _ s1 (e.mono p1 k1) (Post.toS h2 (e.mono p1 k1) fun ov st2 m2 o' H2 p2 k2 s2 r2 h3 => ?_)
  have e2 := (e.mono p1 k1).mono p2 k2
  refine ri σ H2 m2 env st2 _ s2 e2 (Post.toS h3 e2 fun iv st3 m3 i' H3 p3 k3 s3 r3 h4 => ?_)
  cases c : g ov iv v st3 with
  | none => rw [c] at h4; exact h4.elim
  | some st4 =>
    rw [c] at h4
    refine rs H3 m3 st3 ov iv v o' i' v' st4 _ s3 (r2.mono p3 k3) r3 (r1.mono (p2.trans p3) (k2.trans k3)) c fun H4 k4 s4 => ?_
    exact h4 m3 σ H4 (List.prefix_refl _) k4 s4 ((e2.mono p3 k3).mono (List.prefix_refl _) k4)

/-! ### what is walked -/
structure Wk where
  its : List PV
  gd : List (Nat × PO)
abbrev FI := Env → Store → R Wk
def GdOk (gd : List (Nat × PO)) (st : Store) : Prop := ∀ p ∈ gd, st[p.1]? = some p.2
def ItR (K : PySem.W.Frag) (ca : Ca) (H : Hp) (m : List Addr) (k : Wk) (J : It) : Prop := ∀ (i : Nat) m' H' st', m <+: m' → Keep K H H' → SR K ca H' m' st' → GdOk k.gd st' →
  (∀ v, k.its[i]? = some v → J.go i H' ∧ ∀ x H'', J.yld i H' x H'' → Keep K H' H'' ∧ SR K ca H'' m' st' ∧ VR K ca H'' m' v x) ∧ (k.its.length ≤ i → J.stop i H')
structure JI (X : Cx) (W : WX) (ca : Ca) (tg iter : Expr) (f : FI) : Prop where
  ex : ∃ t, PI X tg iter t ∧ ∀ σ H m env st Q, SR X.K ca H m st → ER X.K ca H m env σ → Post X.K ca (ItR X.K ca) (EW W ca σ) m H Q (f env st) → t σ H Q
open Classical in
def forL (gd : List (Nat × PO)) (g : FG) (b : FS) : List PV → FS
  | [] => fun e st => if GdOk gd st then .nx e st else .no
  | x :: xs => fun e st => if GdOk gd st then
      (match g x e with
        | none => .no
        | some e1 => match b e1 st with
          | .nx e2 s2 => forL gd g b xs e2 s2
          | .ct e2 s2 => forL gd g b xs e2 s2
          | .bk e2 s2 => .nx e2 s2
          | r => r)
      else .no
def forS (fi : FI) (g : FG) (b : FS) : FS := fun e st => (fi e st).toS e fun k s1 => forL k.gd g b k.its e s1
theorem js_for {iter tg : Expr} {body : List Stmt} {sl : List Nat} {fi : FI} {g : FG} {b : FS} (hp : PassesOwn (model X.prog X.w) X.A X.env X.xe) (hc : X.calm = true) (hi : JI X W ca tg iter fi) (hg : JG' X ca tg sl g) (hb : JSs X W ca body b) (hs : ∀ x, foldedSetIterable iter X.env x = pure x := by intro _; rfl) :
    JS X W ca (.For tg iter body [] pos) (forS fi g b) := by
  obtain ⟨ti, pi, ri⟩ := hi.ex
  obtain ⟨tg', pg, rg⟩ := hg.ex
  obtain ⟨tb, pb, rb⟩ := hb.ex
  refine ⟨_, ps_for hp hc pi pg pb hs, fun σ H m env st D s e h => ?_⟩
  refine ri σ H m env st _ s e (Post.toS h e fun k st1 m1 J H1 p1 k1 s1 r1 h1 => ?_)
  refine ⟨fun i n σ' H' => ∃ m' env' st', m1 <+: m' ∧ Keep X.K H1 H' ∧ SR X.K ca H' m' st' ∧ ER X.K ca H' m' env' σ' ∧ i + n = k.its.length ∧ PostS X.K ca (EWs W ca) m' H' D (forL k.gd g b (k.its.drop i) env' st'),
    ⟨k.its.length, m1, env, st1, List.prefix_refl _, Keep.refl, s1, e.mono p1 k1, Nat.zero_add _, h1⟩, ?_⟩
  rintro i n σ' H' ⟨m', env', st', pm, km, s', e', en, h'⟩
  by_cases hlt : i < k.its.length
  · obtain ⟨v, hv⟩ : ∃ v, k.its[i]? = some v := ⟨_, List.getElem?_eq_getElem hlt⟩
    have hd : k.its.drop i = v :: k.its.drop (i + 1) := by
      have e1 := List.drop_eq_getElem_cons hlt
      rw [List.getElem?_eq_getElem hlt] at hv
      cases hv
      exact e1
    rw [hd] at h'
    unfold forL at h'
    split at h'
    · rename_i hgd
      obtain ⟨hgo, hy⟩ := (r1 i m' H' st' pm km s' hgd).1 v hv
      refine .inr ⟨hgo, fun σ2 H2 => ∃ m' env' st', m1 <+: m' ∧ Keep X.K H1 H2 ∧ SR X.K ca H2 m' st' ∧ ER X.K ca H2 m' env' σ2 ∧ (i + 1) + (n - 1) = k.its.length ∧ PostS X.K ca (EWs W ca) m' H2 D (forL k.gd g b (k.its.drop (i + 1)) env' st'), fun σ2 H2 hN => ⟨n - 1, by omega, hN⟩, fun x H2 hyl => ?_⟩
      obtain ⟨k2, s2, r2⟩ := hy x H2 hyl
      cases c : g v env' with
      | none => rw [c] at h'; exact h'.elim
      | some e1 =>
        rw [c] at h'
        refine rg σ' H2 m' env' v x e1 _ (e'.mono (List.prefix_refl _) k2) r2 c fun σ3 e3 _ => ?_
        refine rb σ3 H2 m' e1 st' _ s2 e3 ?_
        have h3 := PostS.mono h' (List.prefix_refl _) k2
        simp only at h3
        cases q : b e1 st' with
        | nx e4 s4 =>
          rw [q] at h3
          exact fun m5 σ5 H5 p5 k5 s5 e5 => ⟨m5, e4, s4, pm.trans p5, (km.trans k2).trans k5, s5, e5, by omega, PostS.mono h3 p5 k5⟩
        | ct e4 s4 =>
          rw [q] at h3
          exact fun m5 σ5 H5 p5 k5 s5 e5 => ⟨m5, e4, s4, pm.trans p5, (km.trans k2).trans k5, s5, e5, by omega, PostS.mono h3 p5 k5⟩
        | bk e4 s4 => rw [q] at h3; exact h3
        | rt v4 s4 => rw [q] at h3; exact h3
        | er x4 e4 s4 => rw [q] at h3; exact h3
        | no => rw [q] at h3; exact h3
    · exact h'.elim
  · rw [List.drop_eq_nil_of_le (by omega)] at h'
    unfold forL at h'
    split at h'
    · rename_i hgd
      exact .inl ⟨(r1 i m' H' st' pm km s' hgd).2 (by omega), h'.nx s' e'⟩
    · exact h'.elim

/-! ### while -/
def whL (c : FT) (b : FS) : Nat → FS
  | 0 => fun _ _ => .no
  | n + 1 => fun e st => (c e st).toS e fun k s1 => if k = true then
      (match b e s1 with
        | .nx e2 s2 => whL c b n e2 s2
        | .ct e2 s2 => whL c b n e2 s2
        | .bk e2 s2 => .nx e2 s2
        | r => r)
      else .nx e s1
@[irreducible] def FUEL : Nat := 1000000
theorem FUEL_eq : FUEL = 1000000 := by unfold FUEL; rfl
def whS (c : FT) (b : FS) : FS := whL c b FUEL
theorem js_while {c : Expr} {body : List Stmt} {fc : FT} {b : FS} (hp : PassesOwn (model X.prog X.w) X.A X.env X.xe) (hc : JT X W ca c fc) (hb : JSs X W ca body b) : JS X W ca (.While c body [] pos) (whS fc b) := by
  obtain ⟨tc, pc, rc⟩ := hc.ex
  obtain ⟨tb, pb, rb⟩ := hb.ex
  refine ⟨_, ps_while hp pc pb, fun σ H m env st D s e h => ?_⟩
  refine ⟨fun n σ' H' => ∃ m' env' st', SR X.K ca H' m' st' ∧ ER X.K ca H' m' env' σ' ∧ PostS X.K ca (EWs W ca) m' H' D (whL fc b n env' st'), ⟨FUEL, m, env, st, s, e, h⟩, ?_⟩
  rintro n σ' H' ⟨m', env', st', s', e', h'⟩
  cases n with
  | zero => exact h'.elim
  | succ n =>
    unfold whL at h'
    refine rc σ' H' m' env' st' _ s' e' (Post.toS h' e' fun k st1 m1 k' H1 p1 k1 s1 r1 h1 => ?_)
    have rk : k = k' := r1
    subst rk
    cases k with
    | false => exact h1.nx s1 (e'.mono p1 k1)
    | true =>
      rw [if_pos rfl] at h1 ⊢
      refine ⟨fun σ2 H2 => ∃ m' env' st', SR X.K ca H2 m' st' ∧ ER X.K ca H2 m' env' σ2 ∧ PostS X.K ca (EWs W ca) m' H2 D (whL fc b n env' st'), fun σ2 H2 hN => ⟨n, Nat.lt_succ_self _, hN⟩, ?_⟩
      refine rb σ' H1 m1 env' st1 _ s1 (e'.mono p1 k1) ?_
      cases q : b env' st1 with
      | nx e4 s4 =>
        rw [q] at h1
        exact fun m5 σ5 H5 p5 k5 s5 e5 => ⟨m5, e4, s4, s5, e5, PostS.mono h1 p5 k5⟩
      | ct e4 s4 =>
        rw [q] at h1
        exact fun m5 σ5 H5 p5 k5 s5 e5 => ⟨m5, e4, s4, s5, e5, PostS.mono h1 p5 k5⟩
      | bk e4 s4 => rw [q] at h1; exact h1
      | rt v4 s4 => rw [q] at h1; exact h1
      | er x4 e4 s4 => rw [q] at h1; exact h1
      | no => rw [q] at h1; exact h1
end
end
end FL
end
section
set_option linter.all false
set_option maxRecDepth 100000
namespace FL
open PySem PySem.Spec PyProof.Rows L2
noncomputable section

/-! ## comprehensions -/
def wipeE (e : Env) : List Nat → Env
  | [] => e
  | v :: vs => (wipeE e vs).set v none
theorem ER.wipe {K : PySem.W.Frag} {ca : Ca} {m : List Addr} {H : Hp} {e : Env} {σ : L2.St} (h : ER K ca H m e σ) : ∀ vs : List Nat, ER K ca H m (wipeE e vs) (wipe σ vs)
  | [] => h
  | v :: vs => by
    have ih := h.wipe vs
    unfold wipeE L2.wipe
    refine ⟨by rw [List.length_set, List.length_set, ih.1], fun j u q => ?_⟩
    by_cases hj : v = j
    · subst hj
      by_cases hv : v < (wipeE e vs).length
      · rw [List.getElem?_set_self hv] at q; cases q
      · rw [List.getElem?_eq_none (by simpa using hv)] at q; cases q
    · rw [List.getElem?_set_ne hj] at q ⊢
      exact ih.2 j u q
theorem wipe_at {σ : L2.St} {j : Nat} : ∀ {vs : List Nat}, (wipe σ vs)[j]? = if j ∈ vs then (if j < σ.length then some none else none) else σ[j]?
  | [] => by simp [wipe]
  | v :: vs => by
    unfold L2.wipe
    by_cases hj : v = j
    · subst hj
      rw [if_pos List.mem_cons_self]
      by_cases hv : v < σ.length
      · rw [if_pos hv, List.getElem?_set_self (by rw [wipe_length]; exact hv)]
      · rw [if_neg hv, List.getElem?_eq_none (by rw [List.length_set, wipe_length]; omega)]
    · rw [List.getElem?_set_ne hj, wipe_at (vs := vs)]
      have : (j ∈ v :: vs) ↔ j ∈ vs := by
        rw [List.mem_cons]
        exact ⟨fun q => q.resolve_left fun z => hj z.symm, .inr⟩
      simp only [this]
theorem wipe_same {σ τ : L2.St} {vs sl : List Nat} (hl : τ.length = σ.length) (hs : ∀ j ∈ sl, j ∈ vs) (h : ∀ j, j ∉ sl → τ[j]? = (wipe σ vs)[j]?) : wipe τ vs = wipe σ vs := by
  apply List.ext_getElem?
  intro j
  rw [wipe_at, wipe_at]
  by_cases hj : j ∈ vs
  · rw [if_pos hj, if_pos hj, hl]
  · rw [if_neg hj, if_neg hj, h j fun z => hj (hs j z), wipe_at, if_neg hj]
open Classical in
def lcL (gd : List (Nat × PO)) (g : FG) (ft : FT) (fe : FE) (n : Nat) (e0 : Env) : List PV → Store → O PV
  | [], st => if GdOk gd st then some (.ref n, st) else none
  | x :: xs, st => if GdOk gd st then
      (match g x e0 with
        | none => none
        | some e1 => match ft e1 st with
          | .ok true s1 => (match fe e1 s1 with
            | .ok v s2 => (match s2[n]? with
              | some (.lst acc) => if acc.length < sizeLine then lcL gd g ft fe n e0 xs (s2.set n (.lst (acc ++ [v]))) else none
              | _ => none)
            | _ => none)
          | .ok false s1 => lcL gd g ft fe n e0 xs s1
          | _ => none)
      else none
def yesT : FT := fun _ st => .ok true st
def lcF (fi : FI) (own : List Nat) (g : FG) (ft : FT) (fe : FE) : FE := fun e st => (fi e st).bind fun k s1 => R.of (lcL k.gd g ft fe s1.length (wipeE e own) k.its (s1 ++ [.lst []]))

section
variable {X : Cx} {W : WX} {ca : Ca} {pos : Pos}
abbrev W0 : WX := fun _ _ _ _ => False
/-- a clause's tests -/
structure JTs (X : Cx) (W : WX) (ca : Ca) (es : List Expr) (f : FT) : Prop where
  ex : ∃ t, PTs X es t ∧ ∀ σ H m env st Q, SR X.K ca H m st → ER X.K ca H m env σ → Post X.K ca rB (EW W ca σ) m H Q (f env st) → t σ H Q
theorem jts_nil : JTs X W ca [] yesT := ⟨_, pts_nil, fun σ H m env st Q s e h => h.ok s rfl⟩
theorem jts_one {c : Expr} {f : FT} (h : JT X W ca c f) : JTs X W ca [c] f := by
  obtain ⟨t, p, r⟩ := h.ex
  exact ⟨_, pts_one p, r⟩
/-- what a comprehension's reading asks, from what it does -/
theorem lc_ok {ti : TI} {tg : TG} {tt : TT} {te : TE} {fi : FI} {own sl : List Nat} {g : FG} {ft : FT} {fe : FE} (hsl : ∀ j ∈ sl, j ∈ own)
    (ri : ∀ σ H m env st Q, SR X.K ca H m st → ER X.K ca H m env σ → Post X.K ca (ItR X.K ca) (EW W ca σ) m H Q (fi env st) → ti σ H Q)
    (rg : ∀ σ H m env v w env' Q, ER X.K ca H m env σ → VR X.K ca H m v w → g v env = some env' → (∀ σ', ER X.K ca H m env' σ' → (σ'.length = σ.length ∧ ∀ j, j ∉ sl → σ'[j]? = σ[j]?) → Q σ' H) → tg w σ H Q)
    (rt : ∀ σ H m env st Q, SR X.K ca H m st → ER X.K ca H m env σ → Post X.K ca rB (EW W0 ca σ) m H Q (ft env st) → tt σ H Q)
    (re : ∀ σ H m env st Q, SR X.K ca H m st → ER X.K ca H m env σ → Post X.K ca (VR X.K ca) (EW W0 ca σ) m H Q (fe env st) → te σ H Q)
    {σ : L2.St} {H : Hp} {m : List Addr} {env : Env} {st : Store} {Q : VK} (s : SR X.K ca H m st) (e : ER X.K ca H m env σ) (h : Post X.K ca (VR X.K ca) (EW W ca σ) m H Q (lcF fi own g ft fe env st)) : tLc ti tg tt te own σ H Q := by
  refine ri σ H m env st _ s e (Post.bind h fun k st1 m1 J H1 p1 k1 s1 r1 h1 => ?_)
  intro D hD
  obtain ⟨pD, kD, sD, rD⟩ := upd_l (K := X.K) (ca := ca) (xs := []) (vs := []) s1 hD .nil
  refine ⟨fun i n H' => ∃ m' st', m1 ++ [D] <+: m' ∧ Keep X.K H1 H' ∧ SR X.K ca H' m' st' ∧ i + n = k.its.length ∧ Post0 X.K ca (VR X.K ca) m' H' Q (lcL k.gd g ft fe st1.length (wipeE env own) (k.its.drop i) st'),
    ⟨k.its.length, m1 ++ [D], st1 ++ [.lst []], List.prefix_refl _, kD, sD, Nat.zero_add _, Post0.mono h1.of pD kD⟩, ?_⟩
  rintro i n H' ⟨m', st', pm, km, s', en, h'⟩
  have pm1 : m1 <+: m' := pD.trans pm
  have hn : m'[st1.length]? = some D := pre_get pm (by rw [← s1.len, List.getElem?_append_right (Nat.le_refl _), Nat.sub_self]; rfl)
  by_cases hlt : i < k.its.length
  · obtain ⟨v, hv⟩ : ∃ v, k.its[i]? = some v := ⟨_, List.getElem?_eq_getElem hlt⟩
    have hd : k.its.drop i = v :: k.its.drop (i + 1) := by
      have e1 := List.drop_eq_getElem_cons hlt
      rw [List.getElem?_eq_getElem hlt] at hv
      cases hv
      exact e1
    rw [hd] at h'
    unfold lcL at h'
    split at h'
    · rename_i hgd
      obtain ⟨hgo, hy⟩ := (r1 i m' H' st' pm1 km s' hgd).1 v hv
      refine .inr ⟨hgo, fun H2 => ∃ m' st', m1 ++ [D] <+: m' ∧ Keep X.K H1 H2 ∧ SR X.K ca H2 m' st' ∧ (i + 1) + (n - 1) = k.its.length ∧ Post0 X.K ca (VR X.K ca) m' H2 Q (lcL k.gd g ft fe st1.length (wipeE env own) (k.its.drop (i + 1)) st'), fun H2 hN => ⟨n - 1, by omega, hN⟩, fun x H2 hyl => ?_⟩
      obtain ⟨k2, s2, r2⟩ := hy x H2 hyl
      have ew : ER X.K ca H2 m' (wipeE env own) (wipe σ own) := ((e.mono (p1.trans pm1) ((k1.trans km).trans k2))).wipe own
      cases c : g v (wipeE env own) with
      | none => rw [c] at h'; exact h'.elim
      | some e1 =>
        rw [c] at h'
        refine rg (wipe σ own) H2 m' (wipeE env own) v x e1 _ ew r2 c fun σ3 e3 n3 => ⟨wipe_same (n3.1.trans (wipe_length _ _)) hsl n3.2, ?_⟩
        have h3 := Post0.mono h' (List.prefix_refl _) k2
        simp only at h3
        refine rt σ3 H2 m' e1 st' _ s2 e3 ?_
        cases q : ft e1 st' with
        | er x4 s4 => rw [q] at h3; exact h3.elim
        | no => rw [q] at h3; exact h3.elim
        | ok kk s4 =>
          rw [q] at h3
          intro m5 b H5 p5 k5 s5 e5
          have eb : kk = b := e5
          subst eb
          cases kk with
          | false =>
            rw [if_neg Bool.false_ne_true]
            exact ⟨m5, s4, pm.trans p5, (km.trans k2).trans k5, s5, by omega, Post0.mono h3 p5 k5⟩
          | true =>
            rw [if_pos rfl]
            refine re σ3 H5 m5 e1 s4 _ s5 (e3.mono p5 k5) ?_
            simp only at h3
            cases q2 : fe e1 s4 with
            | er x6 s6 => rw [q2] at h3; exact h3.elim
            | no => rw [q2] at h3; exact h3.elim
            | ok y s6 =>
              rw [q2] at h3
              simp only at h3
              intro m7 y' H7 p7 k7 s7 r7
              split at h3
              · rename_i acc hacc
                obtain ⟨vs, ha, ra⟩ := s7.at hacc (pre_get (p5.trans p7) hn)
                split at h3
                · rename_i hz
                  refine ⟨vs, ha, by rw [← ra.length]; exact hz, ?_⟩
                  have kk := Keep.upd (K := X.K) (o := .lst (vs ++ [y'])) ha (fun _ z => nomatch z) (fun _ _ z => nomatch z)
                  have ss := s7.set (o := .lst (vs ++ [y'])) (ob := .lst (acc ++ [y])) (pre_get (p5.trans p7) hn) ha (fun _ z => nomatch z) (fun _ _ z => nomatch z) ⟨_, upd_same, (ra.mono (List.prefix_refl _) kk).append (.cons (r7.mono (List.prefix_refl _) kk) .nil)⟩
                  exact ⟨m7, _, (pm.trans p5).trans p7, (((km.trans k2).trans k5).trans k7).trans kk, ss, by omega, Post0.mono h3 (p5.trans p7) ((k5.trans k7).trans kk)⟩
                · exact h3.elim
              · exact h3.elim
    · exact h'.elim
  · rw [List.drop_eq_nil_of_le (by omega)] at h'
    unfold lcL at h'
    split at h'
    · rename_i hgd
      exact .inl ⟨(r1 i m' H' st' pm1 km s' hgd).2 (by omega), h' m' _ H' (List.prefix_refl _) Keep.refl s' (.ref hn)⟩
    · exact h'.elim
theorem je_lc {elt tg iter : Expr} {ifs : List Expr} {scope : Scope} {own : List (Str × Nat)} {sl : List Nat} {fi : FI} {g : FG} {ft : FT} {fe : FE} (hc : X.calm = true) (hN : X.N.Nodup) (hi : JI X W ca tg iter fi) (ok : BlkOk X.N X.env.scope scope own) (hsl : ∀ j ∈ sl, j ∈ own.map (·.2))
    (hg : ∀ (s : Shared) (H : Hp) (C : Addr) (cl : List (Str × Addr)) (fp : List Addr), JG' (X.blk s H scope (compEnvC scope cl C X.env) fp) ca tg sl g)
    (ht : ∀ (s : Shared) (H : Hp) (C : Addr) (cl : List (Str × Addr)) (fp : List Addr), JTs (X.blk s H scope (compEnvC scope cl C X.env) fp) W0 ca ifs ft)
    (he : ∀ (s : Shared) (H : Hp) (C : Addr) (cl : List (Str × Addr)) (fp : List Addr), JE (X.blk s H scope (compEnvC scope cl C X.env) fp) W0 ca elt fe) (hs : ∀ x, foldedSetIterable iter X.env x = pure x := by intro _; rfl) :
    JE X W ca (.ListComp elt [⟨tg, iter, ifs, 0⟩] scope pos) (lcF fi (own.map (·.2)) g ft fe) := by
  obtain ⟨ti, pi, ri⟩ := hi.ex
  refine ⟨_, pe_lc (g := fun v σ H Q => ∀ s0 H0 C cl fp, (hg s0 H0 C cl fp).ex.choose v σ H Q) (tt := fun σ H Q => ∀ s0 H0 C cl fp, (ht s0 H0 C cl fp).ex.choose σ H Q) (te := fun σ H Q => ∀ s0 H0 C cl fp, (he s0 H0 C cl fp).ex.choose σ H Q) hc hN pi ok
    (fun s0 H0 C cl fp => ⟨fun pins s σ H v u Q I r h => (hg s0 H0 C cl fp).ex.choose_spec.1.run pins s σ H v u Q I r (h s0 H0 C cl fp)⟩)
    (fun s0 H0 C cl fp => ⟨fun pins s σ H Q I h => (ht s0 H0 C cl fp).ex.choose_spec.1.run pins s σ H Q I (h s0 H0 C cl fp)⟩)
    (fun s0 H0 C cl fp => ⟨fun pins s σ H Q I h => (he s0 H0 C cl fp).ex.choose_spec.1.run pins s σ H Q I (h s0 H0 C cl fp)⟩) hs, fun σ H m env st Q s e h => ?_⟩
  refine lc_ok hsl ri (fun σ H m env v w env' Q er rv hh q s0 H0 C cl fp => (hg s0 H0 C cl fp).ex.choose_spec.2 σ H m env v w env' Q er rv hh q) (fun σ H m env st Q s e h s0 H0 C cl fp => (ht s0 H0 C cl fp).ex.choose_spec.2 σ H m env st Q s e h)
    (fun σ H m env st Q s e h s0 H0 C cl fp => (he s0 H0 C cl fp).ex.choose_spec.2 σ H m env st Q s e h) s e h
theorem js_lc {i : Nat} {y : Str} {py : Pos} {elt tg iter : Expr} {ifs : List Expr} {scope : Scope} {own : List (Str × Nat)} {sl : List Nat} {spos : Pos} {fi : FI} {g : FG} {ft : FT} {fe : FE} (hc : X.calm = true) (hN : X.N.Nodup) (hy : X.N[i]? = some y) (hyl : X.env.scope.names.lookup y = some .local)
    (hsw : swapsWith (.ListComp elt [⟨tg, iter, ifs, 0⟩] scope pos) (some (.Name y py)) spos.line X.env = pure true) (hi : JI X W ca tg iter fi) (ok : BlkOk X.N X.env.scope scope own) (hsl : ∀ j ∈ sl, j ∈ own.map (·.2))
    (hg : ∀ (s : Shared) (H : Hp) (C : Addr) (cl : List (Str × Addr)) (fp : List Addr), JG' (X.blk s H scope (compEnvC scope cl C X.env) fp) ca tg sl g)
    (ht : ∀ (s : Shared) (H : Hp) (C : Addr) (cl : List (Str × Addr)) (fp : List Addr), JTs (X.blk s H scope (compEnvC scope cl C X.env) fp) W0 ca ifs ft)
    (he : ∀ (s : Shared) (H : Hp) (C : Addr) (cl : List (Str × Addr)) (fp : List Addr), JE (X.blk s H scope (compEnvC scope cl C X.env) fp) W0 ca elt fe) (hs : ∀ x, foldedSetIterable iter X.env x = pure x := by intro _; rfl) :
    JS X W ca (.Assign [.Name y py] (.ListComp elt [⟨tg, iter, ifs, 0⟩] scope pos) spos) (setS i (lcF fi (own.map (·.2)) g ft fe)) := by
  obtain ⟨ti, pi, ri⟩ := hi.ex
  refine ⟨_, ps_setLc (g := fun v σ H Q => ∀ s0 H0 C cl fp, (hg s0 H0 C cl fp).ex.choose v σ H Q) (tt := fun σ H Q => ∀ s0 H0 C cl fp, (ht s0 H0 C cl fp).ex.choose σ H Q) (te := fun σ H Q => ∀ s0 H0 C cl fp, (he s0 H0 C cl fp).ex.choose σ H Q) hc hN hy hyl hsw pi ok
    (fun s0 H0 C cl fp => ⟨fun pins s σ H v u Q I r h => (hg s0 H0 C cl fp).ex.choose_spec.1.run pins s σ H v u Q I r (h s0 H0 C cl fp)⟩)
    (fun s0 H0 C cl fp => ⟨fun pins s σ H Q I h => (ht s0 H0 C cl fp).ex.choose_spec.1.run pins s σ H Q I (h s0 H0 C cl fp)⟩)
    (fun s0 H0 C cl fp => ⟨fun pins s σ H Q I h => (he s0 H0 C cl fp).ex.choose_spec.1.run pins s σ H Q I (h s0 H0 C cl fp)⟩) hs, fun σ H m env st D s e h => ?_⟩
  refine lc_ok (W := W) hsl ri (fun σ H m env v w env' Q er rv hh q s0 H0 C cl fp => (hg s0 H0 C cl fp).ex.choose_spec.2 σ H m env v w env' Q er rv hh q) (fun σ H m env st Q s e h s0 H0 C cl fp => (ht s0 H0 C cl fp).ex.choose_spec.2 σ H m env st Q s e h)
    (fun σ H m env st Q s e h s0 H0 C cl fp => (he s0 H0 C cl fp).ex.choose_spec.2 σ H m env st Q s e h) s e ?_
  exact Post.toS h e fun v st1 m1 w H1 p1 k1 s1 r1 h1 => h1.nx s1 ((e.mono p1 k1).set r1 i)
end

/-! ## a def's end: what it made and nobody holds is forgotten -/
mutual
def refsOk (n : Nat) : PV → Bool
  | .ref k => decide (k < n)
  | .tup xs => refsOks n xs
  | .frz xs => refsOks n xs
  | _ => true
def refsOks (n : Nat) : List PV → Bool
  | [] => true
  | x :: xs => refsOk n x && refsOks n xs
end
def objOk (n : Nat) : PO → Bool
  | .lst xs => refsOks n xs
  | .dK kvs => refsOks n (kvs.map (·.2))
  | .dN kvs => refsOks n (kvs.map (·.2))
  | .ins _ fs => refsOks n (fs.map (·.2))
/-- what stood ahead stands as it was, or holds nothing that was made since -/
def preOk (st0 st : Store) : Prop := ∀ k, k < st0.length → st[k]? = st0[k]? ∨ ∃ o, st[k]? = some o ∧ objOk st0.length o = true
open Classical in
def gc (st0 : Store) (v : PV) (st : Store) : R PV :=
  if st0.length ≤ st.length ∧ preOk st0 st then
    if refsOk st0.length v = true then .ok v (st.take st0.length)
    else match v with
      | .ref r => (match st[r]? with
        | some o => if objOk st0.length o = true ∧ st0.length ≤ r then .ok (.ref st0.length) (st.take st0.length ++ [o]) else .ok v st
        | none => .no)
      | _ => .ok v st
  else .ok v st
open Classical in
def gcx (st0 : Store) (x : Ex) (st : Store) : R PV :=
  if st0.length ≤ st.length ∧ preOk st0 st ∧ (∀ p, x.val = some p → refsOk st0.length p.2 = true) then .er x (st.take st0.length) else .er x st
def runFn (n : Nat) (body : FS) : Fn := fun args st => match body (args.map some ++ List.replicate (n - args.length) none) st with
  | .nx _ s => gc st .non s
  | .rt v s => gc st v s
  | .er x _ s => gcx st x s
  | _ => .no
section
variable {K : PySem.W.Frag} {ca : Ca} {m m' : List Addr} {H H' : Hp}
mutual
theorem VR.cutB (n : Nat) (hn : m.length = n) (p : m <+: m') : ∀ {x : PV} {v : V}, VR K ca H' m' x v → refsOk n x = true → VR K ca H' m x v
  | _, _, .non, _ => .non
  | _, _, .bl b, _ => .bl b
  | _, _, .int i, _ => .int i
  | _, _, .str x, _ => .str x
  | _, _, .ty n, _ => .ty n
  | _, _, .cls n, _ => .cls n
  | _, _, .exc h, _ => .exc h
  | _, _, .ref h, e => .ref (by
      simp only [refsOk, decide_eq_true_eq] at e
      obtain ⟨l, rfl⟩ := p
      rw [List.getElem?_append_left (by omega)] at h
      exact h)
  | _, _, .tup h r, e => .tup h (VRs.cutB n hn p r (by simpa only [refsOk] using e))
  | _, _, .frz h r, e => .frz h (VRs.cutB n hn p r (by simpa only [refsOk] using e))
theorem VRs.cutB (n : Nat) (hn : m.length = n) (p : m <+: m') : ∀ {xs : List PV} {vs : List V}, VRs K ca H' m' xs vs → refsOks n xs = true → VRs K ca H' m xs vs
  | _, _, .nil, _ => .nil
  | _, _, .cons h r, e => by
    simp only [refsOks, Bool.and_eq_true] at e
    exact .cons (VR.cutB n hn p h e.1) (VRs.cutB n hn p r e.2)
end
mutual
theorem VR.refs (n : Nat) (hn : m.length = n) : ∀ {x : PV} {v : V}, VR K ca H m x v → refsOk n x = true
  | _, _, .non => rfl
  | _, _, .bl b => rfl
  | _, _, .int i => rfl
  | _, _, .str x => rfl
  | _, _, .ty n => rfl
  | _, _, .cls n => rfl
  | _, _, .exc _ => rfl
  | _, _, .ref h => by
      simp only [refsOk, decide_eq_true_eq]
      have := (List.getElem?_eq_some_iff.mp h).1
      omega
  | _, _, .tup h r => by simpa only [refsOk] using VRs.refs n hn r
  | _, _, .frz h r => by simpa only [refsOk] using VRs.refs n hn r
theorem VRs.refs (n : Nat) (hn : m.length = n) : ∀ {xs : List PV} {vs : List V}, VRs K ca H m xs vs → refsOks n xs = true
  | _, _, .nil => rfl
  | _, _, .cons h r => by simp only [refsOks, Bool.and_eq_true]; exact ⟨VR.refs n hn h, VRs.refs n hn r⟩
end
theorem KR.cutB {κ : Type} (n : Nat) (hn : m.length = n) (p : m <+: m') {a : List (κ × PV)} {b : List (κ × V)} (h : KR K ca H' m' a b) (e : refsOks n (a.map (·.2)) = true) : KR K ca H' m a b := by
  induction h with
  | nil => exact .nil
  | cons r t ih =>
    simp only [List.map_cons, refsOks, Bool.and_eq_true] at e
    exact .cons ⟨r.1, r.2.cutB n hn p e.1⟩ (ih e.2)
theorem KR.refs {κ : Type} (n : Nat) (hn : m.length = n) {a : List (κ × PV)} {b : List (κ × V)} (h : KR K ca H m a b) : refsOks n (a.map (·.2)) = true := by
  induction h with
  | nil => rfl
  | cons r t ih =>
    simp only [List.map_cons, refsOks, Bool.and_eq_true]
    exact ⟨r.2.refs n hn, ih⟩
theorem DR.cutB (n : Nat) (hn : m.length = n) (p : m <+: m') {a : List (NestedKey × PV)} {b : List (NestedKey × Addr × V)} (h : DR K ca H' m' a b) (e : refsOks n (a.map (·.2)) = true) : DR K ca H' m a b := by
  unfold DR at h ⊢
  induction h with
  | nil => exact .nil
  | cons r t ih =>
    simp only [List.map_cons, refsOks, Bool.and_eq_true] at e
    exact .cons ⟨r.1, r.2.1, r.2.2.cutB n hn p e.1⟩ (ih e.2)
theorem DR.refs (n : Nat) (hn : m.length = n) {a : List (NestedKey × PV)} {b : List (NestedKey × Addr × V)} (h : DR K ca H m a b) : refsOks n (a.map (·.2)) = true := by
  unfold DR at h
  induction h with
  | nil => rfl
  | cons r t ih =>
    simp only [List.map_cons, refsOks, Bool.and_eq_true]
    exact ⟨r.2.2.refs n hn, ih⟩
theorem OR.cutB (n : Nat) (hn : m.length = n) (p : m <+: m') {a : Addr} {o : PO} (h : OR K ca H' m' a o) (e : objOk n o = true) : OR K ca H' m a o := by
  cases o with
  | lst xs => obtain ⟨vs, q, r⟩ := h; exact ⟨vs, q, r.cutB n hn p e⟩
  | dK kvs => obtain ⟨vs, q, r⟩ := h; exact ⟨vs, q, r.cutB n hn p e⟩
  | dN kvs => obtain ⟨vs, q, r⟩ := h; exact ⟨vs, q, r.cutB n hn p e⟩
  | ins c fs => obtain ⟨dx, vs, q, r⟩ := h; exact ⟨dx, vs, q, r.cutB n hn p e⟩
theorem OR.refs (n : Nat) (hn : m.length = n) {a : Addr} {o : PO} (h : OR K ca H m a o) : objOk n o = true := by
  cases o with
  | lst xs => obtain ⟨vs, q, r⟩ := h; exact r.refs n hn
  | dK kvs => obtain ⟨vs, q, r⟩ := h; exact r.refs n hn
  | dN kvs => obtain ⟨vs, q, r⟩ := h; exact r.refs n hn
  | ins c fs => obtain ⟨dx, vs, q, r⟩ := h; exact r.refs n hn
/-- the store cut back -/
theorem SR.cut {st0 st : Store} (s0 : SR K ca H m st0) (s : SR K ca H' m' st) (p : m <+: m') (h : preOk st0 st) : SR K ca H' m (st.take st0.length) := by
  have hl : m.length ≤ m'.length := p.length_le
  refine ⟨by rw [List.length_take, ← s.len, ← s0.len]; omega, s.nd.sublist p.sublist, fun n a o ha ho => ?_⟩
  have hn : n < m.length := (List.getElem?_eq_some_iff.mp ha).1
  rw [List.getElem?_take_of_lt (by rw [← s0.len]; exact hn)] at ho
  have r := s.ob n a o (pre_get p ha) ho
  refine r.cutB _ rfl p ?_
  rcases h n (by rw [← s0.len]; exact hn) with q | ⟨o', q, z⟩
  · rw [ho] at q
    exact (s0.ob n a o ha q.symm).refs _ rfl
  · rw [ho] at q
    cases q
    rw [s0.len]
    exact z
theorem Post.gc {E : Ex → Option Addr → Hp → Prop} {Q : VK} {st0 st : Store} {v : PV} (s0 : SR K ca H m st0) (h : Post K ca (VR K ca) E m H Q (gc st0 v st)) :
    ∀ m' w H', m <+: m' → Keep K H H' → SR K ca H' m' st → VR K ca H' m' v w → Q w H' := by
  intro m' w H' p k s r
  unfold FL.gc at h
  split at h
  · rename_i hp
    split at h
    · rename_i hr
      exact h m w H' (List.prefix_refl _) k (s0.cut s p hp.2) (r.cutB _ s0.len p hr)
    · split at h
      · rename_i rr hr
        split at h
        · rename_i o ho
          split at h
          · rename_i hob
            cases r with
            | ref ha =>
              rename_i a
              have sc := s0.cut s p hp.2
              have lm : (st.take st0.length).length = m.length := by rw [sc.len]
              have na : a ∉ m := fun hm => by
                obtain ⟨i, hi, e⟩ := List.getElem_of_mem hm
                have e1 : m'[i]? = some a := pre_get p (by rw [List.getElem?_eq_getElem hi, e])
                obtain ⟨l1, z1⟩ := List.getElem?_eq_some_iff.mp e1
                obtain ⟨l2, z2⟩ := List.getElem?_eq_some_iff.mp ha
                have := (List.getElem_inj s.nd).mp (z1.trans z2.symm)
                have := hob.2
                rw [← s0.len] at this
                omega
              refine h (m ++ [a]) _ H' (List.prefix_append _ _) k ?_ (.ref (by rw [← s0.len, List.getElem?_append_right (Nat.le_refl _), Nat.sub_self]; rfl))
              refine ⟨by rw [List.length_append, List.length_append, lm] <;> rfl, ?_, fun n b u hb hu => ?_⟩
              · rw [List.nodup_append]
                refine ⟨sc.nd, List.nodup_cons.mpr ⟨List.not_mem_nil, List.nodup_nil⟩, fun x hx y hy => ?_⟩
                obtain rfl := List.mem_singleton.mp hy
                exact fun z => na (z ▸ hx)
              · by_cases hn : n < m.length
                · rw [List.getElem?_append_left hn] at hb
                  rw [List.getElem?_append_left (by rw [lm]; exact hn)] at hu
                  exact (sc.ob n b u hb hu).mono (List.prefix_append _ _) Keep.refl rfl
                · have e : n = m.length := by
                    have := (List.getElem?_eq_some_iff.mp hb).1
                    rw [List.length_append, List.length_singleton] at this
                    omega
                  subst e
                  rw [List.getElem?_append_right (Nat.le_refl _), Nat.sub_self] at hb
                  rw [← lm, List.getElem?_append_right (Nat.le_refl _), Nat.sub_self] at hu
                  cases hb
                  cases hu
                  exact ((s.at ho ha).cutB _ s0.len p hob.1).mono (List.prefix_append _ _) Keep.refl rfl
          · exact h m' w H' p k s r
        · exact h.elim
      · exact h m' w H' p k s r
  · exact h m' w H' p k s r
theorem Post.gcx {E : Ex → Option Addr → Hp → Prop} {Q : VK} {st0 st : Store} {x : Ex} (s0 : SR K ca H m st0) (h : Post K ca (VR K ca) E m H Q (gcx st0 x st)) :
    ∀ m' d H', m <+: m' → Keep K H H' → SR K ca H' m' st → XR K ca H' m' x d → E x d H' := by
  intro m' d H' p k s r
  unfold FL.gcx at h
  split at h
  · rename_i hp
    refine h m d H' (List.prefix_refl _) k (s0.cut s p hp.2.1) ?_
    obtain ⟨c, val⟩ := x
    cases val with
    | none => exact r
    | some q =>
      obtain ⟨a, w, e1, e2, e3⟩ := r
      exact ⟨a, w, e1, e2, e3.cutB _ s0.len p (hp.2.2 _ rfl)⟩
  · exact h m' d H' p k s r
end

/-! ## a def by its body -/
section
variable {P : Program} {w : World} {K : PySem.W.Frag} {mg : Str → Option Value} {base : Heap} {ca : Ca}
theorem er_start {H : Hp} {m : List Addr} {N : List Str} {xs : List PV} {vs : List V} (r : VRs K ca H m xs vs) : ER K ca H m (xs.map some ++ List.replicate (N.length - xs.length) none) (L2.start N vs) := by
  unfold L2.start
  refine ⟨by rw [List.length_append, List.length_append, List.length_map, List.length_map, List.length_replicate, List.length_replicate, r.length], fun i v h => ?_⟩
  by_cases hi : i < xs.length
  · rw [List.getElem?_append_left (by simpa using hi), List.getElem?_map] at h
    cases q : xs[i]? with
    | none => rw [q] at h; cases h
    | some x =>
      rw [q] at h
      cases h
      obtain ⟨w, h1, h2⟩ := r.get q
      refine ⟨w, ?_, h2⟩
      rw [List.getElem?_append_left (by rw [List.length_map, ← r.length]; exact hi), List.getElem?_map, h1]
      rfl
  · rw [List.getElem?_append_right (by simpa using hi), List.getElem?_replicate] at h
    split at h <;> cases h
/-- THE RULE of a def -/
theorem cal_mk {x qual : Str} {st : Stmt} {f : Addr} {fd : FuncData} {N ps : List Str} {k n : Nat} {body : FS} (F : L2.Fun K x qual st f fd) (S : FnScope N ps (defScope st)) (hn : N.length = n)
    (hbody : ∀ (cdv : Value) (A : Around) (outer : List PySem.Env) (s : Shared) (H : Hp) (E : XK), Room k (A.deeper (envOfC qual (defScope st) s.heap.objs.size f cdv)) →
      Takes (cxOf (L2.CX P w) P w K mg base N qual (defScope st) f cdv A outer s H E) (fun cls d _ H => E cls d H) →
      PassesOwn (model P w) (cxOf (L2.CX P w) P w K mg base N qual (defScope st) f cdv A outer s H E).A (cxOf (L2.CX P w) P w K mg base N qual (defScope st) f cdv A outer s H E).env (cxOf (L2.CX P w) P w K mg base N qual (defScope st) f cdv A outer s H E).xe →
      JSs (cxOf (L2.CX P w) P w K mg base N qual (defScope st) f cdv A outer s H E) (fun cls d _ H => E cls d H) ca (defBody st) body) :
    Cal P w K mg base ca (k + 1) f fd ps (runFn n body) := by
  subst hn
  refine ⟨Fun.okX F S (fun vs H Q E h => ?_) (fun cdv A outer s H vs Q E hr h => ?_), F.kp⟩
  · obtain ⟨m, st, xs, _, r, hl, _⟩ := h
    rw [← r.length, hl]
  · obtain ⟨m, st, xs, s0, r, hl, h⟩ := h
    obtain ⟨t, p, z⟩ := (hbody cdv A outer s H E hr (takes_of rfl rfl rfl rfl) (passes_of rfl)).ex
    refine ⟨t, p, z _ H m (xs.map some ++ List.replicate (N.length - xs.length) none) st _ s0 (er_start r) ?_⟩
    unfold runFn at h
    cases q : body (xs.map some ++ List.replicate (N.length - xs.length) none) st with
    | nx e1 s1 => rw [q] at h; exact fun m1 σ1 H1 p1 k1 s2 _ => h.gc s0 m1 _ H1 p1 k1 s2 .non
    | rt v s1 => rw [q] at h; exact fun m1 w1 H1 p1 k1 s2 r1 => h.gc s0 m1 w1 H1 p1 k1 s2 r1
    | er x e1 s1 => rw [q] at h; exact fun m1 d σ1 H1 p1 k1 s2 _ r1 => h.gcx s0 m1 d H1 p1 k1 s2 r1
    | bk e1 s1 => rw [q] at h; exact h.elim
    | ct e1 s1 => rw [q] at h; exact h.elim
    | no => rw [q] at h; exact h.elim
/-- no call is left -/
def fn0 : Fn := fun _ _ => .no
theorem cal_0 {f : Addr} {fd : FuncData} {ps : List Str} (kp : PySem.W.keepIn K (.ref f) = true) : Cal P w K mg base ca 0 f fd ps fn0 := by
  have no : ∀ vs H Q E, ¬ spF K ca ps.length fn0 vs H Q E := fun vs H Q E h => by
    obtain ⟨m, st, xs, _, _, _, h⟩ := h
    exact h
  exact ⟨⟨fun vs H Q E h => absurd h (no vs H Q E), fun A outer s H args us vs Q E _ _ _ _ h => absurd h (no vs H Q E)⟩, kp⟩
end
end
end FL
end
section
set_option linter.all false
set_option maxRecDepth 100000
namespace FL
open PySem PySem.Spec PyProof.Rows L2
noncomputable section
section
variable {K : PySem.W.Frag} {ca : Ca} {m m' : List Addr} {H H' : Hp} {st : Store} {Q : VK}
theorem Post0.val {v : PV} {w : V} (h : Post0 K ca (VR K ca) m H Q (some (v, st))) (s : SR K ca H m st) (r : VR K ca H m v w) : Q w H := h m w H (List.prefix_refl _) Keep.refl s r
theorem Post0.newL {xs : List PV} {vs : List V} {p : Addr} (h : Post0 K ca (VR K ca) m H Q (some (.ref st.length, st ++ [.lst xs]))) (s : SR K ca H m st) (r : VRs K ca H m xs vs) (hp : H p = none) : Q (.ref p) (upd H p (.lst vs)) := by
  obtain ⟨a, b, c, d⟩ := upd_l s hp r
  exact h _ _ _ a b c d
theorem Post0.newT {xs : List PV} {vs : List V} {p : Addr} (h : Post0 K ca (VR K ca) m H Q (some (.tup xs, st))) (s : SR K ca H m st) (r : VRs K ca H m xs vs) (hp : H p = none) : Q (.ref p) (upd H p (.tup vs)) := by
  obtain ⟨a, b, c⟩ := upd_t s hp r
  exact h m _ _ (List.prefix_refl _) a b c
/-- a list of the store, changed -/
theorem Post0.setL {n : Nat} {a : Addr} {ys : List PV} {vs ws : List V} {v : PV} {w : V} (h : Post0 K ca (VR K ca) m H Q (some (v, st.set n (.lst ys)))) (s : SR K ca H m st) (ha : m[n]? = some a) (hH : H a = some (.lst vs)) (r : VRs K ca H m ys ws) (rv : VR K ca H m v w) : Q w (upd H a (.lst ws)) := by
  have kk := Keep.upd (K := K) (o := .lst ws) hH (fun _ z => nomatch z) (fun _ _ z => nomatch z)
  exact h m w _ (List.prefix_refl _) kk (s.set ha hH (fun _ z => nomatch z) (fun _ _ z => nomatch z) ⟨_, upd_same, r.mono (List.prefix_refl _) kk⟩) (rv.mono (List.prefix_refl _) kk)
theorem getL (s : SR K ca H m st) {n : Nat} {a : Addr} {xs : List PV} (h : st[n]? = some (.lst xs)) (ha : m[n]? = some a) : ∃ vs, H a = some (.lst vs) ∧ VRs K ca H m xs vs := s.at h ha
end

/-! ## arithmetic -/
def addV (x y : PV) (st : Store) : O PV := match x, y with
  | .int i, .int j => some (.int (i + j), st)
  | .str a, .str b => if a.length + b.length ≤ sizeLine then some (.str (a ++ b), st) else none
  | .tup xs, .tup ys => if xs.length + ys.length ≤ sizeLine then some (.tup (xs ++ ys), st) else none
  | .ref a, .ref b => match st[a]?, st[b]? with
    | some (.lst xs), some (.lst ys) => if xs.length + ys.length ≤ sizeLine then some (.ref st.length, st ++ [.lst (xs ++ ys)]) else none
    | _, _ => none
  | _, _ => none
def iaddV (x y : PV) (st : Store) : O PV := match x, y with
  | .int i, .int j => some (.int (i + j), st)
  | .str a, .str b => if a.length + b.length ≤ sizeLine then some (.str (a ++ b), st) else none
  | _, _ => none
def subV (x y : PV) (st : Store) : O PV := match x, y with
  | .int i, .int j => some (.int (i - j), st)
  | _, _ => none
def mulOk (i j : Int) : Bool := decide (i.natAbs.log2 + j.natAbs.log2 < 100000000)
def mulV (x y : PV) (st : Store) : O PV := match x, y with
  | .int i, .int j => if mulOk i j = true then some (.int (i * j), st) else none
  | .str a, .int j => if 0 ≤ j ∧ j ≤ 1000 ∧ a.length ≤ 1000 then some (.str (Txt.mul a j), st) else none
  | .ref a, .int j => match st[a]? with
    | some (.lst xs) => if 0 ≤ j ∧ j ≤ 1000 ∧ xs.length ≤ 1000 then some (.ref st.length, st ++ [.lst (List.replicate j.toNat xs).flatten]) else none
    | _ => none
  | _, _ => none
def fdivV (x y : PV) (st : Store) : O PV := match x, y with
  | .int i, .int j => if 0 < j ∧ j.natAbs.log2 < 9000 then some (.int (i / j), st) else none
  | _, _ => none
def modV (x y : PV) (st : Store) : O PV := match x, y with
  | .int i, .int j => if 0 < j then some (.int (i % j), st) else none
  | _, _ => none
def powV (x y : PV) (st : Store) : O PV := match x, y with
  | .int i, .int j => if 0 ≤ j ∧ j ≤ 1000000 ∧ i.natAbs < 2 ^ 64 then some (.int (i ^ j.toNat), st) else none
  | _, _ => none
def negV (x : PV) (st : Store) : O PV := match x with
  | .int i => some (.int (-i), st)
  | _ => none
def cmpV (f : Int → Int → Bool) (x y : PV) (st : Store) : O PV := match x, y with
  | .int i, .int j => some (.bl (f i j), st)
  | _, _ => none
abbrev ltV := cmpV fun i j => decide (i < j)
abbrev leV := cmpV fun i j => decide (i ≤ j)
abbrev gtV := cmpV fun i j => decide (j < i)
abbrev geV := cmpV fun i j => decide (j ≤ i)
def isNonV (x y : PV) (st : Store) : O PV := match y with
  | .non => some (.bl (match x with | .non => true | _ => false), st)
  | _ => none
def notNonV (x y : PV) (st : Store) : O PV := match y with
  | .non => some (.bl (match x with | .non => false | _ => true), st)
  | _ => none
section
variable {X : Cx} {ca : Ca}
/-- two roads joined -/
theorem OpF.or {f : Value → Value → Sem Value} {r r' : R2} {g : PV → PV → Store → O PV} (h : OpR X f r) (h' : OpR X f r')
    (q : ∀ H m st x y x' y' Q, SR X.K ca H m st → VR X.K ca H m x x' → VR X.K ca H m y y' → Post0 X.K ca (VR X.K ca) m H Q (g x y st) → r x' y' H Q ∨ r' x' y' H Q) : OpF X ca f g := ⟨_, OpR.or h h', q⟩
theorem of_ints {f : Value → Value → Sem Value} {C : Int → Int → Prop} {k : Int → Int → V} (h : OpR X f (rI C k)) {g : PV → PV → Store → O PV} {k' : Int → Int → PV} (hk : ∀ H m i j, VR X.K ca H m (k' i j) (k i j))
    (hg : ∀ x y st v, g x y st = some v → ∃ i j, x = .int i ∧ y = .int j ∧ C i j ∧ v = (k' i j, st)) : OpF X ca f g := by
  refine ⟨_, h, fun H m st x y x' y' Q s rx ry p => ?_⟩
  cases e : g x y st with
  | none => rw [e] at p; exact p.elim
  | some v =>
    obtain ⟨i, j, rfl, rfl, c, rfl⟩ := hg x y st v e
    rw [e] at p
    cases rx
    cases ry
    exact ⟨i, j, rfl, rfl, c, p.val s (hk H m i j)⟩
theorem rI0_of {f : Value → Value → Sem Value} {k : Int → Int → V} (h : OpR X f (rI0 k)) : OpR X f (rI (fun _ _ => True) k) := fun pins s σ H x y v u Q I rx ry ⟨i, j, a, b, _, q⟩ => h pins s σ H x y v u Q I rx ry ⟨i, j, a, b, q⟩
theorem of_sub : OpF X ca (binaryOp .Sub) subV := of_ints (rI0_of op_sub) (k' := fun i j => .int (i - j)) (fun _ _ _ _ => .int _) fun x y st v e => by
  cases x <;> cases y <;> simp only [subV, Option.some.injEq, reduceCtorEq] at e
  exact ⟨_, _, rfl, rfl, trivial, e.symm⟩
theorem of_fdiv : OpF X ca (binaryOp .FloorDiv) fdivV := of_ints op_fdivW (k' := fun i j => .int (i / j)) (fun _ _ _ _ => .int _) fun x y st v e => by
  cases x <;> cases y <;> simp only [fdivV, Option.some.injEq, reduceCtorEq] at e
  split at e
  · rename_i h
    exact ⟨_, _, rfl, rfl, h, (Option.some.inj e).symm⟩
  · cases e
theorem of_mod : OpF X ca (binaryOp .Mod) modV := of_ints op_mod (k' := fun i j => .int (i % j)) (fun _ _ _ _ => .int _) fun x y st v e => by
  cases x <;> cases y <;> simp only [modV, Option.some.injEq, reduceCtorEq] at e
  split at e
  · rename_i h
    exact ⟨_, _, rfl, rfl, h, (Option.some.inj e).symm⟩
  · cases e
theorem of_pow : OpF X ca (binaryOp .Pow) powV := of_ints op_pow (k' := fun i j => .int (i ^ j.toNat)) (fun _ _ _ _ => .int _) fun x y st v e => by
  cases x <;> cases y <;> simp only [powV, Option.some.injEq, reduceCtorEq] at e
  split at e
  · rename_i h
    exact ⟨_, _, rfl, rfl, h, (Option.some.inj e).symm⟩
  · cases e
theorem of_neg : UnF X ca (unaryOp .USub) negV := by
  refine ⟨_, un_neg, fun H m st x x' Q s rx p => ?_⟩
  cases rx with
  | int i => exact ⟨i, rfl, p.val s (.int _)⟩
  | _ => exact p.elim
theorem of_cmp {f : Value → Value → Sem Value} {k : Int → Int → Bool} (h : OpR X f (rI0 fun i j => .bl (k i j))) : OpF X ca f (cmpV k) := of_ints (rI0_of h) (k' := fun i j => .bl (k i j)) (fun _ _ _ _ => .bl _) fun x y st v e => by
  cases x <;> cases y <;> simp only [cmpV, Option.some.injEq, reduceCtorEq] at e
  exact ⟨_, _, rfl, rfl, trivial, e.symm⟩
theorem of_lt : OpF X ca (compareOp .Lt) ltV := of_cmp op_lt
theorem of_le : OpF X ca (compareOp .LtE) leV := of_cmp op_le
theorem of_gt : OpF X ca (compareOp .Gt) gtV := of_cmp op_gt
theorem of_ge : OpF X ca (compareOp .GtE) geV := of_cmp op_ge
theorem of_isN : OpF X ca (compareOp .Is) isNonV := by
  refine ⟨_, op_isN, fun H m st x y x' y' Q s rx ry p => ?_⟩
  cases ry with
  | non =>
    refine ⟨rfl, ?_⟩
    cases rx <;> exact p.val s (.bl _)
  | _ => exact p.elim
theorem of_notN : OpF X ca (compareOp .IsNot) notNonV := by
  refine ⟨_, op_notN, fun H m st x y x' y' Q s rx ry p => ?_⟩
  cases ry with
  | non =>
    refine ⟨rfl, ?_⟩
    cases rx <;> exact p.val s (.bl _)
  | _ => exact p.elim
theorem of_add : OpF X ca (binaryOp .Add) addV := by
  refine ⟨_, OpR.or op_add (OpR.or op_add_str (OpR.or op_catA op_cat)), fun H m st x y x' y' Q s rx ry p => ?_⟩
  cases rx with
  | int i => cases ry with
    | int j => exact .inl ⟨i, j, rfl, rfl, p.val s (.int _)⟩
    | _ => exact p.elim
  | str a => cases ry with
    | str b =>
      simp only [addV] at p
      split at p
      · rename_i hz
        exact .inr (.inl ⟨a, b, rfl, rfl, hz, p.val s (.str _)⟩)
      · exact p.elim
    | _ => exact p.elim
  | tup ha ra => cases ry with
    | tup hb rb =>
      rename_i xs a vs ys b ws
      simp only [addV] at p
      split at p
      · rename_i hz
        refine .inr (.inr (.inl ⟨a, b, vs, ws, rfl, rfl, ha, hb, by rw [← ra.length, ← rb.length]; exact hz, fun e => ?_, fun e e2 => ?_, fun _ _ q hq => ?_⟩))
        · subst e
          cases ra
          exact p.val s (.tup hb rb)
        · subst e2
          cases rb
          rw [List.append_nil] at p
          exact p.val s (.tup ha ra)
        · exact p.newT s (ra.append rb) hq
      · exact p.elim
    | _ => exact p.elim
  | ref ha => cases ry with
    | ref hb =>
      simp only [addV] at p
      split at p
      · rename_i xs ys h1 h2
        obtain ⟨vs, e1, r1⟩ := getL s h1 ha
        obtain ⟨ws, e2, r2⟩ := getL s h2 hb
        split at p
        · rename_i hz
          exact .inr (.inr (.inr ⟨_, _, vs, ws, rfl, rfl, e1, e2, by rw [← r1.length, ← r2.length]; exact hz, fun q hq => p.newL s (r1.append r2) hq⟩))
        · exact p.elim
      · exact p.elim
    | _ => exact p.elim
  | _ => exact p.elim
theorem of_iadd : OpF X ca (inplaceOp .Add) iaddV := by
  refine ⟨_, OpR.or iop_add iop_add_str, fun H m st x y x' y' Q s rx ry p => ?_⟩
  cases rx with
  | int i => cases ry with
    | int j => exact .inl ⟨i, j, rfl, rfl, p.val s (.int _)⟩
    | _ => exact p.elim
  | str a => cases ry with
    | str b =>
      simp only [iaddV] at p
      split at p
      · rename_i hz
        exact .inr ⟨a, b, rfl, rfl, hz, p.val s (.str _)⟩
      · exact p.elim
    | _ => exact p.elim
  | _ => exact p.elim
theorem foldl_len (x : Array Nat) : ∀ (n : Nat) (acc : Array Nat), ((List.replicate n x).foldl (· ++ ·) acc).size = acc.size + n * x.size
  | 0, acc => by simp
  | n + 1, acc => by
    rw [List.replicate_succ, List.foldl_cons, foldl_len x n, Array.size_append, Nat.succ_mul]
    omega
theorem op_mul_str : OpR X (binaryOp .Mult) (fun x y H Q => ∃ a j, x = .str a ∧ y = .int j ∧ 0 ≤ j ∧ j ≤ 1000 ∧ a.length ≤ 1000 ∧ Q (.str (Txt.mul a j)) H) := by
  intro pins s σ H x y v u Q I rx ry h
  obtain ⟨a, j, rfl, rfl, h0, h1, h2, q⟩ := h
  obtain ⟨t, rfl⟩ := rx
  obtain ⟨t', rfl⟩ := ry
  refine SB.mul ⟨?_, fun hn _ => ?_, fun hn _ => ?_⟩ fun t1 k => ⟨.str _, H, I.tok k, ⟨_, rfl⟩, q⟩
  · simp only [Bool.or_eq_false_iff, decide_eq_false_iff_not]
    omega
  · have hj : 1 ≤ j := by omega
    have h3 : (a.length : Int) * j ≤ 1000 * 1000 := Int.mul_le_mul (by omega) h1 h0 (by omega)
    have h4 : (a.length : Int) ≤ (2 ^ 63 - 1) / j := Int.le_ediv_of_mul_le (by omega) (by omega)
    omega
  · unfold Builtin.Str.tooLong
    have h3 : a.length * j.toNat ≤ 1000 * 1000 := Nat.mul_le_mul h2 (by omega)
    rw [decide_eq_false_iff_not, sizeLine_eq]
    omega
theorem VRs.rep {K : PySem.W.Frag} {H : Hp} {m : List Addr} {xs : List PV} {vs : List V} (r : VRs K ca H m xs vs) : ∀ n : Nat, VRs K ca H m (List.replicate n xs).flatten (List.replicate n vs).flatten
  | 0 => .nil
  | n + 1 => by
    rw [List.replicate_succ, List.replicate_succ, List.flatten_cons, List.flatten_cons]
    exact r.append (VRs.rep r n)
theorem mulOk_cx {i j : Int} (h : mulOk i j = true) : CMulX i j := by
  have h' : i.natAbs.log2 + j.natAbs.log2 < 100000000 := of_decide_eq_true h
  have b : ∀ z : Int, Builtin.Int.intBits z ≤ z.natAbs.log2 + 1 := fun z => by
    unfold Builtin.Int.intBits
    split <;> omega
  have := b i
  have := b j
  unfold CMulX
  omega
theorem of_mul : OpF X ca (binaryOp .Mult) mulV := by
  refine ⟨_, OpR.or op_mulX (OpR.or op_mul_str op_rep), fun H m st x y x' y' Q s rx ry p => ?_⟩
  cases rx with
  | int i => cases ry with
    | int j =>
      simp only [mulV] at p
      split at p
      · rename_i hz
        exact .inl ⟨i, j, rfl, rfl, mulOk_cx hz, p.val s (.int _)⟩
      · exact p.elim
    | _ => exact p.elim
  | str a => cases ry with
    | int j =>
      simp only [mulV] at p
      split at p
      · rename_i hz
        exact .inr (.inl ⟨a, j, rfl, rfl, hz.1, hz.2.1, hz.2.2, p.val s (.str _)⟩)
      · exact p.elim
    | _ => exact p.elim
  | ref ha => cases ry with
    | int j =>
      simp only [mulV] at p
      split at p
      · rename_i xs h1
        obtain ⟨vs, e1, r1⟩ := getL s h1 ha
        split at p
        · rename_i hz
          have hl := r1.length
          have h3 : vs.length * j.toNat ≤ 1000 * 1000 := Nat.mul_le_mul (by omega) (by omega)
          exact .inr (.inr ⟨_, j, vs, rfl, rfl, e1, by omega, by omega, by rw [sizeLine_eq]; omega, fun q hq => p.newL s (r1.rep _) hq⟩)
        · exact p.elim
      · exact p.elim
    | _ => exact p.elim
  | _ => exact p.elim
end

/-! ## equality -/
def toDs (f : PV → Option PyData) : List PV → Option (List PyData)
  | [] => some []
  | x :: xs => match f x, toDs f xs with
    | some d, some ds => some (d :: ds)
    | _, _ => none
def toD : Nat → Store → PV → Option PyData
  | 0, _, _ => none
  | k + 1, st, v => match v with
    | .non => some .none
    | .bl b => some (.bool b)
    | .int i => some (.int i)
    | .str x => if PyData.strOk x = true then some (.str x) else none
    | .tup xs => (toDs (toD k st) xs).map PyData.tuple
    | .frz xs => (toDs (toD k st) xs).map PyData.list
    | .ref n => match st[n]? with
      | some (.lst xs) => (toDs (toD k st) xs).map PyData.list
      | _ => none
    | _ => none
/-- equality of two things of no parts -/
def scEq (x y : PV) : Option Bool := match x, y with
  | .int i, .int j => some (decide (i = j))
  | .str a, .str b => some (decide (a = b))
  | .bl a, .bl b => some (decide (a = b))
  | .int _, .str _ => some false
  | .str _, .int _ => some false
  | .non, .int _ => some false
  | .int _, .non => some false
  | .non, .str _ => some false
  | .str _, .non => some false
  | .non, .bl _ => some false
  | .bl _, .non => some false
  | .bl _, .str _ => some false
  | .str _, .bl _ => some false
  | _, _ => none
def eqB (x y : PV) (st : Store) : Option Bool := match scEq x y with
  | some b => some b
  | none => match toD 64 st x, toD 64 st y with
    | some d, some e => some (PyData.eqv d e)
    | _, _ => none
def eqV (x y : PV) (st : Store) : O PV := (eqB x y st).map fun b => (.bl b, st)
def neV (x y : PV) (st : Store) : O PV := (eqB x y st).map fun b => (.bl (!b), st)
section
variable {K : PySem.W.Frag} {ca : Ca} {m m' : List Addr} {H H' : Hp} {st : Store}
theorem toDs_ok {f : PV → Option PyData} {k : Nat} (ih : ∀ {x v d}, VR K ca H m x v → f x = some d → Dp K H v d ∧ d.canLay0 = true ∧ d.depth ≤ k) :
    ∀ {xs : List PV} {vs : List V} {ds : List PyData}, VRs K ca H m xs vs → toDs f xs = some ds → DpAll K H vs ds ∧ PyData.canLayAll0 ds = true ∧ PyData.depthAll ds ≤ k
  | _, _, ds, .nil, e => by
    simp only [toDs, Option.some.injEq] at e
    subst e
    exact ⟨.nil, rfl, by simp [PyData.depthAll]⟩
  | _, _, ds, .cons h r, e => by
    simp only [toDs] at e
    split at e
    · rename_i d ds' e1 e2
      cases e
      obtain ⟨a1, a2, a3⟩ := ih h e1
      obtain ⟨b1, b2, b3⟩ := toDs_ok ih r e2
      refine ⟨.cons a1 b1, by simp only [PyData.canLayAll0, a2, b2]; rfl, ?_⟩
      simp only [PyData.depthAll]
      omega
    · cases e
theorem toD_ok (s : SR K ca H m st) : ∀ {k : Nat} {x : PV} {v : V} {d : PyData}, VR K ca H m x v → toD k st x = some d → Dp K H v d ∧ d.canLay0 = true ∧ d.depth ≤ k := by
  intro k
  induction k with
  | zero => intro x v d _ e; cases e
  | succ k ih =>
    intro x v d h e
    cases h with
    | non => simp only [toD, Option.some.injEq] at e; subst e; exact ⟨.non, rfl, by simp [PyData.depth]⟩
    | bl b => simp only [toD, Option.some.injEq] at e; subst e; exact ⟨.bl b, rfl, by simp [PyData.depth]⟩
    | int i => simp only [toD, Option.some.injEq] at e; subst e; exact ⟨.int i, rfl, by simp [PyData.depth]⟩
    | str x =>
      simp only [toD] at e
      split at e
      · rename_i hx
        cases e
        exact ⟨.str x, hx, by simp [PyData.depth]⟩
      · cases e
    | ty n => simp only [toD, reduceCtorEq] at e
    | cls n => simp only [toD, reduceCtorEq] at e
    | exc n => simp only [toD, reduceCtorEq] at e
    | tup hs r =>
      simp only [toD] at e
      obtain ⟨ds, e1, rfl⟩ := Option.map_eq_some_iff.mp e
      obtain ⟨a, b, c⟩ := toDs_ok ih r e1
      refine ⟨.tup hs a, by simpa only [PyData.canLay0] using b, ?_⟩
      simp only [PyData.depth]
      omega
    | frz hs r =>
      simp only [toD] at e
      obtain ⟨ds, e1, rfl⟩ := Option.map_eq_some_iff.mp e
      obtain ⟨a, b, c⟩ := toDs_ok ih r e1
      refine ⟨.lst hs.sq a, by simpa only [PyData.canLay0] using b, ?_⟩
      simp only [PyData.depth]
      omega
    | ref hn =>
      simp only [toD] at e
      split at e
      · rename_i xs hx
        obtain ⟨vs, e2, r⟩ := getL s hx hn
        obtain ⟨ds, e1, rfl⟩ := Option.map_eq_some_iff.mp e
        obtain ⟨a, b, c⟩ := toDs_ok ih r e1
        refine ⟨.lst (SqL.of e2) a, by simpa only [PyData.canLay0] using b, ?_⟩
        simp only [PyData.depth]
        omega
      · cases e
theorem scEq_ok {x y : PV} {x' y' : V} {b : Bool} (rx : VR K ca H m x x') (ry : VR K ca H m y y') (e : scEq x y = some b) : scal x' y' = true ∧ decide (x' = y') = b := by
  cases rx <;> cases ry <;> simp only [scEq, Option.some.injEq, reduceCtorEq] at e <;> subst e <;> refine ⟨rfl, ?_⟩ <;> simp
theorem eqB_ok (s : SR K ca H m st) {x y : PV} {x' y' : V} {b : Bool} (rx : VR K ca H m x x') (ry : VR K ca H m y y') (e : eqB x y st = some b) :
    (scal x' y' = true ∧ decide (x' = y') = b) ∨ ∃ d d', Dp K H x' d ∧ Dp K H y' d' ∧ SeqAt.shaped d = true ∧ SeqAt.shaped d' = true ∧ PyData.eqv d d' = b := by
  unfold eqB at e
  split at e
  · rename_i b' e1
    cases e
    exact .inl (scEq_ok rx ry e1)
  · split at e
    · rename_i d d' e1 e2
      cases e
      obtain ⟨a1, a2, a3⟩ := toD_ok s rx e1
      obtain ⟨b1, b2, b3⟩ := toD_ok s ry e2
      refine .inr ⟨d, d', a1, b1, ?_, ?_, rfl⟩
      · unfold SeqAt.shaped; rw [a2, decide_eq_true a3]; rfl
      · unfold SeqAt.shaped; rw [b2, decide_eq_true b3]; rfl
    · cases e
end
section
variable {X : Cx} {ca : Ca}
theorem of_eq (hu : X.A.units + 64 < cLine) : OpF X ca (compareOp .Eq) eqV := by
  refine ⟨_, OpR.or op_eq (op_eqD hu), fun H m st x y x' y' Q s rx ry p => ?_⟩
  unfold eqV at p
  cases e : eqB x y st with
  | none => rw [e] at p; exact p.elim
  | some b =>
    rw [e] at p
    have q := p.val s (.bl b)
    rcases eqB_ok s rx ry e with ⟨h1, h2⟩ | ⟨d, d', h1, h2, h3, h4, h5⟩
    · exact .inl ⟨h1, by rw [h2]; exact q⟩
    · exact .inr ⟨d, d', h1, h2, h3, h4, by rw [h5]; exact q⟩
theorem of_ne (hu : X.A.units + 64 < cLine) : OpF X ca (compareOp .NotEq) neV := by
  refine ⟨_, OpR.or op_ne (op_neD hu), fun H m st x y x' y' Q s rx ry p => ?_⟩
  unfold neV at p
  cases e : eqB x y st with
  | none => rw [e] at p; exact p.elim
  | some b =>
    rw [e] at p
    have q := p.val s (.bl (!b))
    rcases eqB_ok s rx ry e with ⟨h1, h2⟩ | ⟨d, d', h1, h2, h3, h4, h5⟩
    · exact .inl ⟨h1, by rw [h2]; exact q⟩
    · exact .inr ⟨d, d', h1, h2, h3, h4, by rw [h5]; exact q⟩
end
end
end FL
end
section
set_option linter.all false
set_option maxRecDepth 100000
namespace FL
open PySem PySem.Spec PyProof.Rows L2
noncomputable section
/-! ## built-ins -/
def lenV (xs : List PV) (st : Store) : O PV := match xs with
  | [.str x] => if x.length ≤ sizeLine then some (.int x.length, st) else none
  | [.tup ys] => some (.int ys.length, st)
  | [.frz ys] => some (.int ys.length, st)
  | [.ref n] => match st[n]? with
    | some (.lst ys) => some (.int ys.length, st)
    | some (.dK kvs) => some (.int kvs.length, st)
    | _ => none
  | _ => none
def absV' (xs : List PV) (st : Store) : O PV := match xs with
  | [.int i] => some (.int (if i < 0 then -i else i), st)
  | _ => none
/-- the ints that stand there -/
def intsOf : List PV → Option (List Int)
  | [] => some []
  | .int i :: xs => (intsOf xs).map fun r => i :: r
  | _ :: _ => none
def strsOf : List PV → Option (List Str)
  | [] => some []
  | .str i :: xs => (strsOf xs).map fun r => i :: r
  | _ :: _ => none
def blsOf : List PV → Option (List Bool)
  | [] => some []
  | .bl i :: xs => (blsOf xs).map fun r => i :: r
  | _ :: _ => none
/-- a list's items -/
def lstAt (st : Store) : PV → Option (List PV)
  | .frz xs => some xs
  | .ref n => match st[n]? with
    | some (.lst xs) => some xs
    | _ => none
  | _ => none
/-- a list's or a tuple's items -/
def seqAt (st : Store) : PV → Option (List PV)
  | .tup xs => some xs
  | v => lstAt st v
def maxL (ns : List Int) : Int := ns.foldl max (ns.headD 0)
def minL (ns : List Int) : Int := ns.foldl min (ns.headD 0)
def maxV (xs : List PV) (st : Store) : O PV := match xs with
  | [.int i, .int j] => some (.int (max i j), st)
  | [v] => match (lstAt st v).bind intsOf with
    | some ns => if ns = [] then none else some (.int (maxL ns), st)
    | none => none
  | _ => none
def minV (xs : List PV) (st : Store) : O PV := match xs with
  | [.int i, .int j] => some (.int (min i j), st)
  | [v] => match (lstAt st v).bind intsOf with
    | some ns => if ns = [] then none else some (.int (minL ns), st)
    | none => none
  | _ => none
def sumV (xs : List PV) (st : Store) : O PV := match xs with
  | [v] => ((lstAt st v).bind intsOf).map fun ns => (.int ns.sum, st)
  | _ => none
def anyV (xs : List PV) (st : Store) : O PV := match xs with
  | [v] => ((lstAt st v).bind blsOf).map fun ns => (.bl (ns.any id), st)
  | _ => none
def allV (xs : List PV) (st : Store) : O PV := match xs with
  | [v] => ((lstAt st v).bind blsOf).map fun ns => (.bl (ns.all id), st)
  | _ => none
def tupleV (xs : List PV) (st : Store) : O PV := match xs with
  | [v] => (seqAt st v).map fun ys => (.tup ys, st)
  | _ => none
def listV (xs : List PV) (st : Store) : O PV := match xs with
  | [v] => (seqAt st v).map fun ys => (.ref st.length, st ++ [.lst ys])
  | _ => none
def strV (xs : List PV) (st : Store) : O PV := match xs with
  | [.int i] => if i.natAbs.log2 < 1920 then some (.str (toString i), st) else none
  | _ => none
def intV (xs : List PV) (st : Store) : O PV := match xs with
  | [.str a] => match PySem.intText? a with
    | some n => if a.length ≤ 640 then some (.int n, st) else none
    | none => none
  | [.int i] => some (.int i, st)
  | [.bl b] => some (.int (if b then 1 else 0), st)
  | _ => none
def ordV (xs : List PV) (st : Store) : O PV := match xs with
  | [.str x] => if x.length = 1 then some (.int (x.cps.getD 0 0 : Nat), st) else none
  | _ => none
/-- a value's built-in type -/
def typV (st : Store) : PV → Option String
  | .non => some "NoneType"
  | .bl _ => some "bool"
  | .int _ => some "int"
  | .str _ => some "str"
  | .tup _ => some "tuple"
  | .frz _ => some "list"
  | .ref n => match st[n]? with
    | some (.lst _) => some "list"
    | some (.dK _) => some "dict"
    | _ => none
  | _ => none
def isiV (xs : List PV) (st : Store) : O PV := match xs with
  | [v, .ty n] => match typV st v with
    | some t => (kitB t n).map fun b => (.bl b, st)
    | none => none
  | _ => none
def idxV (x y : PV) (st : Store) : O PV := match y with
  | .int i => match x with
    | .str z => if z.length ≤ sizeLine then (atI z.cps.toList i).map fun c => (.str ⟨#[c]⟩, st) else none
    | v => match seqAt st v with
      | some xs => (atI xs i).map fun v => (v, st)
      | none => none
  | _ => none
def cutP (xs : List PV) (lo hi : Option Int) : List PV := (xs.drop (HT.sIx xs.length 0 lo)).take (HT.sIx xs.length xs.length hi - HT.sIx xs.length 0 lo)
def slV (x : PV) (lo hi : Option Int) (st : Store) : O PV := match x with
  | .str z => if z.length ≤ sizeLine then some (.str (cutS z lo hi), st) else none
  | .tup xs => some (.tup (cutP xs lo hi), st)
  | v => (lstAt st v).map fun xs => (.ref st.length, st ++ [.lst (cutP xs lo hi)])
def flatP : PV → Bool
  | .non => true
  | .bl _ => true
  | .int _ => true
  | .str _ => true
  | _ => false
def eqP : PV → PV → Bool
  | .non, .non => true
  | .bl a, .bl b => a == b
  | .bl a, .int b => (if a then 1 else 0) == b
  | .int a, .bl b => a == (if b then 1 else 0)
  | .int a, .int b => a == b
  | .str a, .str b => a == b
  | _, _ => false
/-- x in y -/
def inB (x y : PV) (st : Store) : Option Bool := match y with
  | .str z => match x with
    | .str a => if a.cps.size = 1 then some (decide (a.cps.getD 0 0 ∈ z.cps.toList)) else some (!(Builtin.Str.occurrences z a 0 z.length 1).isEmpty)
    | _ => none
  | v => match seqAt st v with
    | some ys => if flatP x = true ∧ ys.all flatP = true then some (ys.any fun y => eqP y x) else match lstAt st v with
      | some zs => match toD 64 st x, toDs (toD 63 st) zs with
        | some d, some ds => some (ds.any fun z => PyData.eqv z d)
        | _, _ => none
      | none => none
    | none => none
def inV (x y : PV) (st : Store) : O PV := (inB x y st).map fun b => (.bl b, st)
def ninV (x y : PV) (st : Store) : O PV := (inB x y st).map fun b => (.bl (!b), st)

section
variable {K : PySem.W.Frag} {ca : Ca} {m m' : List Addr} {H H' : Hp} {st : Store}
theorem ints_ok : ∀ {xs : List PV} {vs : List V} {ns : List Int}, VRs K ca H m xs vs → intsOf xs = some ns → vs = ns.map V.int
  | _, _, ns, .nil, e => by simp only [intsOf, Option.some.injEq] at e; subst e; rfl
  | _, _, ns, .cons h r, e => by
    cases h with
    | int i =>
      simp only [intsOf] at e
      obtain ⟨r', e1, rfl⟩ := Option.map_eq_some_iff.mp e
      rw [ints_ok r e1, List.map_cons]
    | _ => cases e
theorem strs_ok : ∀ {xs : List PV} {vs : List V} {ns : List Str}, VRs K ca H m xs vs → strsOf xs = some ns → vs = ns.map V.str
  | _, _, ns, .nil, e => by simp only [strsOf, Option.some.injEq] at e; subst e; rfl
  | _, _, ns, .cons h r, e => by
    cases h with
    | str i =>
      simp only [strsOf] at e
      obtain ⟨r', e1, rfl⟩ := Option.map_eq_some_iff.mp e
      rw [strs_ok r e1, List.map_cons]
    | _ => cases e
theorem bls_ok : ∀ {xs : List PV} {vs : List V} {ns : List Bool}, VRs K ca H m xs vs → blsOf xs = some ns → vs = ns.map V.bl
  | _, _, ns, .nil, e => by simp only [blsOf, Option.some.injEq] at e; subst e; rfl
  | _, _, ns, .cons h r, e => by
    cases h with
    | bl i =>
      simp only [blsOf] at e
      obtain ⟨r', e1, rfl⟩ := Option.map_eq_some_iff.mp e
      rw [bls_ok r e1, List.map_cons]
    | _ => cases e
theorem lst_ok (s : SR K ca H m st) {v : PV} {w : V} {xs : List PV} (r : VR K ca H m v w) (e : lstAt st v = some xs) : ∃ a vs, w = .ref a ∧ SqL K H a vs ∧ VRs K ca H m xs vs := by
  cases r with
  | frz h r => simp only [lstAt, Option.some.injEq] at e; subst e; exact ⟨_, _, rfl, h.sq, r⟩
  | ref hn =>
    simp only [lstAt] at e
    split at e
    · rename_i ys hx
      cases e
      obtain ⟨vs, e1, r1⟩ := getL s hx hn
      exact ⟨_, _, rfl, SqL.of e1, r1⟩
    · cases e
  | _ => cases e
theorem seq_ok (s : SR K ca H m st) {v : PV} {w : V} {xs : List PV} (r : VR K ca H m v w) (e : seqAt st v = some xs) : ∃ a vs, w = .ref a ∧ (SqL K H a vs ∨ SqT K H a vs) ∧ VRs K ca H m xs vs := by
  cases r with
  | tup h r => simp only [seqAt, Option.some.injEq] at e; subst e; exact ⟨_, _, rfl, .inr h, r⟩
  | frz h r => simp only [seqAt, lstAt, Option.some.injEq] at e; subst e; exact ⟨_, _, rfl, .inl h.sq, r⟩
  | ref hn =>
    obtain ⟨a, vs, e1, e2, e3⟩ := lst_ok s (.ref hn) (show lstAt st _ = some xs from e)
    exact ⟨a, vs, e1, .inl e2, e3⟩
  | _ => cases e
theorem atI_ok {xs : List PV} {vs : List V} {i : Int} {x : PV} (r : VRs K ca H m xs vs) (e : atI xs i = some x) : ∃ v, atI vs i = some v ∧ VR K ca H m x v := by
  unfold atI at e ⊢
  rw [← r.length]
  cases q : ixN xs.length i with
  | none => rw [q] at e; cases e
  | some j =>
    rw [q] at e
    exact r.get e
theorem cut_ok {xs : List PV} {vs : List V} (r : VRs K ca H m xs vs) (lo hi : Option Int) : VRs K ca H m (cutP xs lo hi) (cutV vs lo hi) := by
  unfold cutP cutV
  rw [← r.length]
  exact (r.drop _).take _
theorem maxL_ok : ∀ (ns : List Int) (a : Int), a ≤ ns.foldl max a ∧ (∀ y ∈ ns, y ≤ ns.foldl max a) ∧ (ns.foldl max a = a ∨ ns.foldl max a ∈ ns)
  | [], a => ⟨Int.le_refl _, fun _ h => (nomatch h), .inl rfl⟩
  | n :: r, a => by
    obtain ⟨h1, h2, h3⟩ := maxL_ok r (max a n)
    rw [List.foldl_cons]
    refine ⟨by omega, fun y hy => ?_, ?_⟩
    · rcases List.mem_cons.mp hy with rfl | hy
      · omega
      · exact h2 y hy
    · rcases h3 with h3 | h3
      · by_cases q : a ≤ n
        · exact .inr (by rw [h3]; rw [show max a n = n by omega]; exact List.mem_cons_self)
        · exact .inl (by rw [h3]; omega)
      · exact .inr (List.mem_cons_of_mem _ h3)
theorem minL_ok : ∀ (ns : List Int) (a : Int), ns.foldl min a ≤ a ∧ (∀ y ∈ ns, ns.foldl min a ≤ y) ∧ (ns.foldl min a = a ∨ ns.foldl min a ∈ ns)
  | [], a => ⟨Int.le_refl _, fun _ h => (nomatch h), .inl rfl⟩
  | n :: r, a => by
    obtain ⟨h1, h2, h3⟩ := minL_ok r (min a n)
    rw [List.foldl_cons]
    refine ⟨by omega, fun y hy => ?_, ?_⟩
    · rcases List.mem_cons.mp hy with rfl | hy
      · omega
      · exact h2 y hy
    · rcases h3 with h3 | h3
      · by_cases q : n ≤ a
        · exact .inr (by rw [h3]; rw [show min a n = n by omega]; exact List.mem_cons_self)
        · exact .inl (by rw [h3]; omega)
      · exact .inr (List.mem_cons_of_mem _ h3)
theorem flat_ok {x : PV} {v : V} (r : VR K ca H m x v) (h : flatP x = true) : flatV v = true := by
  cases r <;> first | rfl | cases h
theorem flats_ok : ∀ {xs : List PV} {vs : List V}, VRs K ca H m xs vs → xs.all flatP = true → vs.all flatV = true
  | _, _, .nil, _ => rfl
  | _, _, .cons h r, e => by
    simp only [List.all_cons, Bool.and_eq_true] at e ⊢
    exact ⟨flat_ok h e.1, flats_ok r e.2⟩
theorem eqP_ok {x y : PV} {v w : V} (rx : VR K ca H m x v) (ry : VR K ca H m y w) : L2.eqV v w = eqP x y := by
  cases rx <;> cases ry <;> rfl
theorem anyP_ok {x : PV} {v : V} (rx : VR K ca H m x v) : ∀ {xs : List PV} {vs : List V}, VRs K ca H m xs vs → L2.inV v vs = xs.any fun y => eqP y x
  | _, _, .nil => rfl
  | _, _, .cons h r => by
    have ih := anyP_ok rx r
    unfold L2.inV at ih ⊢
    rw [List.any_cons, List.any_cons, ih, eqP_ok h rx]
theorem typ_ok (s : SR K ca H m st) {x : PV} {v : V} {t : String} (r : VR K ca H m x v) (e : typV st x = some t) : TyX K H v (.type t) := by
  cases r with
  | non => cases e; exact .base .non
  | bl b => cases e; exact .base (.bl b)
  | int i => cases e; exact .base (.int i)
  | str x => cases e; exact .base (.str x)
  | tup h r =>
    cases e
    rcases h with (h | ⟨o, h⟩) | ⟨o, its, n, h1, h2, _⟩
    · exact .base (.tup h)
    · exact .fTuple h
    · exact .kTuple h1 h2
  | frz h r =>
    cases e
    rcases h with ⟨o, h⟩ | ⟨o, its, n, h1, h2, _⟩
    · exact .base (.frz h)
    · exact .kList h1 h2
  | ref hn =>
    simp only [typV] at e
    split at e
    · rename_i ys hx
      cases e
      obtain ⟨vs, e1, r1⟩ := s.at hx hn
      exact .base (.lst e1)
    · rename_i ys hx
      cases e
      obtain ⟨vs, e1, r1⟩ := s.at hx hn
      exact .base (.dK e1)
    · cases e
  | _ => cases e
end
section
variable {X : Cx} {ca : Ca}
theorem CallR.or {f : Value} {r r' : List V → Hp → VK → Prop} (h : CallR X f r) (h' : CallR X f r') : CallR X f (fun xs H Q => r xs H Q ∨ r' xs H Q) := by
  intro pins s σ H xs us Q I r q
  rcases q with q | q
  · exact h pins s σ H xs us Q I r q
  · exact h' pins s σ H xs us Q I r q
theorem vrs1 {K : PySem.W.Frag} {H : Hp} {m : List Addr} {x : PV} {vs : List V} (r : VRs K ca H m [x] vs) : ∃ v, vs = [v] ∧ VR K ca H m x v := by
  cases r with
  | cons h r => cases r; exact ⟨_, rfl, h⟩
theorem vrs2 {K : PySem.W.Frag} {H : Hp} {m : List Addr} {x y : PV} {vs : List V} (r : VRs K ca H m [x, y] vs) : ∃ v w, vs = [v, w] ∧ VR K ca H m x v ∧ VR K ca H m y w := by
  cases r with
  | cons h r => cases r with
    | cons h2 r => cases r; exact ⟨_, _, rfl, h, h2⟩
theorem cb_len : CbF X ca (.builtin "len") lenV := by
  refine ⟨_, CallR.or call_len call_lenD, fun H m st xs vs Q s r p => ?_⟩
  unfold lenV at p
  split at p
  · obtain ⟨v, rfl, r1⟩ := vrs1 r
    cases r1
    split at p
    · rename_i x hz
      exact .inl ⟨_, x.length, rfl, ⟨hz, rfl⟩, p.val s (.int _)⟩
    · exact p.elim
  · obtain ⟨v, rfl, r1⟩ := vrs1 r
    cases r1 with
    | tup h rr => exact .inl ⟨_, _, rfl, .inr ⟨_, h, rr.length⟩, p.val s (.int _)⟩
  · obtain ⟨v, rfl, r1⟩ := vrs1 r
    cases r1 with
    | frz h rr => exact .inl ⟨_, _, rfl, .inl ⟨_, h.sq, rr.length⟩, p.val s (.int _)⟩
  · obtain ⟨v, rfl, r1⟩ := vrs1 r
    cases r1 with
    | ref hn =>
      split at p
      · rename_i ys hx
        obtain ⟨vs, e1, r1⟩ := getL s hx hn
        exact .inl ⟨_, _, rfl, .inl ⟨_, SqL.of e1, r1.length⟩, p.val s (.int _)⟩
      · rename_i ys hx
        obtain ⟨vs, e1, r1⟩ := s.at hx hn
        refine .inr ⟨_, _, rfl, e1, ?_⟩
        have : ys.length = vs.length := Paired.length r1
        rw [← this]
        exact p.val s (.int _)
      · exact p.elim
  · exact p.elim
theorem cb_abs : CbF X ca (.builtin "abs") absV' := by
  refine ⟨_, call_abs, fun H m st xs vs Q s r p => ?_⟩
  unfold absV' at p
  split at p
  · obtain ⟨v, rfl, r1⟩ := vrs1 r
    cases r1
    exact ⟨_, rfl, p.val s (.int _)⟩
  · exact p.elim
theorem cb_max (hc : X.calm = true) : CbF X ca (.builtin "max") maxV := by
  refine ⟨_, CallR.or (call_max2 hc) (cr_max hc), fun H m st xs vs Q s r p => ?_⟩
  unfold maxV at p
  split at p
  · rename_i i j
    obtain ⟨v, w, rfl, r1, r2⟩ := vrs2 r
    cases r1
    cases r2
    refine .inl ⟨_, _, rfl, ?_⟩
    rw [show (if j > i then j else i) = max i j by split <;> omega]
    exact p.val s (.int _)
  · obtain ⟨v, rfl, r1⟩ := vrs1 r
    split at p
    · rename_i ns he
      obtain ⟨ys, e1, e2⟩ := Option.bind_eq_some_iff.mp he
      obtain ⟨a, vs, rfl, hq, r2⟩ := lst_ok s r1 e1
      obtain rfl := ints_ok r2 e2
      split at p
      · exact p.elim
      · rename_i hne
        refine .inr ⟨a, ns, rfl, hq, by cases ns with | nil => exact absurd rfl hne | cons _ _ => simp, fun mm hm hle => ?_⟩
        have e : mm = maxL ns := by
          cases ns with
          | nil => cases hm
          | cons n r =>
            obtain ⟨q1, q2, q3⟩ := maxL_ok (n :: r) n
            have i1 := q2 mm hm
            have i2 : maxL (n :: r) ∈ n :: r := by
              rcases q3 with q3 | q3
              · show List.foldl max n (n :: r) ∈ _
                rw [q3]; exact List.mem_cons_self
              · exact q3
            have i3 := hle _ i2
            show mm = List.foldl max n (n :: r)
            have i4 : maxL (n :: r) = List.foldl max n (n :: r) := rfl
            omega
        rw [e]
        exact p.val s (.int _)
    · exact p.elim
  · exact p.elim
theorem cb_min (hc : X.calm = true) : CbF X ca (.builtin "min") minV := by
  refine ⟨_, CallR.or (call_min2 hc) (cr_min hc), fun H m st xs vs Q s r p => ?_⟩
  unfold minV at p
  split at p
  · rename_i i j
    obtain ⟨v, w, rfl, r1, r2⟩ := vrs2 r
    cases r1
    cases r2
    refine .inl ⟨_, _, rfl, ?_⟩
    rw [show (if j < i then j else i) = min i j by split <;> omega]
    exact p.val s (.int _)
  · obtain ⟨v, rfl, r1⟩ := vrs1 r
    split at p
    · rename_i ns he
      obtain ⟨ys, e1, e2⟩ := Option.bind_eq_some_iff.mp he
      obtain ⟨a, vs, rfl, hq, r2⟩ := lst_ok s r1 e1
      obtain rfl := ints_ok r2 e2
      split at p
      · exact p.elim
      · rename_i hne
        refine .inr ⟨a, ns, rfl, hq, by cases ns with | nil => exact absurd rfl hne | cons _ _ => simp, fun mm hm hle => ?_⟩
        have e : mm = minL ns := by
          cases ns with
          | nil => cases hm
          | cons n r =>
            obtain ⟨q1, q2, q3⟩ := minL_ok (n :: r) n
            have i1 := q2 mm hm
            have i2 : minL (n :: r) ∈ n :: r := by
              rcases q3 with q3 | q3
              · show List.foldl min n (n :: r) ∈ _
                rw [q3]; exact List.mem_cons_self
              · exact q3
            have i3 := hle _ i2
            show mm = List.foldl min n (n :: r)
            have i4 : minL (n :: r) = List.foldl min n (n :: r) := rfl
            omega
        rw [e]
        exact p.val s (.int _)
    · exact p.elim
  · exact p.elim
theorem cb_sum (hc : X.calm = true) : CbF X ca (.builtin "sum") sumV := by
  refine ⟨_, cr_sum hc, fun H m st xs vs Q s r p => ?_⟩
  unfold sumV at p
  split at p
  · obtain ⟨v, rfl, r1⟩ := vrs1 r
    rename_i w
    cases he : (lstAt st w).bind intsOf with
    | none => rw [he] at p; exact p.elim
    | some ns =>
      rw [he] at p
      obtain ⟨ys, e1, e2⟩ := Option.bind_eq_some_iff.mp he
      obtain ⟨a, vs, rfl, hq, r2⟩ := lst_ok s r1 e1
      obtain rfl := ints_ok r2 e2
      exact ⟨a, ns, rfl, hq, p.val s (.int _)⟩
  · exact p.elim
theorem cb_any (hc : X.calm = true) : CbF X ca (.builtin "any") anyV := by
  refine ⟨_, cr_any hc, fun H m st xs vs Q s r p => ?_⟩
  unfold anyV at p
  split at p
  · obtain ⟨v, rfl, r1⟩ := vrs1 r
    rename_i w
    cases he : (lstAt st w).bind blsOf with
    | none => rw [he] at p; exact p.elim
    | some ns =>
      rw [he] at p
      obtain ⟨ys, e1, e2⟩ := Option.bind_eq_some_iff.mp he
      obtain ⟨a, vs, rfl, hq, r2⟩ := lst_ok s r1 e1
      obtain rfl := bls_ok r2 e2
      exact ⟨a, ns, rfl, hq, p.val s (.bl _)⟩
  · exact p.elim
theorem cb_all (hc : X.calm = true) : CbF X ca (.builtin "all") allV := by
  refine ⟨_, cr_all hc, fun H m st xs vs Q s r p => ?_⟩
  unfold allV at p
  split at p
  · obtain ⟨v, rfl, r1⟩ := vrs1 r
    rename_i w
    cases he : (lstAt st w).bind blsOf with
    | none => rw [he] at p; exact p.elim
    | some ns =>
      rw [he] at p
      obtain ⟨ys, e1, e2⟩ := Option.bind_eq_some_iff.mp he
      obtain ⟨a, vs, rfl, hq, r2⟩ := lst_ok s r1 e1
      obtain rfl := bls_ok r2 e2
      exact ⟨a, ns, rfl, hq, p.val s (.bl _)⟩
  · exact p.elim
theorem cb_tuple : CbF X ca (.type "tuple") tupleV := by
  refine ⟨_, call_tuple_of, fun H m st xs vs Q s r p => ?_⟩
  unfold tupleV at p
  split at p
  · obtain ⟨v, rfl, r1⟩ := vrs1 r
    rename_i w
    cases r1 with
    | tup h rr => exact ⟨_, _, rfl, .inr ⟨h, p.val s (.tup h rr)⟩⟩
    | frz h rr => exact ⟨_, _, rfl, .inl ⟨h.sq, fun l hl => p.newT s rr hl⟩⟩
    | ref hn =>
      simp only [seqAt, lstAt] at p
      split at p
      · rename_i ys hx
        obtain ⟨vs, e1, r1⟩ := getL s hx hn
        exact ⟨_, _, rfl, .inl ⟨SqL.of e1, fun l hl => p.newT s r1 hl⟩⟩
      · exact p.elim
    | _ => exact p.elim
  · exact p.elim
theorem cb_list : CbF X ca (.type "list") listV := by
  refine ⟨_, call_list_of, fun H m st xs vs Q s r p => ?_⟩
  unfold listV at p
  split at p
  · obtain ⟨v, rfl, r1⟩ := vrs1 r
    rename_i w
    cases he : seqAt st w with
    | none => rw [he] at p; exact p.elim
    | some ys =>
      rw [he] at p
      obtain ⟨a, vs, rfl, hq, r2⟩ := seq_ok s r1 he
      exact ⟨a, vs, rfl, hq, fun l hl => p.newL s r2 hl⟩
  · exact p.elim
theorem cb_str : CbF X ca (.type "str") strV := by
  refine ⟨_, call_str_int, fun H m st xs vs Q s r p => ?_⟩
  unfold strV at p
  split at p
  · obtain ⟨v, rfl, r1⟩ := vrs1 r
    cases r1
    split at p
    · rename_i hz
      exact ⟨_, rfl, hz, p.val s (.str _)⟩
    · exact p.elim
  · exact p.elim
theorem cb_int : CbF X ca (.type "int") intV := by
  refine ⟨_, CallR.or call_int_str call_int1, fun H m st xs vs Q s r p => ?_⟩
  unfold intV at p
  split at p
  · obtain ⟨v, rfl, r1⟩ := vrs1 r
    cases r1
    split at p
    · rename_i n hn
      split at p
      · rename_i hz
        exact .inl ⟨_, n, rfl, hn, hz, p.val s (.int _)⟩
      · exact p.elim
    · exact p.elim
  · obtain ⟨v, rfl, r1⟩ := vrs1 r
    cases r1
    exact .inr (.inl ⟨_, rfl, p.val s (.int _)⟩)
  · obtain ⟨v, rfl, r1⟩ := vrs1 r
    cases r1
    exact .inr (.inr ⟨_, rfl, p.val s (.int _)⟩)
  · exact p.elim
theorem cb_ord : CbF X ca (.builtin "ord") ordV := by
  refine ⟨_, call_ord, fun H m st xs vs Q s r p => ?_⟩
  unfold ordV at p
  split at p
  · obtain ⟨v, rfl, r1⟩ := vrs1 r
    cases r1
    split at p
    · rename_i hz
      exact ⟨_, rfl, hz, p.val s (.int _)⟩
    · exact p.elim
  · exact p.elim
theorem cb_isi : CbF X ca (.builtin "isinstance") isiV := by
  refine ⟨_, call_isi, fun H m st xs vs Q s r p => ?_⟩
  unfold isiV at p
  split at p
  · rename_i v0 n0
    obtain ⟨v, w, rfl, r1, r2⟩ := vrs2 r
    cases r2
    split at p
    · rename_i t ht
      cases hk : kitB t n0 with
      | none => rw [hk] at p; exact p.elim
      | some b =>
        rw [hk] at p
        exact ⟨v, _, _, _, b, rfl, .ty _, typ_ok s r1 ht, kit_ty hk, p.val s (.bl b)⟩
    · exact p.elim
  · exact p.elim
theorem ix_any : IxF X ca idxV := by
  refine ⟨_, ix_seq, fun H m st x y x' y' Q s rx ry p => ?_⟩
  unfold idxV at p
  split at p
  · cases ry
    rename_i i
    split at p
    · cases rx
      rename_i z
      split at p
      · rename_i hz
        cases he : atI z.cps.toList i with
        | none => rw [he] at p; exact p.elim
        | some c =>
          rw [he] at p
          exact .inr (.inr ⟨z, i, c, rfl, rfl, hz, he, p.val s (.str _)⟩)
      · exact p.elim
    · split at p
      · rename_i xs he
        obtain ⟨a, vs, rfl, hq, r2⟩ := seq_ok s rx he
        cases hi : atI xs i with
        | none => rw [hi] at p; exact p.elim
        | some v =>
          rw [hi] at p
          obtain ⟨w, e1, e2⟩ := atI_ok r2 hi
          rcases hq with hq | hq
          · exact .inl ⟨a, vs, i, w, rfl, rfl, hq, e1, p.val s e2⟩
          · exact .inr (.inl ⟨a, vs, i, w, rfl, rfl, hq, e1, p.val s e2⟩)
      · exact p.elim
  · exact p.elim
/-! ### in -/
theorem of_in (hu : X.A.units + 65 < cLine) : OpF X ca (compareOp .In) inV := by
  refine ⟨_, OpR.or op_in_sign (OpR.or op_in_str (OpR.or op_in_seq (op_inD hu))), fun H m st x y x' y' Q s rx ry p => ?_⟩
  unfold inV inB at p
  split at p
  · cases ry
    rename_i z
    split at p
    · cases rx
      rename_i a
      split at p
      · rename_i h1
        refine .inl ⟨a.cps.getD 0 0, z, ?_, rfl, p.val s (.bl _)⟩
        obtain ⟨⟨l⟩⟩ := a
        match l, h1 with
        | [c], _ => rfl
      · exact .inr (.inl ⟨a, z, rfl, rfl, p.val s (.bl _)⟩)
    · exact p.elim
  · split at p
    · rename_i ys he
      obtain ⟨a, vs, e0, hq, r2⟩ := seq_ok s ry he
      split at p
      · rename_i hf
        subst e0
        refine .inr (.inr (.inl ⟨a, vs, rfl, hq, flat_ok rx hf.1, flats_ok r2 hf.2, ?_⟩))
        show Q (.bl (L2.inV x' vs)) H
        rw [anyP_ok rx r2]
        exact p.val s (.bl _)
      · split at p
        · rename_i zs hz
          obtain ⟨a2, ws, e1, hq2, r3⟩ := lst_ok s ry hz
          split at p
          · rename_i d ds h1 h2
            obtain ⟨a1, a2, a3⟩ := toD_ok s rx h1
            obtain ⟨b1, b2, b3⟩ := toDs_ok (fun h e => toD_ok s h e) r3 h2
            subst e1
            refine .inr (.inr (.inr ⟨d, ds, a1, .lst hq2 b1, ?_, ?_, p.val s (.bl _)⟩))
            · unfold SeqAt.shaped; rw [a2, decide_eq_true a3]; rfl
            · unfold SeqAt.shaped
              rw [decide_eq_true (show (PyData.list ds).depth ≤ 64 by simp only [PyData.depth]; omega)]
              simp only [PyData.canLay0, b2]
              rfl
          · exact p.elim
        · exact p.elim
    · exact p.elim
theorem of_nin (hu : X.A.units + 65 < cLine) : OpF X ca (compareOp .NotIn) ninV := by
  refine ⟨_, OpR.or op_notIn_sign (OpR.or op_notin_str (OpR.or op_notIn_seq (op_notInD hu))), fun H m st x y x' y' Q s rx ry p => ?_⟩
  unfold ninV inB at p
  split at p
  · cases ry
    rename_i z
    split at p
    · cases rx
      rename_i a
      split at p
      · rename_i h1
        refine .inl ⟨a.cps.getD 0 0, z, ?_, rfl, p.val s (.bl _)⟩
        obtain ⟨⟨l⟩⟩ := a
        match l, h1 with
        | [c], _ => rfl
      · exact .inr (.inl ⟨a, z, rfl, rfl, p.val s (.bl _)⟩)
    · exact p.elim
  · split at p
    · rename_i ys he
      obtain ⟨a, vs, e0, hq, r2⟩ := seq_ok s ry he
      split at p
      · rename_i hf
        subst e0
        refine .inr (.inr (.inl ⟨a, vs, rfl, hq, flat_ok rx hf.1, flats_ok r2 hf.2, ?_⟩))
        show Q (.bl (!L2.inV x' vs)) H
        rw [anyP_ok rx r2]
        exact p.val s (.bl _)
      · split at p
        · rename_i zs hz
          obtain ⟨a2, ws, e1, hq2, r3⟩ := lst_ok s ry hz
          split at p
          · rename_i d ds h1 h2
            obtain ⟨a1, a2, a3⟩ := toD_ok s rx h1
            obtain ⟨b1, b2, b3⟩ := toDs_ok (fun h e => toD_ok s h e) r3 h2
            subst e1
            refine .inr (.inr (.inr ⟨d, ds, a1, .lst hq2 b1, ?_, ?_, p.val s (.bl _)⟩))
            · unfold SeqAt.shaped; rw [a2, decide_eq_true a3]; rfl
            · unfold SeqAt.shaped
              rw [decide_eq_true (show (PyData.list ds).depth ≤ 64 by simp only [PyData.depth]; omega)]
              simp only [PyData.canLay0, b2]
              rfl
          · exact p.elim
        · exact p.elim
    · exact p.elim
end

/-! ## slices -/
abbrev FO := Env → Store → R (Option Int)
def noO : FO := fun _ st => .ok none st
def asI (v : PV) (st : Store) : R (Option Int) := match v with
  | .int i => .ok (some i) st
  | _ => .no
def someO (f : FE) : FO := fun e st => (f e st).bind asI
def sliF (fo : FE) (fl fh : FO) : FE := fun e st => (fo e st).bind fun o s1 => (fl e s1).bind fun l s2 => (fh e s2).bind fun h s3 => R.of (slV o l h s3)
section
variable {X : Cx} {W : WX} {ca : Ca} {pos p2 : Pos}
structure JO (X : Cx) (W : WX) (ca : Ca) (e : Option Expr) (f : FO) : Prop where
  ex : ∃ t, L2.PO X e t ∧ ∀ σ H m env st Q, SR X.K ca H m st → ER X.K ca H m env σ → Post X.K ca (fun _ _ a b => a = b) (EW W ca σ) m H Q (f env st) → t σ H Q
theorem jo_none : JO X W ca none noO := ⟨_, po_none, fun σ H m env st Q s e h => h.ok s rfl⟩
theorem jo_some {e : Expr} {f : FE} (he : JE X W ca e f) : JO X W ca (some e) (someO f) := by
  obtain ⟨t, p, r⟩ := he.ex
  refine ⟨_, po_some p, fun σ H m env st Q s e h => ?_⟩
  refine r σ H m env st _ s e (Post.bind h fun x st1 m1 x' H1 p1 k1 s1 r1 h1 => ?_)
  cases r1 with
  | int i => exact ⟨i, rfl, h1.ok s1 rfl⟩
  | _ => exact h1.elim
theorem je_sl {e : Expr} {lo hi : Option Expr} {fo : FE} {fl fh : FO} (he : JE X W ca e fo) (hl : JO X W ca lo fl) (hh : JO X W ca hi fh) : JE X W ca (.Subscript e (.Slice lo hi none p2) pos) (sliF fo fl fh) := by
  obtain ⟨t, p, r⟩ := he.ex
  obtain ⟨t1, p1, r1⟩ := hl.ex
  obtain ⟨t2, p2, r2⟩ := hh.ex
  refine ⟨_, pe_slice (SlR.or sl_str (SlR.or sl_tupA sl_list)) p p1 p2, fun σ H m env st Q s e h => ?_⟩
  refine r σ H m env st _ s e (Post.bind h fun x st1 m1 x' H1 q1 k1 s1 rr1 h1 => ?_)
  refine r1 σ H1 m1 env st1 _ s1 (e.mono q1 k1) (Post.bind h1 fun l st2 m2 l' H2 q2 k2 s2 rr2 h2 => ?_)
  refine r2 σ H2 m2 env st2 _ s2 ((e.mono q1 k1).mono q2 k2) (Post.bind h2 fun u st3 m3 u' H3 q3 k3 s3 rr3 h3 => ?_)
  obtain rfl : l = l' := rr2
  obtain rfl : u = u' := rr3
  have rx := rr1.mono (q2.trans q3) (k2.trans k3)
  have hp := h3.of
  unfold slV at hp
  split at hp
  · cases rx
    rename_i z
    split at hp
    · rename_i hz
      exact .inl ⟨z, rfl, hz, hp.val s3 (.str _)⟩
    · exact hp.elim
  · cases rx with
    | tup hs rr =>
      rename_i xs a vs
      refine .inr (.inl ⟨a, vs, rfl, hs, fun e => ?_, fun _ q hq => hp.newT s3 (cut_ok rr l u) hq⟩)
      have ew : cutP xs l u = xs := by
        unfold cutP
        rw [rr.length, e.1, e.2, Nat.sub_zero, List.drop_zero, List.take_of_length_le (by rw [rr.length]; exact Nat.le_refl _)]
      rw [ew] at hp
      exact hp.val s3 (.tup hs rr)
  · rename_i v _ _
    cases he : lstAt st3 x with
    | none => rw [he] at hp; exact hp.elim
    | some xs =>
      rw [he] at hp
      obtain ⟨a, vs, rfl, hq, rr⟩ := lst_ok s3 rx he
      exact .inr (.inr ⟨a, vs, rfl, hq, fun q hq' => hp.newL s3 (cut_ok rr l u) hq'⟩)
end
end
end FL
end
section
set_option linter.all false
set_option maxRecDepth 100000
namespace FL
open PySem PySem.Spec PyProof.Rows L2
noncomputable section
/-! ## methods of built-in types -/
def tyOk (T : String) (o : PV) (st : Store) : Bool := match o with
  | .str _ => T == "str"
  | .frz _ => T == "list"
  | .ref n => match st[n]? with
    | some (.lst _) => T == "list"
    | some (.dK _) => T == "dict"
    | _ => false
  | _ => false
def bmF' (T : String) (g : PV → List PV → Store → O PV) (fo : FE) (f : FA) : FE := fun e st => (fo e st).bind fun o s1 => if tyOk T o s1 = true then (f e s1).bind fun xs s2 => R.of (g o xs s2) else .no
section
variable {K : PySem.W.Frag} {ca : Ca} {m m' : List Addr} {H H' : Hp} {st : Store}
theorem ty_ok (s : SR K ca H m st) {o : PV} {v : V} {T : String} (r : VR K ca H m o v) (e : tyOk T o st = true) : tyV K T v H := by
  cases r with
  | str x => exact eq_of_beq e
  | frz h r => exact .inl ⟨eq_of_beq e, _, h.sq⟩
  | ref hn =>
    simp only [tyOk] at e
    split at e
    · rename_i xs hx
      obtain ⟨vs, e1, _⟩ := getL s hx hn
      exact .inl ⟨eq_of_beq e, _, SqL.of e1⟩
    · rename_i xs hx
      obtain ⟨vs, e1, _⟩ := s.at hx hn
      exact .inr (.inr (.inl ⟨eq_of_beq e, .inl ⟨_, e1⟩⟩))
    · cases e
  | _ => cases e
end
section
variable {X : Cx} {W : WX} {ca : Ca}
theorem je_bm {o e : Expr} {es : List Expr} {name : Str} {apos cpos : Pos} {T id : String} {g : PV → List PV → Store → O PV} {fo : FE} {fa : FA} (pa : PlainAttrs T) (slot : Slot T name id) (hty : typeOf (.builtin id) = pure (.type "method_descriptor")) (hm : BmF X ca T id g) (ho : JE X W ca o fo) (ha : JA X W ca (e :: es) fa)
    (hbase : attributeBase o name X.env (eval o X.env) = eval o X.env := by rfl)
    (hfew : ((backTo cpos (starEach (e :: es) X.env)).all (fun x => !x.1) && (backToKw cpos (keywordEach [] X.env)).all (fun x => x.1.isSome)
      && decide ((e :: es).length + ([] : List Keyword).length + (if ([] : List Keyword).isEmpty then 0 else 1) < 30)) = true := by rfl)
    (hline : (apos.endLine == cpos.line) = true := by rfl) (hs : starEach (e :: es) X.env = (false, eval e X.env) :: starEach es X.env := by rfl) (hplain : (backTo cpos (starEach es X.env)).any (·.1) = false := by rfl) :
    JE X W ca (.Call (.Attribute o name apos) (e :: es) [] cpos) (bmF' T g fo fa) := by
  obtain ⟨t, p, r⟩ := ho.ex
  obtain ⟨ta, pA, ra⟩ := ha.ex
  obtain ⟨rr, pm, rm⟩ := hm
  refine ⟨_, pe_bm pa slot hty pm p pA hbase hfew hline hs hplain, fun σ H m env st Q s e h => ?_⟩
  refine r σ H m env st _ s e (Post.bind h fun x st1 m1 x' H1 p1 k1 s1 r1 h1 => ?_)
  split at h1
  · rename_i ht
    refine ⟨ty_ok s1 r1 ht, ra σ H1 m1 env st1 _ s1 (e.mono p1 k1) (Post.bind h1 fun xs st2 m2 vs H2 p2 k2 s2 r2 h2 => ?_)⟩
    exact rm H2 m2 st2 x x' xs vs Q s2 (r1.mono p2 k2) r2 h2.of
  · exact h1.elim
theorem je_bm0 {o : Expr} {name : Str} {apos cpos : Pos} {T id : String} {g : PV → List PV → Store → O PV} {fo : FE} (pa : PlainAttrs T) (slot : Slot T name id) (hty : typeOf (.builtin id) = pure (.type "method_descriptor")) (hm : BmF X ca T id g) (ho : JE X W ca o fo)
    (hbase : attributeBase o name X.env (eval o X.env) = eval o X.env := by rfl) (hline : (apos.endLine == cpos.line) = true := by rfl) : JE X W ca (.Call (.Attribute o name apos) [] [] cpos) (bmF' T g fo nilA) := by
  obtain ⟨t, p, r⟩ := ho.ex
  obtain ⟨rr, pm, rm⟩ := hm
  refine ⟨_, pe_bm0 pa slot hty pm p hbase hline, fun σ H m env st Q s e h => ?_⟩
  refine r σ H m env st _ s e (Post.bind h fun x st1 m1 x' H1 p1 k1 s1 r1 h1 => ?_)
  split at h1
  · rename_i ht
    refine ⟨ty_ok s1 r1 ht, ?_⟩
    exact rm H1 m1 st1 x x' [] [] Q s1 r1 .nil h1.of
  · exact h1.elim
/-- a method's rule by its weaker form -/
theorem BmF.mk {T id : String} {rr : V → List V → Hp → VK → Prop} {g : PV → List PV → Store → O PV} (h : MtR X id rr)
    (q : ∀ H m st o o' xs vs Q, SR X.K ca H m st → VR X.K ca H m o o' → VRs X.K ca H m xs vs → Post0 X.K ca (VR X.K ca) m H Q (g o xs st) → rr o' vs H Q) : BmF X ca T id g := ⟨_, h, q⟩
/-! ### lists -/
def appendV (o : PV) (xs : List PV) (st : Store) : O PV := match o, xs with
  | .ref n, [y] => match st[n]? with
    | some (.lst zs) => if zs.length < sizeLine then some (.non, st.set n (.lst (zs ++ [y]))) else none
    | _ => none
  | _, _ => none
theorem bm_append : BmF X ca "list" "list.append" appendV := by
  refine BmF.mk mt_append fun H m st o o' xs vs Q s ro rs p => ?_
  unfold appendV at p
  split at p
  · cases ro with
    | ref hn =>
      obtain ⟨v, rfl, r1⟩ := vrs1 rs
      split at p
      · rename_i zs hx
        obtain ⟨vs, e1, r2⟩ := getL s hx hn
        split at p
        · rename_i hz
          exact ⟨_, vs, v, rfl, rfl, e1, by rw [← r2.length]; exact hz, p.setL s hn e1 (r2.append (.cons r1 .nil)) .non⟩
        · exact p.elim
      · exact p.elim
  · exact p.elim
def extendV (o : PV) (xs : List PV) (st : Store) : O PV := match o, xs with
  | .ref n, [.ref k] => match st[n]?, st[k]? with
    | some (.lst zs), some (.lst ys) => if zs.length + ys.length ≤ sizeLine then some (.non, st.set n (.lst (zs ++ ys))) else none
    | _, _ => none
  | _, _ => none
theorem bm_extend : BmF X ca "list" "list.extend" extendV := by
  refine BmF.mk mt_extend fun H m st o o' xs vs Q s ro rs p => ?_
  unfold extendV at p
  split at p
  · cases ro with
    | ref hn =>
      obtain ⟨v, rfl, r1⟩ := vrs1 rs
      cases r1 with
      | ref hk =>
        split at p
        · rename_i zs ys hx hy
          obtain ⟨vs, e1, r2⟩ := getL s hx hn
          obtain ⟨ws, e2, r3⟩ := getL s hy hk
          split at p
          · rename_i hz
            exact ⟨_, _, vs, ws, rfl, rfl, e1, e2, by rw [← r2.length, ← r3.length]; exact hz, p.setL s hn e1 (r2.append r3) .non⟩
          · exact p.elim
        · exact p.elim
  · exact p.elim
def popV (o : PV) (xs : List PV) (st : Store) : O PV := match o, xs with
  | .ref n, [] => match st[n]? with
    | some (.lst zs) => match zs[zs.length - 1]? with
      | some y => some (y, st.set n (.lst zs.dropLast))
      | none => none
    | _ => none
  | _, _ => none
theorem bm_pop : BmF X ca "list" "list.pop" popV := by
  refine BmF.mk mt_pop fun H m st o o' xs vs Q s ro rs p => ?_
  unfold popV at p
  split at p
  · cases ro with
    | ref hn =>
      cases rs
      split at p
      · rename_i zs hx
        obtain ⟨vs, e1, r2⟩ := getL s hx hn
        split at p
        · rename_i y hy
          obtain ⟨w, h1, h2⟩ := r2.get hy
          rw [r2.length] at h1
          refine ⟨_, vs, w, rfl, rfl, e1, h1, ?_⟩
          refine p.setL s hn e1 ?_ h2
          rw [List.dropLast_eq_take, List.dropLast_eq_take, ← r2.length]
          exact r2.take _
        · exact p.elim
      · exact p.elim
  · exact p.elim
def reverseV (o : PV) (xs : List PV) (st : Store) : O PV := match o, xs with
  | .ref n, [] => match st[n]? with
    | some (.lst zs) => some (.non, st.set n (.lst zs.reverse))
    | _ => none
  | _, _ => none
theorem bm_reverse : BmF X ca "list" "list.reverse" reverseV := by
  refine BmF.mk mt_reverse fun H m st o o' xs vs Q s ro rs p => ?_
  unfold reverseV at p
  split at p
  · cases ro with
    | ref hn =>
      cases rs
      split at p
      · rename_i zs hx
        obtain ⟨vs, e1, r2⟩ := getL s hx hn
        exact ⟨_, vs, rfl, rfl, e1, p.setL s hn e1 r2.rev .non⟩
      · exact p.elim
  · exact p.elim
def clearV (o : PV) (xs : List PV) (st : Store) : O PV := match o, xs with
  | .ref n, [] => match st[n]? with
    | some (.lst zs) => some (.non, st.set n (.lst []))
    | _ => none
  | _, _ => none
theorem bm_clear : BmF X ca "list" "list.clear" clearV := by
  refine BmF.mk mt_clear fun H m st o o' xs vs Q s ro rs p => ?_
  unfold clearV at p
  split at p
  · cases ro with
    | ref hn =>
      cases rs
      split at p
      · rename_i zs hx
        obtain ⟨vs, e1, r2⟩ := getL s hx hn
        exact ⟨_, vs, rfl, rfl, e1, p.setL s hn e1 .nil .non⟩
      · exact p.elim
  · exact p.elim
/-! ### texts -/
def joinV (o : PV) (xs : List PV) (st : Store) : O PV := match o, xs with
  | .str a, [v] => match (seqAt st v).bind strsOf with
    | some ys => if (ys.map (·.length)).sum + ys.length * a.length ≤ 16777216 then some (.str (Txt.join a ys), st) else none
    | none => none
  | _, _ => none
theorem bm_join : BmF X ca "str" "str.join" joinV := by
  refine BmF.mk mt_join fun H m st o o' xs vs Q s ro rs p => ?_
  unfold joinV at p
  split at p
  · cases ro
    obtain ⟨v, rfl, r1⟩ := vrs1 rs
    split at p
    · rename_i ys he
      obtain ⟨zs, h1, h2⟩ := Option.bind_eq_some_iff.mp he
      obtain ⟨a, vs, rfl, hq, r2⟩ := seq_ok s r1 h1
      obtain rfl := strs_ok r2 h2
      split at p
      · rename_i hz
        exact ⟨_, a, ys, rfl, rfl, hq, hz, p.val s (.str _)⟩
      · exact p.elim
    · exact p.elim
  · exact p.elim
/-- a method text × text -/
def t2V (f : Str → Str → PV) (o : PV) (xs : List PV) (st : Store) : O PV := match o, xs with
  | .str a, [.str b] => some (f a b, st)
  | _, _ => none
abbrev countSV := t2V fun a b => .int (Txt.count a b)
abbrev findSV := t2V fun a b => .int (Txt.find a b)
abbrev startsV := t2V fun a b => .bl (Txt.startswith a b)
abbrev endsV := t2V fun a b => .bl (Txt.endswith a b)
theorem bm_t2 {id : String} {f : Str → Str → PV} {f' : Str → Str → V} (hf : ∀ H m a b, VR X.K ca H m (f a b) (f' a b)) (h : MtR X id (fun x xs H Q => ∃ a b, x = .str a ∧ xs = [.str b] ∧ Q (f' a b) H)) : BmF X ca "str" id (t2V f) := by
  refine BmF.mk h fun H m st o o' xs vs Q s ro rs p => ?_
  unfold t2V at p
  split at p
  · cases ro
    obtain ⟨v, rfl, r1⟩ := vrs1 rs
    cases r1
    exact ⟨_, _, rfl, rfl, p.val s (hf _ _ _ _)⟩
  · exact p.elim
theorem bm_countS : BmF X ca "str" "str.count" countSV := bm_t2 (fun _ _ _ _ => .int _) mt_count
theorem bm_findS : BmF X ca "str" "str.find" findSV := bm_t2 (fun _ _ _ _ => .int _) mt_find
theorem bm_starts : BmF X ca "str" "str.startswith" startsV := bm_t2 (fun _ _ _ _ => .bl _) mt_startswith
theorem bm_ends : BmF X ca "str" "str.endswith" endsV := bm_t2 (fun _ _ _ _ => .bl _) mt_endswith
def starts3V (o : PV) (xs : List PV) (st : Store) : O PV := match o, xs with
  | .str a, [.str b, .int i] => some (.bl (Txt.startswith3 a b i), st)
  | _, _ => none
theorem bm_starts3 : BmF X ca "str" "str.startswith" starts3V := by
  refine BmF.mk mt_startswith3 fun H m st o o' xs vs Q s ro rs p => ?_
  unfold starts3V at p
  split at p
  · cases ro
    obtain ⟨v, w, rfl, r1, r2⟩ := vrs2 rs
    cases r1
    cases r2
    exact ⟨_, _, _, rfl, rfl, p.val s (.bl _)⟩
  · exact p.elim
end

/-! ## what is walked -/
def gdOf (v : PV) (st : Store) : List (Nat × PO) := match v with
  | .ref n => match st[n]? with
    | some o => [(n, o)]
    | none => []
  | _ => []
/-- a list or a tuple, item by item -/
def seqI (f : FE) : FI := fun e st => (f e st).bind fun v s1 => match seqAt s1 v with
  | some xs => .ok ⟨xs, gdOf v s1⟩ s1
  | none => .no
def intL (lo c : Int) (n : Nat) : List PV := (List.range n).map fun i => .int (lo + (i : Nat) * c)
open Classical in
def rng1I (f : FA) : FI := fun e st => (f e st).bind fun xs s1 => match xs with
  | [.int j] => @ite (R Wk) (-(2 ^ 62) ≤ j ∧ j < 2 ^ 62) (Classical.propDecidable _) (.ok ⟨intL 0 1 j.toNat, []⟩ s1) .no
  | _ => .no
theorem rng1I_ok {f : FA} {e : Env} {s s' : Store} {j : Int} (h : f e s = .ok [.int j] s') (h1 : -(2 ^ 62) ≤ j) (h2 : j < 2 ^ 62) : rng1I f e s = .ok ⟨intL 0 1 j.toNat, []⟩ s' := by
  unfold rng1I
  rw [h]
  exact if_pos ⟨h1, h2⟩
open Classical in
def rng2I (f : FA) : FI := fun e st => (f e st).bind fun xs s1 => match xs with
  | [.int i, .int j] => @ite (R Wk) (-(2 ^ 62) ≤ i ∧ i < 2 ^ 62 ∧ -(2 ^ 62) ≤ j ∧ j < 2 ^ 62) (Classical.propDecidable _) (.ok ⟨intL i 1 (j - i).toNat, []⟩ s1) .no
  | _ => .no
theorem rng2I_ok {f : FA} {e : Env} {s s' : Store} {i j : Int} (h : f e s = .ok [.int i, .int j] s') (h1 : -(2 ^ 62) ≤ i) (h2 : i < 2 ^ 62) (h3 : -(2 ^ 62) ≤ j) (h4 : j < 2 ^ 62) : rng2I f e s = .ok ⟨intL i 1 (j - i).toNat, []⟩ s' := by
  unfold rng2I
  rw [h]
  exact if_pos ⟨h1, h2, h3, h4⟩
open Classical in
def rng3I (f : FA) : FI := fun e st => (f e st).bind fun xs s1 => match xs with
  | [.int i, .int j, .int c] => if ∃ n, RgC i j c n then .ok ⟨intL i c (Builtin.Range.rangeSize i j c).toNat, []⟩ s1 else .no
  | _ => .no
def enumL : List PV → Nat → List PV
  | [], _ => []
  | x :: r, i => .tup [.int (i : Nat), x] :: enumL r (i + 1)
def enumI (f : FA) : FI := fun e st => (f e st).bind fun xs s1 => match xs with
  | [v] => match lstAt s1 v with
    | some ys => .ok ⟨enumL ys 0, gdOf v s1⟩ s1
    | none => .no
  | _ => .no
def zipL : List PV → List PV → List PV
  | x :: r, y :: q => .tup [x, y] :: zipL r q
  | _, _ => []
def zipI (f : FA) : FI := fun e st => (f e st).bind fun xs s1 => match xs with
  | [.tup ys, .tup zs] => .ok ⟨zipL ys zs, []⟩ s1
  | [v, w] => match lstAt s1 v, lstAt s1 w with
    | some ys, some zs => .ok ⟨zipL ys zs, gdOf v s1 ++ gdOf w s1⟩ s1
    | _, _ => .no
  | _ => .no
def revI (f : FE) : FI := fun e st => (f e st).bind fun v s1 => match seqAt s1 v with
  | some xs => .ok ⟨xs.reverse, gdOf v s1⟩ s1
  | none => .no
def strI (f : FE) : FI := fun e st => (f e st).bind fun v s1 => match v with
  | .str x => .ok ⟨x.cps.toList.map fun c => .str ⟨#[c]⟩, []⟩ s1
  | _ => .no
section
variable {X : Cx} {W : WX} {ca : Ca} {tg : Expr}
/-- a list stays while its guard holds -/
theorem lst_stay {K : PySem.W.Frag} {H H' : Hp} {m m' : List Addr} {st st' : Store} {v : PV} {a : Addr} {xs : List PV} (s : SR K ca H m st) (r : VR K ca H m v (.ref a)) (e : lstAt st v = some xs) (p : m <+: m') (k : Keep K H H') (s' : SR K ca H' m' st') (g : GdOk (gdOf v st) st') :
    ∃ vs, SqL K H' a vs ∧ VRs K ca H' m' xs vs := by
  have r' := r.mono p k
  have e' : lstAt st' v = some xs := by
    cases v with
    | frz ys => exact e
    | ref n =>
      simp only [lstAt] at e ⊢
      cases q : st[n]? with
      | none => rw [q] at e; cases e
      | some o =>
        rw [q] at e
        have := g (n, o) (by simp only [gdOf, q]; exact List.mem_singleton.mpr rfl)
        rw [this]
        exact e
    | _ => cases e
  obtain ⟨b, vs, e1, e2, e3⟩ := lst_ok s' r' e'
  cases e1
  exact ⟨vs, e2, e3⟩
theorem seq_stay {K : PySem.W.Frag} {H H' : Hp} {m m' : List Addr} {st st' : Store} {v : PV} {a : Addr} {xs : List PV} (s : SR K ca H m st) (r : VR K ca H m v (.ref a)) (e : seqAt st v = some xs) (p : m <+: m') (k : Keep K H H') (s' : SR K ca H' m' st') (g : GdOk (gdOf v st) st') :
    (∃ ys, v = .tup ys ∧ ∃ vs, SqT K H' a vs ∧ VRs K ca H' m' xs vs) ∨ (lstAt st v = some xs ∧ ∃ vs, SqL K H' a vs ∧ VRs K ca H' m' xs vs) := by
  cases v with
  | tup ys =>
    simp only [seqAt, Option.some.injEq] at e
    subst e
    cases r with
    | tup h rr => exact .inl ⟨ys, rfl, _, k.t _ _ h, rr.mono p k⟩
  | frz ys => exact .inr ⟨e, lst_stay s r e p k s' g⟩
  | ref n => exact .inr ⟨e, lst_stay s r e p k s' g⟩
  | _ => cases e
theorem itr_list {K : PySem.W.Frag} {H : Hp} {m : List Addr} {st : Store} {v : PV} {a : Addr} {xs : List PV} (s : SR K ca H m st) (r : VR K ca H m v (.ref a)) (e : lstAt st v = some xs) : ItR K ca H m ⟨xs, gdOf v st⟩ (Itl K a) := by
  intro i m' H' st' p k s' g
  obtain ⟨vs, h1, h2⟩ := lst_stay s r e p k s' g
  refine ⟨fun x hx => ?_, fun hi => ⟨vs, h1, by rw [← h2.length]; exact hi⟩⟩
  obtain ⟨w, e1, e2⟩ := h2.get hx
  refine ⟨⟨vs, w, h1, e1⟩, fun y H'' ⟨eH, hy⟩ => ?_⟩
  subst eH
  have := (hy vs h1).symm.trans e1
  cases this
  exact ⟨Keep.refl, s', e2⟩
theorem itr_tup {K : PySem.W.Frag} {H : Hp} {m : List Addr} {a : Addr} {xs : List PV} (r : VR K ca H m (.tup xs) (.ref a)) (gd : List (Nat × PO)) : ItR K ca H m ⟨xs, gd⟩ (Itt K a) := by
  intro i m' H' st' p k s' g
  cases r with
  | tup h rr =>
    rename_i vs
    have h1 := k.t _ _ h
    have h2 := rr.mono p k
    refine ⟨fun x hx => ?_, fun hi => ⟨vs, h1, by rw [← h2.length]; exact hi⟩⟩
    obtain ⟨w, e1, e2⟩ := h2.get hx
    refine ⟨⟨vs, w, h1, e1⟩, fun y H'' ⟨eH, hy⟩ => ?_⟩
    subst eH
    have := (hy vs h1).symm.trans e1
    cases this
    exact ⟨Keep.refl, s', e2⟩
theorem pi_seq {l : Expr} {tl : TE} (hl : PE X l tl) : PI X tg l (fun σ H R => tl σ H fun x H1 => ∃ a, x = .ref a ∧ (((∃ xs, SqL X.K H1 a xs) ∧ R (Itl X.K a) H1) ∨ ((∃ xs, SqT X.K H1 a xs) ∧ R (Itt X.K a) H1))) := by
  refine ⟨fun pins s σ H R I h => ?_⟩
  refine thn (hl.run pins s σ H _ I h) fun v s1 ⟨x, H1, I1, r1, q1⟩ => ?_
  obtain ⟨a, e, ⟨⟨xs, hq⟩, q⟩ | ⟨⟨xs, hq⟩, q⟩⟩ := q1
  · subst e
    cases r1
    obtain ⟨its, rv, p, hz⟩ := I1.list hq
    refine wpAny_pyIter_list p.isList ?_
    refine ⟨s1.heap.objs.size, [s1.heap.objs.size], _, _, H1, rfl, I1.kept (t' := s1.toks) fun b o e => Heap.get?_push_of_some _ e, turn_list a _, ⟨_, Heap.get?_push_size _ rfl, rfl, rfl⟩, fun b hb => ?_, q⟩
    have e : b = s1.heap.objs.size := by simpa using hb
    subst e
    exact I1.fpOk (Nat.le_refl _) (I1.hok.fresh (Nat.le_refl _))
  · subst e
    cases r1
    obtain ⟨its, rv, p, hz⟩ := I1.tuple hq
    refine wpAny_pyIter_tuple (show s1.heap.IsTuple a its.toArray from p) ?_
    refine ⟨s1.heap.objs.size, [s1.heap.objs.size], _, _, H1, rfl, I1.kept (t' := s1.toks) fun b o e => Heap.get?_push_of_some _ e, turn_tuple a _, ⟨_, Heap.get?_push_size _ rfl, rfl, rfl⟩, fun b hb => ?_, q⟩
    have e : b = s1.heap.objs.size := by simpa using hb
    subst e
    exact I1.fpOk (Nat.le_refl _) (I1.hok.fresh (Nat.le_refl _))
theorem ji_seq {l : Expr} {f : FE} (hl : JE X W ca l f) : JI X W ca tg l (seqI f) := by
  obtain ⟨t, p, r⟩ := hl.ex
  refine ⟨_, pi_seq p, fun σ H m env st Q s e h => ?_⟩
  refine r σ H m env st _ s e (Post.bind h fun x st1 m1 x' H1 p1 k1 s1 r1 h1 => ?_)
  split at h1
  · rename_i xs he
    obtain ⟨a, vs, rfl, hq, r2⟩ := seq_ok s1 r1 he
    refine ⟨a, rfl, ?_⟩
    cases x with
    | tup ys =>
      simp only [seqAt, Option.some.injEq] at he
      subst he
      cases r1 with
      | tup hh rr => exact .inr ⟨⟨_, hh⟩, h1 m1 _ H1 (List.prefix_refl _) Keep.refl s1 (itr_tup (.tup hh rr) _)⟩
    | frz ys =>
      obtain ⟨b, ws, e1, e2, e3⟩ := lst_ok s1 r1 he
      cases e1
      exact .inl ⟨⟨_, e2⟩, h1 m1 _ H1 (List.prefix_refl _) Keep.refl s1 (itr_list s1 r1 he)⟩
    | ref n =>
      obtain ⟨b, ws, e1, e2, e3⟩ := lst_ok s1 r1 he
      cases e1
      exact .inl ⟨⟨_, e2⟩, h1 m1 _ H1 (List.prefix_refl _) Keep.refl s1 (itr_list s1 r1 he)⟩
    | _ => cases he
  · exact h1.elim
theorem intL_get {lo c : Int} {n i : Nat} : (intL lo c n)[i]? = if i < n then some (.int (lo + (i : Nat) * c)) else none := by
  unfold intL
  rw [List.getElem?_map]
  by_cases h : i < n
  · rw [List.getElem?_range h, if_pos h]; rfl
  · rw [if_neg h, List.getElem?_eq_none (by simpa using h)]; rfl
theorem intL_len {lo c : Int} {n : Nat} : (intL lo c n).length = n := by unfold intL; rw [List.length_map, List.length_range]
theorem itr_rng {K : PySem.W.Frag} {H : Hp} {m : List Addr} {lo : Int} {n : Nat} : ItR K ca H m ⟨intL lo 1 n, []⟩ (Itr lo n) := by
  intro i m' H' st' p k s' g
  refine ⟨fun x hx => ?_, fun hi => by rw [intL_len] at hi; exact hi⟩
  rw [intL_get] at hx
  split at hx
  · rename_i hi
    cases hx
    refine ⟨hi, fun y H'' ⟨eH, hy⟩ => ?_⟩
    subst eH hy
    rw [Int.mul_one]
    exact ⟨Keep.refl, s', .int _⟩
  · cases hx
theorem itr_rngc {K : PySem.W.Frag} {H : Hp} {m : List Addr} {lo c : Int} {n : Nat} : ItR K ca H m ⟨intL lo c n, []⟩ (Itc lo c n) := by
  intro i m' H' st' p k s' g
  refine ⟨fun x hx => ?_, fun hi => by rw [intL_len] at hi; exact hi⟩
  rw [intL_get] at hx
  split at hx
  · rename_i hi
    cases hx
    refine ⟨hi, fun y H'' ⟨eH, hy⟩ => ?_⟩
    subst eH hy
    exact ⟨Keep.refl, s', .int _⟩
  · cases hx
theorem vrs3 {K : PySem.W.Frag} {H : Hp} {m : List Addr} {x y z : PV} {vs : List V} (r : VRs K ca H m [x, y, z] vs) : ∃ v w u, vs = [v, w, u] ∧ VR K ca H m x v ∧ VR K ca H m y w ∧ VR K ca H m z u := by
  cases r with
  | cons h r => cases r with
    | cons h2 r => cases r with
      | cons h3 r => cases r; exact ⟨_, _, _, rfl, h, h2, h3⟩
theorem ji_rng1 {a : Expr} {fa : FA} {p pos : Pos} (hm : X.mg "range" = none) (ha : JA X W ca [a] fa) (hg : Gl X "range" := by rfl) (hs : starEach [a] X.env = [(false, eval a X.env)] := by rfl) : JI X W ca tg (.Call (.Name "range" p) [a] [] pos) (rng1I fa) := by
  obtain ⟨t, pa, r⟩ := ha.ex
  refine ⟨_, pi_range1 hg hm pa hs, fun σ H m env st Q s e h => ?_⟩
  refine r σ H m env st _ s e (Post.bind h fun x st1 m1 x' H1 p1 k1 s1 r1 h1 => ?_)
  split at h1
  · obtain ⟨v, rfl, q⟩ := vrs1 r1
    cases q
    split at h1
    · rename_i hz
      exact ⟨_, rfl, hz.1, hz.2, h1 m1 _ H1 (List.prefix_refl _) Keep.refl s1 itr_rng⟩
    · exact h1.elim
  · exact h1.elim
theorem ji_rng2 {a b : Expr} {fa : FA} {p pos : Pos} (hm : X.mg "range" = none) (ha : JA X W ca [a, b] fa) (hg : Gl X "range" := by rfl) (hs : starEach [a, b] X.env = [(false, eval a X.env), (false, eval b X.env)] := by rfl) (hs2 : starEach [b] X.env = [(false, eval b X.env)] := by rfl) : JI X W ca tg (.Call (.Name "range" p) [a, b] [] pos) (rng2I fa) := by
  obtain ⟨t, pa, r⟩ := ha.ex
  refine ⟨_, pi_range2 hg hm pa hs hs2, fun σ H m env st Q s e h => ?_⟩
  refine r σ H m env st _ s e (Post.bind h fun x st1 m1 x' H1 p1 k1 s1 r1 h1 => ?_)
  split at h1
  · obtain ⟨v, w, rfl, q, q2⟩ := vrs2 r1
    cases q
    cases q2
    split at h1
    · rename_i hz
      exact ⟨_, _, rfl, hz, h1 m1 _ H1 (List.prefix_refl _) Keep.refl s1 itr_rng⟩
    · exact h1.elim
  · exact h1.elim
theorem ji_rng3 {a b c : Expr} {fa : FA} {p pos : Pos} (hm : X.mg "range" = none) (ha : JA X W ca [a, b, c] fa) (hg : Gl X "range" := by rfl) (hs : starEach [a, b, c] X.env = (false, eval a X.env) :: starEach [b, c] X.env := by rfl) (hpl : (backTo pos (starEach [b, c] X.env)).any (·.1) = false := by rfl) : JI X W ca tg (.Call (.Name "range" p) [a, b, c] [] pos) (rng3I fa) := by
  obtain ⟨t, pa, r⟩ := ha.ex
  refine ⟨_, pi_range3 hg hm pa hs hpl, fun σ H m env st Q s e h => ?_⟩
  refine r σ H m env st _ s e (Post.bind h fun x st1 m1 x' H1 p1 k1 s1 r1 h1 => ?_)
  split at h1
  · obtain ⟨v, w, u, rfl, q, q2, q3⟩ := vrs3 r1
    cases q
    cases q2
    cases q3
    split at h1
    · rename_i hz
      obtain ⟨n, hn⟩ := hz
      have e1 := hn.2.2.2
      rw [e1, Int.toNat_natCast] at h1
      exact ⟨_, _, _, n, rfl, hn, h1 m1 _ H1 (List.prefix_refl _) Keep.refl s1 itr_rngc⟩
    · exact h1.elim
  · exact h1.elim
theorem enumL_get : ∀ {xs : List PV} {k i : Nat}, (enumL xs k)[i]? = (xs[i]?).map fun x => .tup [.int ((k + i : Nat) : Int), x]
  | [], _, _ => by simp [enumL]
  | x :: r, k, 0 => by simp [enumL]
  | x :: r, k, i + 1 => by
    rw [enumL, List.getElem?_cons_succ, List.getElem?_cons_succ, enumL_get (xs := r)]
    rw [show k + 1 + i = k + (i + 1) by omega]
theorem enumL_len : ∀ {xs : List PV} {k : Nat}, (enumL xs k).length = xs.length
  | [], _ => rfl
  | x :: r, k => by rw [enumL, List.length_cons, List.length_cons, enumL_len]
theorem itr_enum {K : PySem.W.Frag} {H : Hp} {m : List Addr} {st : Store} {v : PV} {a : Addr} {xs : List PV} (s : SR K ca H m st) (r : VR K ca H m v (.ref a)) (e : lstAt st v = some xs) : ItR K ca H m ⟨enumL xs 0, gdOf v st⟩ (Ite K a) := by
  intro i m' H' st' p k s' g
  obtain ⟨vs, h1, h2⟩ := lst_stay s r e p k s' g
  refine ⟨fun x hx => ?_, fun hi => ⟨vs, h1, by rw [← h2.length]; rw [enumL_len] at hi; exact hi⟩⟩
  rw [enumL_get] at hx
  obtain ⟨z, hz, rfl⟩ := Option.map_eq_some_iff.mp hx
  obtain ⟨w, e1, e2⟩ := h2.get hz
  refine ⟨⟨vs, w, h1, e1⟩, fun y H'' ⟨T, u, eT, hT, eH, hy⟩ => ?_⟩
  subst eT eH
  have := (hy vs h1).symm.trans e1
  cases this
  obtain ⟨q1, q2, q3⟩ := upd_t s' hT (xs := [.int (i : Nat), z]) (vs := [.int (i : Nat), w]) (.cons (.int _) (.cons e2 .nil))
  rw [Nat.zero_add]
  exact ⟨q1, q2, q3⟩
theorem ji_enum {a : Expr} {fa : FA} {p pos tpos : Pos} {elts : List Expr} {kk : Nat} (hm : X.mg "enumerate" = none) (ha : JA X W ca [a] fa) (hg : Gl X "enumerate" := by rfl) (hs : starEach [a] X.env = [(false, eval a X.env)] := by rfl) : JI X W ca (.Tuple elts kk tpos) (.Call (.Name "enumerate" p) [a] [] pos) (enumI fa) := by
  obtain ⟨t, pa, r⟩ := ha.ex
  refine ⟨_, pi_enum hg hm pa hs, fun σ H m env st Q s e h => ?_⟩
  refine r σ H m env st _ s e (Post.bind h fun x st1 m1 x' H1 p1 k1 s1 r1 h1 => ?_)
  split at h1
  · obtain ⟨v, rfl, q⟩ := vrs1 r1
    split at h1
    · rename_i ys he
      obtain ⟨a, vs, rfl, hq, r2⟩ := lst_ok s1 q he
      exact ⟨a, vs, rfl, hq, h1 m1 _ H1 (List.prefix_refl _) Keep.refl s1 (itr_enum s1 q he)⟩
    · exact h1.elim
  · exact h1.elim
theorem zipL_get : ∀ {xs ys : List PV} {i : Nat} {z : PV}, (zipL xs ys)[i]? = some z → ∃ x y, xs[i]? = some x ∧ ys[i]? = some y ∧ z = .tup [x, y]
  | [], ys, _, _, h => by simp [zipL] at h
  | _ :: _, [], _, _, h => by simp [zipL] at h
  | x :: r, y :: q, 0, z, h => by simp [zipL] at h; exact ⟨x, y, rfl, rfl, h.symm⟩
  | x :: r, y :: q, i + 1, z, h => by
    rw [zipL, List.getElem?_cons_succ] at h
    obtain ⟨a, b, h1, h2, h3⟩ := zipL_get h
    exact ⟨a, b, by simpa using h1, by simpa using h2, h3⟩
theorem zipL_len : ∀ {xs ys : List PV}, (zipL xs ys).length = min xs.length ys.length
  | [], ys => by simp [zipL]
  | _ :: _, [] => by simp [zipL]
  | x :: r, y :: q => by rw [zipL, List.length_cons, List.length_cons, List.length_cons, zipL_len]; omega
theorem ji_zip {a b : Expr} {fa : FA} {p pos tpos : Pos} {elts : List Expr} {kk : Nat} (hm : X.mg "zip" = none) (ha : JA X W ca [a, b] fa) (hg : Gl X "zip" := by rfl)
    (hz : ∀ {ta : TA}, PA X [a, b] ta → PI X (.Tuple elts kk tpos) (.Call (.Name "zip" p) [a, b] [] pos) (RZ.iZipA X.K ta)) : JI X W ca (.Tuple elts kk tpos) (.Call (.Name "zip" p) [a, b] [] pos) (zipI fa) := by
  obtain ⟨t, pa, r⟩ := ha.ex
  refine ⟨_, hz pa, fun σ H m env st Q s e h => ?_⟩
  refine r σ H m env st _ s e (Post.bind h fun x st1 m1 x' H1 p1 k1 s1 r1 h1 => ?_)
  split at h1
  · obtain ⟨v, w, rfl, q1, q2⟩ := vrs2 r1
    cases q1 with
    | tup hs1 rr1 => cases q2 with
      | tup hs2 rr2 =>
        refine ⟨_, _, _, _, rfl, .inr ⟨hs1, hs2, h1 m1 _ H1 (List.prefix_refl _) Keep.refl s1 fun i m' H' st' p k s' g => ?_⟩⟩
        have g1 := k.t _ _ hs1
        have g2 := k.t _ _ hs2
        have t1 := rr1.mono p k
        have t2 := rr2.mono p k
        refine ⟨fun z hz => ?_, fun hi => ⟨_, _, g1, g2, ?_⟩⟩
        · obtain ⟨x, y, e1, e2, rfl⟩ := zipL_get hz
          obtain ⟨x', a1, a2⟩ := t1.get e1
          obtain ⟨y', b1, b2⟩ := t2.get e2
          refine ⟨⟨_, _, x', y', g1, g2, a1, b1⟩, fun z H'' ⟨T, u, u', eT, hT, eH, hy1, hy2⟩ => ?_⟩
          subst eT eH
          have i1 := (hy1 _ g1).symm.trans a1
          have i2 := (hy2 _ g2).symm.trans b1
          cases i1
          cases i2
          exact upd_t s' hT (.cons a2 (.cons b2 .nil))
        · simp only [zipL_len] at hi
          rw [← t1.length, ← t2.length]
          omega
  · obtain ⟨v, w, rfl, q1, q2⟩ := vrs2 r1
    split at h1
    · rename_i _ _ ys zs he1 he2
      obtain ⟨a1, vs1, rfl, hq1, rr1⟩ := lst_ok s1 q1 he1
      obtain ⟨a2, vs2, rfl, hq2, rr2⟩ := lst_ok s1 q2 he2
      refine ⟨_, _, _, _, rfl, .inl ⟨hq1, hq2, h1 m1 _ H1 (List.prefix_refl _) Keep.refl s1 fun i m' H' st' p k s' g => ?_⟩⟩
      obtain ⟨ws1, g1, t1⟩ := lst_stay s1 q1 he1 p k s' fun z hz => g z (List.mem_append_left _ hz)
      obtain ⟨ws2, g2, t2⟩ := lst_stay s1 q2 he2 p k s' fun z hz => g z (List.mem_append_right _ hz)
      refine ⟨fun z hz => ?_, fun hi => ⟨_, _, g1, g2, ?_⟩⟩
      · obtain ⟨x, y, e1, e2, rfl⟩ := zipL_get hz
        obtain ⟨x', a1, a2⟩ := t1.get e1
        obtain ⟨y', b1, b2⟩ := t2.get e2
        refine ⟨⟨_, _, x', y', g1, g2, a1, b1⟩, fun z H'' ⟨T, u, u', eT, hT, eH, hy1, hy2⟩ => ?_⟩
        subst eT eH
        have i1 := (hy1 _ g1).symm.trans a1
        have i2 := (hy2 _ g2).symm.trans b1
        cases i1
        cases i2
        exact upd_t s' hT (.cons a2 (.cons b2 .nil))
      · simp only [zipL_len] at hi
        rw [← t1.length, ← t2.length]
        omega
    · exact h1.elim
  · exact h1.elim
theorem rev_get {α : Type} {xs : List α} {i : Nat} {x : α} (h : xs.reverse[i]? = some x) : i < xs.length ∧ xs[xs.length - 1 - i]? = some x := by
  have hi : i < xs.length := by
    have := (List.getElem?_eq_some_iff.mp h).1
    rwa [List.length_reverse] at this
  rw [List.getElem?_reverse hi] at h
  exact ⟨hi, h⟩
theorem ji_rev {l : Expr} {f : FE} {p pos : Pos} (hm : X.mg "reversed" = none) (hl : JE X W ca l f) (hg : Gl X "reversed" := by rfl) (hs : starEach [l] X.env = (false, eval l X.env) :: starEach [] X.env := by rfl) : JI X W ca tg (.Call (.Name "reversed" p) [l] [] pos) (revI f) := by
  obtain ⟨t, pl, r⟩ := hl.ex
  refine ⟨_, RT.pi_revA hg hm pl hs, fun σ H m env st Q s e h => ?_⟩
  refine r σ H m env st _ s e (Post.bind h fun x st1 m1 x' H1 p1 k1 s1 r1 h1 => ?_)
  split at h1
  · rename_i xs he
    have lstc : ∀ {v : PV}, VR X.K ca H1 m1 v x' → lstAt st1 v = some xs → Post X.K ca (ItR X.K ca) (EW W ca σ) m1 H1 Q (.ok ⟨xs.reverse, gdOf v st1⟩ st1) → ∃ (a : Addr) (ws : List V), x' = .ref a ∧ ((SqL X.K H1 a ws ∧ Q (Itv X.K a ws.length) H1) ∨ (SqT X.K H1 a ws ∧ Q (RT.ItvT X.K a ws.length) H1)) := by
      intro v r1 he h1
      obtain ⟨a, vs, rfl, hq, r2⟩ := lst_ok s1 r1 he
      refine ⟨a, vs, rfl, .inl ⟨hq, h1 m1 _ H1 (List.prefix_refl _) Keep.refl s1 fun i m' H' st' p k s' g => ?_⟩⟩
      obtain ⟨ws, g1, t1⟩ := lst_stay s1 r1 he p k s' g
      refine ⟨fun z hz => ?_, fun hi => by rw [List.length_reverse] at hi; rw [← r2.length]; exact hi⟩
      obtain ⟨h3, h4⟩ := rev_get hz
      rw [r2.length] at h4
      obtain ⟨w, e1, e2⟩ := t1.get h4
      refine ⟨⟨by rw [← r2.length]; exact h3, ws, w, g1, e1⟩, fun y H'' ⟨eH, hy⟩ => ?_⟩
      subst eH
      have := (hy ws g1).symm.trans e1
      cases this
      exact ⟨Keep.refl, s', e2⟩
    cases x with
    | tup ys =>
      simp only [seqAt, Option.some.injEq] at he
      subst he
      cases r1 with
      | tup hh rr =>
        rename_i a vs
        refine ⟨a, vs, rfl, .inr ⟨hh, h1 m1 _ H1 (List.prefix_refl _) Keep.refl s1 fun i m' H' st' p k s' g => ?_⟩⟩
        have g1 := k.t _ _ hh
        have t1 := rr.mono p k
        refine ⟨fun z hz => ?_, fun hi => by rw [List.length_reverse] at hi; rw [← rr.length]; exact hi⟩
        obtain ⟨h3, h4⟩ := rev_get hz
        rw [rr.length] at h4
        obtain ⟨w, e1, e2⟩ := t1.get h4
        refine ⟨⟨by rw [← rr.length]; exact h3, vs, w, g1, e1⟩, fun y H'' ⟨eH, hy⟩ => ?_⟩
        subst eH
        have := (hy vs g1).symm.trans e1
        cases this
        exact ⟨Keep.refl, s', e2⟩
    | frz ys => exact lstc r1 he h1
    | ref n => exact lstc r1 he h1
    | _ => cases he
  · exact h1.elim
theorem ji_str {l : Expr} {f : FE} (hl : JE X W ca l f) : JI X W ca tg l (strI f) := by
  obtain ⟨t, p, r⟩ := hl.ex
  refine ⟨_, pi_str p, fun σ H m env st Q s e h => ?_⟩
  refine r σ H m env st _ s e (Post.bind h fun x st1 m1 x' H1 p1 k1 s1 r1 h1 => ?_)
  split at h1
  · cases r1
    rename_i x
    refine ⟨x, rfl, h1 m1 _ H1 (List.prefix_refl _) Keep.refl s1 fun i m' H' st' p k s' g => ?_⟩
    refine ⟨fun z hz => ?_, fun hi => (by simpa using hi : x.cps.size ≤ i)⟩
    rw [List.getElem?_map] at hz
    obtain ⟨c, hc, rfl⟩ := Option.map_eq_some_iff.mp hz
    have hc' : x.cps[i]? = some c := by simpa using hc
    refine ⟨(Array.getElem?_eq_some_iff.mp hc').1, fun y H'' ⟨eH, c', h1, h2⟩ => ?_⟩
    subst eH h2
    rw [hc'] at h1
    cases h1
    exact ⟨Keep.refl, s', .str _⟩
  · exact h1.elim
end
end
end FL
end
section
set_option linter.all false
set_option maxRecDepth 100000
namespace FL
open PySem PySem.Spec PyProof.Rows L2
noncomputable section
section
variable {X : Cx} {W : WX} {ca : Ca}
theorem je_globE {x : Str} {v : PV} {pos : Pos} (h : ∃ u w, X.mg x = some u ∧ RelV w u ∧ ∀ ca H m, VR X.K ca H m v w) (hg : Gl X x) (hd : (x == ("__debug__" : Str)) = false := by decide) : JE X W ca (.Name x pos) (cstF v) := by
  obtain ⟨u, w, h1, h2, h3⟩ := h
  exact je_glob hg h1 h2 (h3 ca) hd
theorem je_globC {x : Str} {n : String} {a : Addr} {pos : Pos} (hm : X.mg x = some (.ref a)) (hc : ca n = a) (hg : Gl X x) (hd : (x == ("__debug__" : Str)) = false := by decide) : JE X W ca (.Name x pos) (cstF (.cls n)) :=
  je_glob (w := .ref a) hg hm rfl (fun H m => by rw [← hc]; exact .cls n) hd
theorem jt_ch {op op' : CmpOp} {a b c : Expr} {pos : Pos} {fa fb fc : FE} {g g' : PV → PV → Store → O PV} (ho : OpF X ca (compareOp op) g) (ho' : OpF X ca (compareOp op') g') (ha : JE X W ca a fa) (hb : JE X W ca b fb) (hc : JE X W ca c fc)
    (hm : lastMarks [op, op'] [b, c] = false := by with_unfolding_all rfl) : JT X W ca (.Compare a [op, op'] [b, c] pos) (isB (chF g g' fa fb fc)) := by
  obtain ⟨ta, pa, ra⟩ := ha.ex
  obtain ⟨tb, pb, rb⟩ := hb.ex
  obtain ⟨tc, pc, rc⟩ := hc.ex
  obtain ⟨r, po, ro⟩ := ho
  obtain ⟨r', po', ro'⟩ := ho'
  refine ⟨_, pt_chain po po' pa pb pc hm, fun σ H m env st Q s e h => ?_⟩
  show tChain r r' ta tb tc σ H (fun x H' => ∃ k, x = .bl k ∧ Q k H')
  have h' : Post X.K ca rB (EW W ca σ) m H Q ((fa env st).bind fun x s1 => (fb env s1).bind fun y s2 => (R.of (g x y s2)).bind fun z s3 => (asB z s3).bind fun k s4 =>
      (if k = true then (fc env s4).bind fun u s5 => R.of (g' y u s5) else .ok (.bl false) s4).bind asB) := by
    unfold isB chF at h
    cases q : fa env st with
    | ok x s1 =>
      rw [q] at h
      simp only [R.bind] at h ⊢
      cases q2 : fb env s1 with
      | ok y s2 =>
        rw [q2] at h
        simp only at h ⊢
        cases q3 : R.of (g x y s2) with
        | ok z s3 =>
          rw [q3] at h
          simp only at h ⊢
          cases q4 : asB z s3 <;> rw [q4] at h <;> exact h
        | er z s3 => rw [q3] at h; exact h
        | no => rw [q3] at h; exact h
      | er y s2 => rw [q2] at h; exact h
      | no => rw [q2] at h; exact h
    | er x s1 => rw [q] at h; exact h
    | no => rw [q] at h; exact h
  refine ra σ H m env st _ s e (Post.bind h' fun x st1 m1 x' H1 p1 k1 s1 r1 h1 => ?_)
  refine rb σ H1 m1 env st1 _ s1 (e.mono p1 k1) (Post.bind h1 fun y st2 m2 y' H2 p2 k2 s2 r2 h2 => ?_)
  refine ro H2 m2 st2 x y x' y' _ s2 (r1.mono p2 k2) r2 (Post.of (Post.bind h2 fun z st3 m3 z' H3 p3 k3 s3 r3 h3 => ?_))
  have h4 := Post.bind (rel := rB) (Q1 := fun k H4 => H4 = H3 → if k = true then tc σ H4 (fun u H5 => r' y' u H5 (fun x H' => ∃ k, x = .bl k ∧ Q k H')) else ∃ k, V.bl false = .bl k ∧ Q k H4) h3 fun k st4 m4 k' H4 p4 k4 s4 r4 h4 e4 => by
    subst e4
    have rk : k = k' := r4
    subst rk
    cases k with
    | true =>
      rw [if_pos rfl] at h4 ⊢
      have h5 : Post X.K ca rB (EW W ca σ) m4 H4 Q ((fc env st4).bind fun u s5 => (R.of (g' y u s5)).bind asB) := by
        cases q : fc env st4 <;> rw [q] at h4 <;> exact h4
      refine rc σ H4 m4 env st4 _ s4 (e.mono (((p1.trans p2).trans p3).trans p4) (((k1.trans k2).trans k3).trans k4)) (Post.bind h5 fun u st5 m5 u' H5 p5 k5 s5 r5 h5 => ?_)
      refine ro' H5 m5 st5 y u y' u' _ s5 (r2.mono ((p3.trans p4).trans p5) ((k3.trans k4).trans k5)) r5 (Post.of (Post.bind h5 fun z st6 m6 z' H6 p6 k6 s6 r6 h6 => ?_))
      exact asB_post h6 s6 r6
    | false =>
      rw [if_neg Bool.false_ne_true] at h4 ⊢
      exact ⟨false, rfl, h4.ok s4 rfl⟩
  obtain ⟨k, ek, q⟩ := asB_post h4 s3 r3
  subst ek
  exact ⟨k, rfl, q rfl⟩
/-! ## stores into a list -/
def setLV (o i v : PV) (st : Store) : Option Store := match o, i with
  | .ref n, .int k => match st[n]? with
    | some (.lst xs) => (ixN xs.length k).map fun j => st.set n (.lst (xs.set j v))
    | _ => none
  | _, _ => none
theorem sf_list : SetF X ca setLV := by
  refine ⟨_, set_list, fun H m st o i v o' i' v' st' Q s ro ri rv e q => ?_⟩
  unfold setLV at e
  split at e
  · cases ri
    cases ro with
    | ref hn =>
      split at e
      · rename_i xs hx
        obtain ⟨vs, e1, r2⟩ := getL s hx hn
        obtain ⟨j, hj, rfl⟩ := Option.map_eq_some_iff.mp e
        have kk := Keep.upd (K := X.K) (o := .lst (vs.set j v')) e1 (fun _ z => nomatch z) (fun _ _ z => nomatch z)
        refine ⟨_, vs, _, j, rfl, rfl, e1, by rw [← r2.length]; exact hj, q _ kk (s.set hn e1 (fun _ z => nomatch z) (fun _ _ z => nomatch z) ⟨_, upd_same, (r2.set rv j).mono (List.prefix_refl _) kk⟩)⟩
      · cases e
  · cases e
end
/-! ## the end -/
section
variable {P : Program} {w : World} {K : PySem.W.Frag} {mg : Str → Option Value} {base : Heap} {ca : Ca}
theorem Cal.mono {j k : Nat} {f : Addr} {fd : FuncData} {ps : List Str} {F : Fn} (C : Cal P w K mg base ca j f fd ps F) (h : j ≤ k) : Cal P w K mg base ca k f fd ps F := ⟨C.ok.mono h, C.kp⟩
/-- what the law promises -/
def spTop (K : PySem.W.Frag) : Sp := fun vs H Q _ => ∃ (a : Addr) (ns : List Int), vs = [.ref a] ∧ ns.length ≤ 63 ∧ Only H ∧ SqL K H a (ns.map V.int) ∧ ∀ H', Q (.bl true) H'
theorem top_ok {k : Nat} {f : Addr} {fd : FuncData} {x : Str} {F : Fn} (C : Cal P w K mg base ca k f fd [x] F) (h : ∀ ns : List Int, ns.length ≤ 63 → ∃ st, F [.frz (ns.map PV.int)] [] = .ok (.bl true) st) : FnOk P w K mg base (L2.CX P w) k f fd [x] (spTop K) := by
  refine C.ok.imp fun vs H Q E hh => ?_
  obtain ⟨a, ns, rfl, hl, hO, hS, q⟩ := hh
  obtain ⟨st, e⟩ := h ns hl
  refine ⟨[], [], [.frz (ns.map PV.int)], ⟨rfl, List.nodup_nil, fun n a o z => by cases z⟩, .cons (.frz ?_ (VRs.ints ns)) .nil, rfl, ?_⟩
  · rcases hS with (hS | hS) | hS
    · rcases hO a with z | ⟨o, xs, z⟩
      · rw [z] at hS; cases hS
      · rw [z] at hS; cases hS
    · exact .inl hS
    · exact .inr hS
  · rw [e]
    intro m' b H' _ _ _ r
    cases r
    exact q H'
theorem top_cx (P : Program) (w : World) (H : Hp) (s : Shared) (e : Value) (s' : Shared) (h : L2.CX P w [] H s (fun _ _ _ => False) e s') : False := by
  obtain ⟨_, _, _, _, _, _, _, _, _, _, _, _, z⟩ := h
  exact z.elim
theorem hu65 {A : Around} {k : Nat} (hr : Room k A) : A.units + 65 < cLine := by have := hr.un; omega
theorem hu64 {A : Around} {k : Nat} (hr : Room k A) : A.units + 64 < cLine := by have := hr.un; omega
end
end
end FL
end
section
set_option linter.all false
set_option maxRecDepth 100000
namespace FL
open PySem PySem.Spec PyProof.Rows L2
noncomputable section
/-! ## reasoning about what defs do -/
theorem bind_ok {α β : Type} (a : α) (s : Store) (g : α → Store → R β) : (R.ok a s).bind g = g a s := rfl
theorem toS_ok {α : Type} (a : α) (s : Store) (e : Env) (g : α → Store → RS) : (R.ok a s).toS e g = g a s := rfl
theorem of_some {α : Type} (a : α) (s : Store) : R.of (some (a, s)) = .ok a s := rfl
theorem seqS_nx {f g : FS} {e e1 : Env} {s s1 : Store} (h : f e s = .nx e1 s1) : seqS f g e s = g e1 s1 := by unfold seqS; rw [h]
theorem seqS_rt {f g : FS} {e : Env} {s s1 : Store} {v : PV} (h : f e s = .rt v s1) : seqS f g e s = .rt v s1 := by unfold seqS; rw [h]
theorem seqS_er {f g : FS} {e e1 : Env} {s s1 : Store} {x : Ex} (h : f e s = .er x e1 s1) : seqS f g e s = .er x e1 s1 := by unfold seqS; rw [h]
theorem ifS_t {c : FT} {f g : FS} {e : Env} {s s1 : Store} (h : c e s = .ok true s1) : ifS c f g e s = f e s1 := by unfold ifS; rw [h]; rfl
theorem ifS_f {c : FT} {f g : FS} {e : Env} {s s1 : Store} (h : c e s = .ok false s1) : ifS c f g e s = g e s1 := by unfold ifS; rw [h]; rfl
/-- what was made and is not handed out is forgotten -/
theorem pre_app (st g : Store) : preOk st (st ++ g) := fun k hk => .inl (List.getElem?_append_left hk)
theorem gc_app {v : PV} {st g : Store} (h : refsOk st.length v = true) : gc st v (st ++ g) = .ok v st := by
  unfold gc
  rw [if_pos ⟨by simp, pre_app st g⟩, if_pos h, List.take_left' rfl]
theorem gc_same {v : PV} {st : Store} (h : refsOk st.length v = true) : gc st v st = .ok v st := by
  have := gc_app (g := []) h
  rwa [List.append_nil] at this
/-- a new list of things without references -/
theorem gc_new {st g : Store} {r : Nat} {o : PO} (h : (st ++ g)[r]? = some o) (hr : st.length ≤ r) (ho : objOk st.length o = true) : gc st (.ref r) (st ++ g) = .ok (.ref st.length) (st ++ [o]) := by
  unfold gc
  have n : ¬ refsOk st.length (.ref r) = true := by simp [refsOk]; omega
  rw [if_pos ⟨by simp, pre_app st g⟩, if_neg n]
  simp only [h]
  rw [if_pos ⟨ho, hr⟩, List.take_left' rfl]
theorem gcx_app {x : Ex} {st g : Store} (h : x.val = none) : gcx st x (st ++ g) = .er x st := by
  unfold gcx
  rw [if_pos ⟨by simp, pre_app st g, fun p hp => by rw [h] at hp; cases hp⟩, List.take_left' rfl]
mutual
/-- things without any reference -/
def pureP : PV → Bool
  | .ref _ => false
  | .tup xs => puresP xs
  | .frz xs => puresP xs
  | _ => true
def puresP : List PV → Bool
  | [] => true
  | x :: xs => pureP x && puresP xs
end
mutual
theorem pure_refs (n : Nat) : ∀ {v : PV}, pureP v = true → refsOk n v = true
  | .non, _ => rfl
  | .bl _, _ => rfl
  | .int _, _ => rfl
  | .str _, _ => rfl
  | .ty _, _ => rfl
  | .cls _, _ => rfl
  | .exc _, _ => rfl
  | .ref _, h => by cases h
  | .tup xs, h => by simp only [refsOk]; exact pures_refs n (by simpa only [pureP] using h)
  | .frz xs, h => by simp only [refsOk]; exact pures_refs n (by simpa only [pureP] using h)
theorem pures_refs (n : Nat) : ∀ {xs : List PV}, puresP xs = true → refsOks n xs = true
  | [], _ => rfl
  | x :: xs, h => by
    simp only [puresP, Bool.and_eq_true] at h
    simp only [refsOks, Bool.and_eq_true]
    exact ⟨pure_refs n h.1, pures_refs n h.2⟩
end
theorem pures_iff {xs : List PV} : puresP xs = true ↔ ∀ x ∈ xs, pureP x = true := by
  induction xs with
  | nil => simp [puresP]
  | cons x xs ih => simp [puresP, ih]
theorem run_rt {n : Nat} {body : FS} {args : List PV} {st g : Store} {v : PV} (h : body (args.map some ++ List.replicate (n - args.length) none) st = .rt v (st ++ g)) (p : pureP v = true) : runFn n body args st = .ok v st := by
  unfold runFn
  rw [h]
  exact gc_app (pure_refs _ p)
theorem run_rt0 {n : Nat} {body : FS} {args : List PV} {st : Store} {v : PV} (h : body (args.map some ++ List.replicate (n - args.length) none) st = .rt v st) (p : pureP v = true) : runFn n body args st = .ok v st := by
  unfold runFn
  rw [h]
  exact gc_same (pure_refs _ p)
theorem run_new {n : Nat} {body : FS} {args : List PV} {st g : Store} {r : Nat} {o : PO} (h : body (args.map some ++ List.replicate (n - args.length) none) st = .rt (.ref r) (st ++ g)) (hr : (st ++ g)[r]? = some o) (hl : st.length ≤ r) (ho : objOk st.length o = true) :
    runFn n body args st = .ok (.ref st.length) (st ++ [o]) := by
  unfold runFn
  rw [h]
  exact gc_new hr hl ho
/-! ### places of the store -/
theorem getS {st g : Store} {i : Nat} : (st ++ g)[st.length + i]? = g[i]? := by rw [List.getElem?_append_right (by omega)]; congr 1; omega
theorem getS0 {st g : Store} : (st ++ g)[st.length]? = g[0]? := getS (i := 0)
theorem setS_app {st g : Store} {i : Nat} {o : PO} : (st ++ g).set (st.length + i) o = st ++ g.set i o := by
  rw [List.set_append_right _ _ (by omega)]
  congr 2
  omega
theorem setS0_app {st g : Store} {o : PO} : (st ++ g).set st.length o = st ++ g.set 0 o := setS_app (i := 0)
theorem lenS {st g : Store} : (st ++ g).length = st.length + g.length := List.length_append
theorem appS {st g k : Store} : (st ++ g) ++ k = st ++ (g ++ k) := List.append_assoc ..
theorem appS0 {st k : Store} : st ++ k = st ++ k := rfl
theorem getOld {st g : Store} {i : Nat} {o : PO} (h : st[i]? = some o) : (st ++ g)[i]? = some o := by
  rw [List.getElem?_append_left (List.getElem?_eq_some_iff.mp h).1]
  exact h
/-! ### walks -/
theorem gd_nil (st : Store) : GdOk [] st := fun p hp => by cases hp
theorem forL_wp {gd : List (Nat × PO)} {g : FG} {b : FS} (Q : RS → Prop) (P : Nat → Env → Store → Prop) : ∀ {xs : List PV} {k : Nat} {e : Env} {st : Store} (h0 : P k e st)
    (hs : ∀ i x e st, xs[i]? = some x → P (k + i) e st → GdOk gd st ∧ ∃ e1, g x e = some e1 ∧ (match b e1 st with
      | .nx e2 s2 => P (k + i + 1) e2 s2
      | .ct e2 s2 => P (k + i + 1) e2 s2
      | .bk e2 s2 => Q (.nx e2 s2)
      | r => Q r))
    (hd : ∀ e st, P (k + xs.length) e st → GdOk gd st ∧ Q (.nx e st)), Q (forL gd g b xs e st)
  | [], k, e, st, h0, hs, hd => by
    obtain ⟨h1, h2⟩ := hd e st h0
    unfold forL
    rw [if_pos h1]
    exact h2
  | x :: r, k, e, st, h0, hs, hd => by
    obtain ⟨h1, e1, h2, h3⟩ := hs 0 x e st rfl h0
    unfold forL
    rw [if_pos h1, h2]
    have next : ∀ {e2 : Env} {s2 : Store}, P (k + 0 + 1) e2 s2 → Q (forL gd g b r e2 s2) := fun {e2 s2} p =>
      forL_wp Q P (k := k + 1) p (fun i y e st hy q => by
        have := hs (i + 1) y e st (by simpa using hy) (by rw [show k + (i + 1) = k + 1 + i by omega]; exact q)
        rwa [show k + (i + 1) + 1 = k + 1 + i + 1 by omega] at this) (fun e st q => hd e st (by rw [List.length_cons, show k + (r.length + 1) = k + 1 + r.length by omega]; exact q))
    simp only
    cases q : b e1 st with
    | nx e2 s2 => rw [q] at h3; exact next h3
    | ct e2 s2 => rw [q] at h3; exact next h3
    | bk e2 s2 => rw [q] at h3; exact h3
    | rt v s2 => rw [q] at h3; exact h3
    | er x e2 s2 => rw [q] at h3; exact h3
    | no => rw [q] at h3; exact h3
/-- a loop that runs to its end -/
theorem forL_inv {gd : List (Nat × PO)} {g : FG} {b : FS} (P : Nat → Env → Store → Prop) {xs : List PV} {e : Env} {st : Store} (h0 : P 0 e st)
    (hs : ∀ i x e st, xs[i]? = some x → P i e st → GdOk gd st ∧ ∃ e1, g x e = some e1 ∧ ∃ e2 s2, b e1 st = .nx e2 s2 ∧ P (i + 1) e2 s2)
    (hd : ∀ e st, P xs.length e st → GdOk gd st) : ∃ e' st', forL gd g b xs e st = .nx e' st' ∧ P xs.length e' st' := by
  refine forL_wp (fun r => ∃ e' st', r = .nx e' st' ∧ P xs.length e' st') P (k := 0) h0 (fun i x e st hx p => ?_) (fun e st p => ?_)
  · rw [Nat.zero_add] at p ⊢
    obtain ⟨h1, e1, h2, e2, s2, h3, h4⟩ := hs i x e st hx p
    refine ⟨h1, e1, h2, ?_⟩
    rw [h3]
    exact h4
  · rw [Nat.zero_add] at p
    exact ⟨hd e st p, e, st, rfl, p⟩
/-- the same, by a row of states -/
theorem forL_row {gd : List (Nat × PO)} {g : FG} {b : FS} (E : Nat → Env) (S : Nat → Store) : ∀ {xs : List PV} {k : Nat},
    (∀ i x, xs[i]? = some x → GdOk gd (S (k + i)) ∧ ∃ e1, g x (E (k + i)) = some e1 ∧ b e1 (S (k + i)) = .nx (E (k + i + 1)) (S (k + i + 1))) → GdOk gd (S (k + xs.length)) →
    forL gd g b xs (E k) (S k) = .nx (E (k + xs.length)) (S (k + xs.length))
  | [], k, _, hd => by
    unfold forL
    rw [if_pos (show GdOk gd (S k) from hd)]
    rfl
  | x :: r, k, hs, hd => by
    obtain ⟨h1, e1, h2, h3⟩ := hs 0 x rfl
    unfold forL
    rw [if_pos (show GdOk gd (S k) from h1), show g x (E k) = some e1 from h2]
    simp only
    rw [show b e1 (S k) = _ from h3]
    simp only
    have := forL_row (xs := r) (k := k + 1) E S (fun i y hy => by
      have := hs (i + 1) y (by simpa using hy)
      rwa [show k + (i + 1) = k + 1 + i by omega] at this) (by rw [show k + 1 + r.length = k + (r.length + 1) by omega]; exact hd)
    rw [List.length_cons, show k + (r.length + 1) = k + 1 + r.length by omega]
    exact this
/-! ### comprehensions -/
theorem lcL_map {α : Type} {gd : List (Nat × PO)} {g : FG} {ft : FT} {fe : FE} {e0 : Env} {s1 : Store} (f : α → PV) (p : α → Bool) (φ : α → PV) (hg : ∀ acc, GdOk gd (s1 ++ [.lst acc])) : ∀ {xs : List α} {acc : List PV},
    (∀ x ∈ xs, ∃ e1, g (f x) e0 = some e1 ∧ ∀ acc, ft e1 (s1 ++ [.lst acc]) = .ok (p x) (s1 ++ [.lst acc]) ∧ (p x = true → fe e1 (s1 ++ [.lst acc]) = .ok (φ x) (s1 ++ [.lst acc]))) → acc.length + xs.length ≤ sizeLine →
    lcL gd g ft fe s1.length e0 (xs.map f) (s1 ++ [.lst acc]) = some (.ref s1.length, s1 ++ [.lst (acc ++ (xs.filter p).map φ)])
  | [], acc, _, _ => by
    rw [List.map_nil]
    unfold lcL
    rw [if_pos (hg acc)]
    simp
  | x :: r, acc, hx, hl => by
    obtain ⟨e1, h1, h2⟩ := hx x List.mem_cons_self
    obtain ⟨h3, h4⟩ := h2 acc
    rw [List.map_cons]
    unfold lcL
    rw [if_pos (hg acc), h1]
    simp only
    rw [h3]
    rw [List.length_cons] at hl
    cases hp : p x with
    | false =>
      simp only
      rw [lcL_map f p φ hg (fun y hy => hx y (List.mem_cons_of_mem _ hy)) (by omega), List.filter_cons, hp]
      rfl
    | true =>
      simp only
      rw [h4 hp]
      simp only
      rw [getS0]
      simp only [List.getElem?_cons_zero]
      rw [if_pos (by omega), setS0_app]
      simp only [List.set_cons_zero]
      rw [lcL_map f p φ hg (fun y hy => hx y (List.mem_cons_of_mem _ hy)) (by rw [List.length_append, List.length_singleton]; omega), List.filter_cons, hp]
      simp [List.append_assoc]
theorem lcF_filter {α : Type} {fi : FI} {own : List Nat} {g : FG} {ft : FT} {fe : FE} {e : Env} {st s1 : Store} {gd : List (Nat × PO)} (as : List α) (f : α → PV) (p : α → Bool) (φ : α → PV) (hi : fi e st = .ok ⟨as.map f, gd⟩ s1) (hg : ∀ acc, GdOk gd (s1 ++ [.lst acc])) (hl : as.length ≤ sizeLine)
    (hx : ∀ x ∈ as, ∃ e1, g (f x) (wipeE e own) = some e1 ∧ ∀ acc, ft e1 (s1 ++ [.lst acc]) = .ok (p x) (s1 ++ [.lst acc]) ∧ (p x = true → fe e1 (s1 ++ [.lst acc]) = .ok (φ x) (s1 ++ [.lst acc]))) :
    lcF fi own g ft fe e st = .ok (.ref s1.length) (s1 ++ [.lst ((as.filter p).map φ)]) := by
  unfold lcF
  rw [hi, bind_ok, lcL_map f p φ hg hx (by rw [List.length_nil]; omega)]
  rfl
theorem lcF_map {α : Type} {fi : FI} {own : List Nat} {g : FG} {fe : FE} {e : Env} {st s1 : Store} {gd : List (Nat × PO)} (as : List α) (f : α → PV) (φ : α → PV) (hi : fi e st = .ok ⟨as.map f, gd⟩ s1) (hg : ∀ acc, GdOk gd (s1 ++ [.lst acc])) (hl : as.length ≤ sizeLine)
    (hx : ∀ x ∈ as, ∃ e1, g (f x) (wipeE e own) = some e1 ∧ ∀ acc, fe e1 (s1 ++ [.lst acc]) = .ok (φ x) (s1 ++ [.lst acc])) :
    lcF fi own g yesT fe e st = .ok (.ref s1.length) (s1 ++ [.lst (as.map φ)]) := by
  rw [lcF_filter as f (fun _ => true) φ hi hg hl fun x h => by
    obtain ⟨e1, h1, h2⟩ := hx x h
    exact ⟨e1, h1, fun acc => ⟨rfl, fun _ => h2 acc⟩⟩]
  rw [List.filter_eq_self.mpr fun _ _ => rfl]
/-! ### while -/
theorem whL_wp {c : FT} {b : FS} (Q : RS → Prop) (P : Env → Store → Prop) (μ : Env → Store → Nat) : ∀ (n : Nat) {e : Env} {st : Store} (h0 : P e st) (hn : μ e st < n)
    (hs : ∀ e st, P e st → ∃ k s1, c e st = .ok k s1 ∧ if k = true then (match b e s1 with
      | .nx e2 s2 => P e2 s2 ∧ μ e2 s2 < μ e st
      | .ct e2 s2 => P e2 s2 ∧ μ e2 s2 < μ e st
      | .bk e2 s2 => Q (.nx e2 s2)
      | r => Q r) else Q (.nx e s1)), Q (whL c b n e st)
  | 0, e, st, h0, hn, hs => absurd hn (Nat.not_lt_zero _)
  | n + 1, e, st, h0, hn, hs => by
    obtain ⟨k, s1, h1, h2⟩ := hs e st h0
    unfold whL
    rw [h1, toS_ok]
    cases k with
    | false => rw [if_neg Bool.false_ne_true] at h2 ⊢; exact h2
    | true =>
      rw [if_pos rfl] at h2 ⊢
      cases q : b e s1 with
      | nx e2 s2 => rw [q] at h2; exact whL_wp Q P μ n h2.1 (by have := h2.2; omega) hs
      | ct e2 s2 => rw [q] at h2; exact whL_wp Q P μ n h2.1 (by have := h2.2; omega) hs
      | bk e2 s2 => rw [q] at h2; exact h2
      | rt v s2 => rw [q] at h2; exact h2
      | er x e2 s2 => rw [q] at h2; exact h2
      | no => rw [q] at h2; exact h2
theorem whS_wp {c : FT} {b : FS} (Q : RS → Prop) (P : Env → Store → Prop) (μ : Env → Store → Nat) {e : Env} {st : Store} (h0 : P e st) (hn : μ e st < 1000000)
    (hs : ∀ e st, P e st → ∃ k s1, c e st = .ok k s1 ∧ if k = true then (match b e s1 with
      | .nx e2 s2 => P e2 s2 ∧ μ e2 s2 < μ e st
      | .ct e2 s2 => P e2 s2 ∧ μ e2 s2 < μ e st
      | .bk e2 s2 => Q (.nx e2 s2)
      | r => Q r) else Q (.nx e s1)) : Q (whS c b e st) := by
  unfold whS
  exact whL_wp Q P μ FUEL h0 (by rw [FUEL_eq]; exact hn) hs
/-! ### sizes -/
theorem log2_lt {n k : Nat} (h : n < 2 ^ (k + 1)) : n.log2 ≤ k := by
  by_cases h0 : n = 0
  · subst h0; simp
  · have := (Nat.log2_lt h0).mpr h
    omega
theorem mulOk_of {i j : Int} (hi : i.natAbs < 2 ^ 250) (hj : j.natAbs < 2 ^ 250) : mulOk i j = true := by
  have h1 := log2_lt (k := 249) hi
  have h2 := log2_lt (k := 249) hj
  exact decide_eq_true (by omega)
theorem sl (n : Nat) (h : n ≤ 16777216) : n ≤ sizeLine := by rw [sizeLine_eq]; exact h
end
end FL
end
section
set_option linter.all false
set_option maxRecDepth 100000
namespace FL
open PySem PySem.Spec PyProof.Rows L2
noncomputable section
/-! ## texts as lists of signs -/
def S (l : List Nat) : Str := ⟨l.toArray⟩
theorem S_cps (l : List Nat) : (S l).cps.toList = l := by simp [S]
theorem S_len (l : List Nat) : (S l).length = l.length := by simp [S, Str.length]
theorem S_of (x : Str) : x = S x.cps.toList := by cases x; simp [S]
theorem S_app (a b : List Nat) : S a ++ S b = S (a ++ b) := by
  show (⟨_⟩ : Str) = _
  simp [S]
theorem S_inj {a b : List Nat} : S a = S b ↔ a = b := ⟨fun h => by have := congrArg (fun x : Str => x.cps.toList) h; simpa [S] using this, fun h => by rw [h]⟩
theorem S_one (c : Nat) : (⟨#[c]⟩ : Str) = S [c] := rfl
theorem S_cut (l : List Nat) (lo hi : Option Int) : cutS (S l) lo hi = S ((l.drop (HT.sIx l.length 0 lo)).take (HT.sIx l.length l.length hi - HT.sIx l.length 0 lo)) := by
  unfold cutS
  rw [S_cps, S_len]
  rfl
theorem sIx_some {n d : Nat} {i : Int} (h : 0 ≤ i) : HT.sIx n d (some i) = min i.toNat n := by
  show (if i < 0 then (i + (n : Int)).toNat else min i.toNat n) = _
  rw [if_neg (by omega)]
theorem foldl_app (x : List Nat) : ∀ (n : Nat) (acc : Array Nat), (List.replicate n x.toArray).foldl (· ++ ·) acc = acc ++ (List.replicate n x).flatten.toArray
  | 0, acc => by simp
  | n + 1, acc => by
    rw [List.replicate_succ, List.foldl_cons, foldl_app x n, List.replicate_succ, List.flatten_cons, Array.append_assoc]
    simp
theorem S_mul (l : List Nat) (n : Int) (h : 0 ≤ n) : Txt.mul (S l) n = S (List.replicate n.toNat l).flatten := by
  unfold Txt.mul
  by_cases h1 : n < 1
  · rw [if_pos h1]
    have : n.toNat = 0 := by omega
    rw [this]
    rfl
  · rw [if_neg h1]
    by_cases h2 : (n == 1 || (S l).length == 0) = true
    · rw [if_pos h2]
      rcases Bool.or_eq_true_iff.mp h2 with h3 | h3
      · have : n = 1 := by simpa using h3
        subst this
        simp
      · have h4 : l = [] := by
          have : (S l).length = 0 := by simpa using h3
          rw [S_len] at this
          exact List.length_eq_zero_iff.mp this
        subst h4
        simp
    · rw [if_neg h2]
      show (⟨_⟩ : Str) = _
      have := foldl_app l n.toNat #[]
      unfold S
      rw [this]
      simp
/-- an item of a list by its place -/
theorem atI_nat' {α : Type} {xs : List α} {i : Int} {x : α} (h0 : 0 ≤ i) (h : xs[i.toNat]? = some x) : atI xs i = some x := by
  have hi : i.toNat < xs.length := (List.getElem?_eq_some_iff.mp h).1
  unfold atI ixN
  rw [if_pos h0, if_pos (by omega)]
  exact h
theorem atI_lt {α : Type} {xs : List α} {i : Int} (h0 : 0 ≤ i) (h : i < xs.length) : atI xs i = some (xs[i.toNat]'(by omega)) := atI_nat' h0 (List.getElem?_eq_getElem (by omega))
theorem atI_getD {α : Type} {xs : List α} {i : Int} {d : α} (h0 : 0 ≤ i) (h : i < xs.length) : atI xs i = some (xs.getD i.toNat d) := by
  rw [atI_lt h0 h]
  simp [List.getD_eq_getElem?_getD, List.getElem?_eq_getElem (show i.toNat < xs.length by omega)]
theorem at0 {α : Type} {a : α} {r : List α} : atI (a :: r) 0 = some a := atI_nat' (by decide) rfl
theorem at1 {α : Type} {a b : α} {r : List α} : atI (a :: b :: r) 1 = some b := atI_nat' (by decide) rfl
theorem at2 {α : Type} {a b c : α} {r : List α} : atI (a :: b :: c :: r) 2 = some c := atI_nat' (by decide) rfl
theorem at3 {α : Type} {a b c d : α} {r : List α} : atI (a :: b :: c :: d :: r) 3 = some d := atI_nat' (by decide) rfl
theorem at4 {α : Type} {a b c d e : α} {r : List α} : atI (a :: b :: c :: d :: e :: r) 4 = some e := atI_nat' (by decide) rfl
theorem at5 {α : Type} {a b c d e f : α} {r : List α} : atI (a :: b :: c :: d :: e :: f :: r) 5 = some f := atI_nat' (by decide) rfl
theorem letters_eq : ("abcdefghijklmnopqrstuvwxyz" : Str) = S ((List.range 26).map (· + 97)) := by decide +kernel
theorem letters_at {i : Int} (h0 : 0 ≤ i) (h : i < 26) : atI ((List.range 26).map (· + 97)) i = some (97 + i.toNat) := by
  apply atI_nat' h0
  rw [List.getElem?_map, List.getElem?_range (by omega)]
  simp [Nat.add_comm]
/-- tags -/
theorem t1 : decide (("num" : Str) = "of") = false := by decide +kernel
theorem t2 : decide (("name" : Str) = "of") = false := by decide +kernel
theorem t3 : decide (("any" : Str) = "of") = false := by decide +kernel
theorem t4 : decide (("of" : Str) = "of") = true := by decide +kernel
theorem t5 : decide (("num" : Str) = "name") = false := by decide +kernel
theorem t6 : decide (("num" : Str) = "any") = false := by decide +kernel
theorem t7 : decide (("num" : Str) = "num") = true := by decide +kernel
theorem t8 : decide (("name" : Str) = "num") = false := by decide +kernel
theorem t9 : decide (("name" : Str) = "any") = false := by decide +kernel
theorem t10 : decide (("name" : Str) = "name") = true := by decide +kernel
theorem t11 : decide (("any" : Str) = "num") = false := by decide +kernel
theorem t12 : decide (("any" : Str) = "name") = false := by decide +kernel
theorem t13 : decide (("any" : Str) = "any") = true := by decide +kernel
theorem t14 : decide (("of" : Str) = "num") = false := by decide +kernel
theorem t15 : decide (("of" : Str) = "name") = false := by decide +kernel
theorem t16 : decide (("of" : Str) = "any") = false := by decide +kernel
/-- isinstance -/
theorem kb1 : kitB "int" "int" = some true := by decide +kernel
theorem kb2 : kitB "int" "bool" = some false := by decide +kernel
theorem kb3 : kitB "bool" "int" = some true := by decide +kernel
theorem kb4 : kitB "str" "str" = some true := by decide +kernel
theorem kb5 : kitB "list" "list" = some true := by decide +kernel
theorem kb6 : kitB "tuple" "tuple" = some true := by decide +kernel
theorem kb7 : kitB "str" "int" = some false := by decide +kernel
theorem kb8 : kitB "tuple" "int" = some false := by decide +kernel
theorem kb9 : kitB "dict" "dict" = some true := by decide +kernel
theorem kb10 : kitB "bool" "bool" = some true := by decide +kernel
theorem kb11 : kitB "NoneType" "int" = some false := by decide +kernel
/-- ints and texts of a list -/
theorem intsOf_map (ns : List Int) : intsOf (ns.map PV.int) = some ns := by
  induction ns with
  | nil => rfl
  | cons n r ih => simp [intsOf, ih]
theorem strsOf_map (ns : List Str) : strsOf (ns.map PV.str) = some ns := by
  induction ns with
  | nil => rfl
  | cons n r ih => simp [strsOf, ih]
theorem blsOf_map (ns : List Bool) : blsOf (ns.map PV.bl) = some ns := by
  induction ns with
  | nil => rfl
  | cons n r ih => simp [blsOf, ih]
end
end FL
end
section
set_option linter.all false
set_option maxRecDepth 100000
namespace FL
open PySem PySem.Spec PyProof.Rows L2
noncomputable section
/-! ## bits -/
def andV (x y : PV) (st : Store) : O PV := match x, y with
  | .int i, .int j => some (.int (Builtin.bitAnd i j), st)
  | _, _ => none
def borV (x y : PV) (st : Store) : O PV := match x, y with
  | .int i, .int j => some (.int (Builtin.bitOr i j), st)
  | _, _ => none
open Classical in
def shlV (x y : PV) (st : Store) : O PV := match x, y with
  | .int i, .int j => if CShl i j then some (.int (i * 2 ^ j.toNat), st) else none
  | _, _ => none
def shrV (x y : PV) (st : Store) : O PV := match x, y with
  | .int i, .int j => if 0 ≤ j then some (.int (i / 2 ^ j.toNat), st) else none
  | _, _ => none
section
variable {X : Cx} {W : WX} {ca : Ca}
theorem of_and : OpF X ca (binaryOp .BitAnd) andV := by
  refine ⟨_, op_and, fun H m st x y x' y' Q s rx ry p => ?_⟩
  cases rx with
  | int i => cases ry with
    | int j => exact ⟨i, j, rfl, rfl, p.val s (.int _)⟩
    | _ => exact p.elim
  | _ => exact p.elim
theorem of_bor : OpF X ca (binaryOp .BitOr) borV := by
  refine ⟨_, op_or, fun H m st x y x' y' Q s rx ry p => ?_⟩
  cases rx with
  | int i => cases ry with
    | int j => exact ⟨i, j, rfl, rfl, p.val s (.int _)⟩
    | _ => exact p.elim
  | _ => exact p.elim
theorem of_shl : OpF X ca (binaryOp .LShift) shlV := by
  refine ⟨_, op_shlW, fun H m st x y x' y' Q s rx ry p => ?_⟩
  cases rx with
  | int i => cases ry with
    | int j =>
      simp only [shlV] at p
      split at p
      · rename_i h
        exact ⟨i, j, rfl, rfl, h, p.val s (.int _)⟩
      · exact p.elim
    | _ => exact p.elim
  | _ => exact p.elim
theorem of_shr : OpF X ca (binaryOp .RShift) shrV := by
  refine ⟨_, op_shrN, fun H m st x y x' y' Q s rx ry p => ?_⟩
  cases rx with
  | int i => cases ry with
    | int j =>
      simp only [shrV] at p
      split at p
      · rename_i h
        obtain ⟨k, rfl⟩ := Int.eq_ofNat_of_zero_le h
        exact ⟨i, k, rfl, rfl, p.val s (.int _)⟩
      · exact p.elim
    | _ => exact p.elim
  | _ => exact p.elim
theorem mulOk_b {i j : Int} {a : Nat} (hi : Builtin.Int.intBits i ≤ 1048576) (hj : j.natAbs < 2 ^ a) (ha : a < 1000000) : mulOk i j = true := by
  refine decide_eq_true ?_
  have h1 : i.natAbs.log2 ≤ 1048576 := by
    unfold Builtin.Int.intBits at hi
    split at hi
    · rename_i h
      have : i = 0 := by simpa using h
      subst this
      simp
    · omega
  have h2 : j.natAbs.log2 ≤ a := by
    by_cases h0 : j.natAbs = 0
    · rw [h0]; simp
    · have := (Nat.log2_lt h0).mpr hj
      omega
  omega
/-! ## the law's own call, where the cells' bits are few -/
def spTopB (K : PySem.W.Frag) : Sp := fun vs H Q _ => ∃ (a : Addr) (ns : List Int), vs = [.ref a] ∧ ns.length ≤ 63 ∧ (∀ z ∈ ns, Builtin.Int.intBits z ≤ 1048576) ∧ Only H ∧ SqL K H a (ns.map V.int) ∧ ∀ H', Q (.bl true) H'
theorem top_okB {P : Program} {w : World} {K : PySem.W.Frag} {mg : Str → Option Value} {base : Heap} {ca : Ca} {k : Nat} {f : Addr} {fd : FuncData} {x : Str} {F : Fn} (C : Cal P w K mg base ca k f fd [x] F) (h : ∀ ns : List Int, ns.length ≤ 63 → (∀ z ∈ ns, Builtin.Int.intBits z ≤ 1048576) → ∃ st, F [.frz (ns.map PV.int)] [] = .ok (.bl true) st) : FnOk P w K mg base (L2.CX P w) k f fd [x] (spTopB K) := by
  refine C.ok.imp fun vs H Q E hh => ?_
  obtain ⟨a, ns, rfl, hl, hz, hO, hS, q⟩ := hh
  obtain ⟨st, e⟩ := h ns hl hz
  refine ⟨[], [], [.frz (ns.map PV.int)], ⟨rfl, List.nodup_nil, fun n a o z => by cases z⟩, .cons (.frz ?_ (VRs.ints ns)) .nil, rfl, ?_⟩
  · rcases hS with (hS | hS) | hS
    · rcases hO a with z | ⟨o, xs, z⟩
      · rw [z] at hS; cases hS
      · rw [z] at hS; cases hS
    · exact .inl hS
    · exact .inr hS
  · rw [e]
    intro m' b H' _ _ _ r
    cases r
    exact q H'
/-! ## list(range(..)) -/
open Classical in
def lrgF (fa : FE) : FE := fun e st => (fa e st).bind fun x s1 => match x with
  | .int n => @ite (R PV) (0 ≤ n ∧ n ≤ 16777216) (Classical.propDecidable _) (.ok (.ref s1.length) (s1 ++ [.lst (intL 0 1 n.toNat)])) .no
  | _ => .no
theorem vrs_intL {K : PySem.W.Frag} {H : Hp} {m : List Addr} (n : Nat) : VRs K ca H m (intL 0 1 n) (rgV 0 (n : Int)) := by
  have e : ∀ l : List Nat, VRs K ca H m (l.map fun i : Nat => PV.int (0 + (i : Nat) * 1)) (l.map fun i : Nat => V.int (0 + (i : Nat))) := fun l => by
    induction l with
    | nil => exact .nil
    | cons a r ih =>
      refine .cons ?_ ih
      show VR K ca H m (.int (0 + (a : Int) * 1)) (.int (0 + (a : Int)))
      rw [Int.mul_one]
      exact .int _
  unfold intL rgV
  rw [show ((n : Int) - 0).toNat = n by omega]
  exact e _
theorem je_listRg {a : Expr} {p p2 pos pos2 : Pos} {fa : FE} (hl : X.mg "list" = none) (hm : X.mg "range" = none) (ha : JE X W ca a fa) (hc : X.calm = true := by rfl) (hg : Gl X "list" := by rfl) (hg2 : Gl X "range" := by rfl)
    (na : starEach [a] X.env = (false, eval a X.env) :: starEach [] X.env := by rfl) (na2 : starEach [.Call (.Name "range" p2) [a] [] pos2] X.env = (false, eval (.Call (.Name "range" p2) [a] [] pos2) X.env) :: starEach [] X.env := by rfl) :
    JE X W ca (.Call (.Name "list" p) [.Call (.Name "range" p2) [a] [] pos2] [] pos) (lrgF fa) := by
  obtain ⟨t, pa, r⟩ := ha.ex
  refine ⟨_, pe_listRg hc hg hl (prg_1 hg2 hm pa na) na2, fun σ H m env st Q s e h => ?_⟩
  refine r σ H m env st _ s e (Post.bind h fun x st1 m1 x' H1 p1 k1 s1 r1 h1 => ?_)
  cases r1 with
  | int n =>
    simp only at h1
    split at h1
    · rename_i hn
      refine ⟨n, rfl, RgOk.of_le (Int.le_refl 0) (by omega) (by omega) hn.1, fun q hq => ?_⟩
      obtain ⟨k, rfl⟩ := Int.eq_ofNat_of_zero_le hn.1
      obtain ⟨pD, kD, sD, rD⟩ := upd_l (ca := ca) s1 hq (vrs_intL (K := X.K) (ca := ca) (H := H1) (m := m1) k)
      exact h1 _ _ _ pD kD sD rD
    · exact h1.elim
  | _ => exact h1.elim
/-! ## instances -/
theorem KR.look {K : PySem.W.Frag} {H : Hp} {m : List Addr} {f : Str} : ∀ {fs : List (Str × PV)} {gs : List (Str × V)}, KR K ca H m fs gs → (fs.lookup f = none → gs.lookup f = none) ∧ ∀ v, fs.lookup f = some v → ∃ w, gs.lookup f = some w ∧ VR K ca H m v w
  | _, _, .nil => ⟨fun _ => rfl, fun v h => by cases h⟩
  | (k, x) :: r, (k', y) :: q, .cons h t => by
    obtain ⟨e, rv⟩ := h
    simp only at e rv
    subst e
    have ih := KR.look (f := f) t
    simp only [List.lookup]
    cases c : f == k with
    | true => exact ⟨fun z => (by cases z), fun v z => ⟨y, rfl, by cases z; exact rv⟩⟩
    | false => exact ih
def putP (f : Str) (v : PV) : List (Str × PV) → List (Str × PV)
  | [] => [(f, v)]
  | (g, x) :: r => if g = f then (g, v) :: r else (g, x) :: putP f v r
theorem KR.put {K : PySem.W.Frag} {H : Hp} {m : List Addr} {f : Str} {v : PV} {w : V} (rv : VR K ca H m v w) : ∀ {fs : List (Str × PV)} {gs : List (Str × V)}, KR K ca H m fs gs → KR K ca H m (putP f v fs) (putF f w gs)
  | _, _, .nil => .cons ⟨rfl, rv⟩ .nil
  | (k, x) :: r, (k', y) :: q, .cons h t => by
    obtain ⟨e, rx⟩ := h
    simp only at e rx
    subst e
    unfold putP putF
    by_cases c : k = f
    · rw [if_pos c, if_pos c]
      exact .cons ⟨rfl, rv⟩ t
    · rw [if_neg c, if_neg c]
      exact .cons ⟨rfl, rx⟩ (KR.put rv t)
theorem KR.len {K : PySem.W.Frag} {H : Hp} {m : List Addr} {fs : List (Str × PV)} {gs : List (Str × V)} (h : KR K ca H m fs gs) : fs.length = gs.length := Paired.length h
/-- o.f = v -/
def sfldS (c : String) (f : Str) (fv fo : FE) : FS := fun e st => (fv e st).toS e fun v s1 => (fo e s1).toS e fun o s2 => match o with
  | .ref n => (match s2[n]? with
    | some (.ins c' fs) => if c' = c ∧ fs.length < 1000 then .nx e (s2.set n (.ins c' (putP f v fs))) else .no
    | _ => .no)
  | _ => .no
theorem js_fld {o value : Expr} {f : Str} {c : String} {pos pos' : Pos} {fo fv : FE} (hc : Cls X.K (ca c)) (hn : NoAttr X.K (ca c) f) (hv : JE X W ca value fv) (ho : JE X W ca o fo) (hs : swapsWith value (some (.Attribute o f pos')) pos.line X.env = pure false) :
    JS X W ca (.Assign [.Attribute o f pos'] value pos) (sfldS c f fv fo) := by
  obtain ⟨tv, pv, rv⟩ := hv.ex
  obtain ⟨to', po', ro⟩ := ho.ex
  refine ⟨_, ps_fld po' pv hs, fun σ H m env st D s e h => ?_⟩
  refine rv σ H m env st _ s e (Post.toS h e fun v st1 m1 v' H1 p1 k1 s1 r1 h1 => ?_)
  refine ro σ H1 m1 env st1 _ s1 (e.mono p1 k1) (Post.toS h1 (e.mono p1 k1) fun x st2 m2 x' H2 p2 k2 s2 r2 h2 => ?_)
  cases r2 with
  | ref hn' =>
    rename_i n a
    simp only at h2
    split at h2
    · rename_i c' fs hx
      split at h2
      · rename_i hcc
        obtain ⟨rfl, hl⟩ := hcc
        obtain ⟨dx, gs, ea, rg⟩ := s2.at hx hn'
        have hk := Keep.upd (K := X.K) (o := .ins (ca c') dx (putF f v' gs)) ea (fun _ z => nomatch z) (fun _ _ z => nomatch z)
        refine ⟨a, _, dx, gs, rfl, ea, hc, hn, by rw [← rg.len]; exact hl, ?_⟩
        refine h2 m2 σ _ (List.prefix_refl _) hk (s2.set hn' ea (fun _ z => nomatch z) (fun _ _ z => nomatch z) ⟨dx, _, upd_same, KR.put ((r1.mono p2 k2).mono (List.prefix_refl _) hk) (rg.mono (List.prefix_refl _) hk)⟩) ((e.mono p1 k1).mono p2 (k2.trans hk))
      · exact h2.elim
    · exact h2.elim
  | _ => exact h2.elim
/-- o.m(..) -/
def methF (c : String) (m : Str) (n : Nat) (F : Fn) (ds : List PV) (fo : FE) (fa : FA) : FE := fun e st => (fo e st).bind fun o s1 => match o with
  | .ref i => (match s1[i]? with
    | some (.ins c' fs) => if c' = c ∧ fs.lookup m = none then (fa e s1).bind fun xs s2 => if (o :: (xs ++ ds)).length = n then F (o :: (xs ++ ds)) s2 else .no else .no
    | _ => .no)
  | _ => .no
def tMethSD (C : Addr) (m : Str) (sp : Sp) (dvs : List V) (E : L2.St → XK) (ta : TE) (t : TA) : TE := fun σ H Q => ta σ H fun x H1 => ∃ a dx fs, x = .ref a ∧ H1 a = some (.ins C dx fs) ∧ fs.lookup m = none ∧ t σ H1 fun vs H2 => sp (x :: (vs ++ dvs)) H2 Q (E σ)
section
variable {CX : CXT} {k : Nat} {f C : Addr} {fd : FuncData} {ps : List Str} {sp : Sp} {dvs : List V} {ds : List Value} {E : L2.St → XK} {m : Str} {p pos apos : Pos} {e o : Expr} {es : List Expr} {ta : TE} {t : TA}
theorem pe_methSD {pl : Sem Bool} (he : PE X o ta) (c : Cls X.K C) (hm : Meth X.K C m f) (F : FnOk X.prog X.w X.K X.mg X.base CX k f fd ps sp) (hr : Room k X.A) (hb : Binds X.K fd ps ds) (hd : Vals dvs ds) (hx : ∀ σ, PassesAt CX X σ (E σ)) (ha : PA X (e :: es) t)
    (hst : starEach (e :: es) X.env = (false, eval e X.env) :: starEach es X.env) (hpl : (backTo pos (starEach es X.env)).any (·.1) = false)
    (ht : eval (.Call (.Attribute o m apos) (e :: es) [] pos) X.env = (do
      let ov ← eval o X.env
      standAt apos.atName
      let (f, first) ← holding [ov] (getMethod ov m pl)
      callWith pos f first (backTo pos (starEach (e :: es) X.env)) (backToKw pos (keywordEach [] X.env)))) :
    PE X (.Call (.Attribute o m apos) (e :: es) [] pos) (tMethSD C m sp dvs E ta t) := by
  refine ⟨fun pins s σ H Q I h => ?_⟩
  refine PySem.W.methodCall_KW (pl := pl) (thn (he.run pins s σ H _ I h) fun u s1 ⟨x, H1, I1, rx, a, dx, fs, ex, ea, l, q⟩ => ?_) ht
  subst ex
  obtain rfl : u = Value.ref a := rx
  refine getmeth_ok I1 ea c hm l ?_
  refine PySem.W.callWith_K (first := [.ref a]) (h₀ := X.base) I.ok.mod.kin hm.kp (thn (ha.run pos pins s1 σ H1 _ I1 q) fun us s2 ⟨vs, H2, I2, r, q2⟩ => ⟨I2.kIn, ?_⟩) hst hpl
  exact run_fnSD (us := .ref a :: us) (vs := .ref a :: vs) F hr hb hd (hx σ) I2 (.cons rfl r) q2
theorem pe_methSD0 {pl : Sem Bool} (he : PE X o ta) (c : Cls X.K C) (hm : Meth X.K C m f) (F : FnOk X.prog X.w X.K X.mg X.base CX k f fd ps sp) (hr : Room k X.A) (hb : Binds X.K fd ps ds) (hd : Vals dvs ds) (hx : ∀ σ, PassesAt CX X σ (E σ))
    (ht : eval (.Call (.Attribute o m apos) [] [] pos) X.env = (do
      let ov ← eval o X.env
      standAt apos.atName
      let (f, first) ← holding [ov] (getMethod ov m pl)
      callWith pos f first (backTo pos (starEach [] X.env)) (backToKw pos (keywordEach [] X.env)))) :
    PE X (.Call (.Attribute o m apos) [] [] pos) (tMethSD C m sp dvs E ta tNil) := by
  refine ⟨fun pins s σ H Q I h => ?_⟩
  refine PySem.W.methodCall_KW (pl := pl) (thn (he.run pins s σ H _ I h) fun u s1 ⟨x, H1, I1, rx, a, dx, fs, ex, ea, l, q⟩ => ?_) ht
  subst ex
  obtain rfl : u = Value.ref a := rx
  refine getmeth_ok I1 ea c hm l ?_
  exact PySem.W.callWith_K0 (first := [.ref a]) I1.kIn hm.kp (run_fnSD (us := [.ref a]) (vs := [.ref a]) F hr hb hd (hx σ) I1 (.cons rfl .nil) q)
end
theorem je_meth {k n : Nat} {f : Addr} {fd : FuncData} {ps : List Str} {F : Fn} {ds : List PV} {c : String} {m : Str} {pos apos : Pos} {o e : Expr} {es : List Expr} {fo : FE} {fa : FA} {pl : Sem Bool} (tk : Takes X W) (hc : Cls X.K (ca c)) (hm : Meth X.K (ca c) m f) (C : Cal X.prog X.w X.K X.mg X.base ca k f fd ps F) (b : Bnd X.K ca fd ps ds) (hr : Room k X.A)
    (ho : JE X W ca o fo) (ha : JA X W ca (e :: es) fa) (hn : ps.length = n := by rfl)
    (hst : starEach (e :: es) X.env = (false, eval e X.env) :: starEach es X.env := by rfl) (hpl : (backTo pos (starEach es X.env)).any (·.1) = false := by rfl)
    (ht : eval (.Call (.Attribute o m apos) (e :: es) [] pos) X.env = (do
      let ov ← eval o X.env
      standAt apos.atName
      let (f, first) ← holding [ov] (getMethod ov m pl)
      callWith pos f first (backTo pos (starEach (e :: es) X.env)) (backToKw pos (keywordEach [] X.env))) := by rfl) :
    JE X W ca (.Call (.Attribute o m apos) (e :: es) [] pos) (methF c m n F ds fo fa) := by
  subst hn
  obtain ⟨to', po', ro⟩ := ho.ex
  obtain ⟨t, pa, r⟩ := ha.ex
  obtain ⟨us, vs, hb, hd, rd⟩ := b.ex
  refine ⟨_, pe_methSD (E := WE W) (pl := pl) po' hc hm C.ok hr hb hd (passAt tk) pa hst hpl ht, fun σ H m0 env st Q s e h => ?_⟩
  refine ro σ H m0 env st _ s e (Post.bind h fun x st1 m1 x' H1 p1 k1 s1 r1 h1 => ?_)
  cases r1 with
  | ref hn' =>
    rename_i i a
    simp only at h1
    split at h1
    · rename_i c' fs hx
      split at h1
      · rename_i hcc
        obtain ⟨rfl, hl⟩ := hcc
        obtain ⟨dx, gs, ea, rg⟩ := s1.at hx hn'
        refine ⟨a, dx, gs, rfl, ea, rg.look.1 hl, r σ H1 m1 env st1 _ s1 (e.mono p1 k1) (Post.bind h1 fun xs st2 m2 xs' H2 p2 k2 s2 r2 h2 => ?_)⟩
        split at h2
        · rename_i hl2
          exact ⟨m2, st2, _, s2, .cons (.ref (pre_get p2 hn')) (r2.append (rd H2 m2)), hl2, h2⟩
        · exact h2.elim
      · exact h1.elim
    · exact h1.elim
  | _ => exact h1.elim
theorem je_meth0 {k n : Nat} {f : Addr} {fd : FuncData} {ps : List Str} {F : Fn} {ds : List PV} {c : String} {m : Str} {pos apos : Pos} {o : Expr} {fo : FE} {pl : Sem Bool} (tk : Takes X W) (hc : Cls X.K (ca c)) (hm : Meth X.K (ca c) m f) (C : Cal X.prog X.w X.K X.mg X.base ca k f fd ps F) (b : Bnd X.K ca fd ps ds) (hr : Room k X.A)
    (ho : JE X W ca o fo) (hn : ps.length = n := by rfl)
    (ht : eval (.Call (.Attribute o m apos) [] [] pos) X.env = (do
      let ov ← eval o X.env
      standAt apos.atName
      let (f, first) ← holding [ov] (getMethod ov m pl)
      callWith pos f first (backTo pos (starEach [] X.env)) (backToKw pos (keywordEach [] X.env))) := by rfl) :
    JE X W ca (.Call (.Attribute o m apos) [] [] pos) (methF c m n F ds fo nilA) := by
  subst hn
  obtain ⟨to', po', ro⟩ := ho.ex
  obtain ⟨us, vs, hb, hd, rd⟩ := b.ex
  refine ⟨_, pe_methSD0 (E := WE W) (pl := pl) po' hc hm C.ok hr hb hd (passAt tk) ht, fun σ H m0 env st Q s e h => ?_⟩
  refine ro σ H m0 env st _ s e (Post.bind h fun x st1 m1 x' H1 p1 k1 s1 r1 h1 => ?_)
  cases r1 with
  | ref hn' =>
    rename_i i a
    simp only at h1
    split at h1
    · rename_i c' fs hx
      split at h1
      · rename_i hcc
        obtain ⟨rfl, hl⟩ := hcc
        obtain ⟨dx, gs, ea, rg⟩ := s1.at hx hn'
        refine ⟨a, dx, gs, rfl, ea, rg.look.1 hl, ?_⟩
        simp only [nilA, R.bind, List.nil_append] at h1
        split at h1
        · rename_i hl2
          exact ⟨m1, st1, _, s1, .cons (.ref hn') (rd H1 m1), hl2, h1⟩
        · exact h1.elim
      · exact h1.elim
    · exact h1.elim
  | _ => exact h1.elim
/-- C(..): its __init__ lets nothing out -/
def makeF (c : String) (n : Nat) (F : Fn) (fa : FA) : FE := fun e st => (fa e st).bind fun xs s1 => if xs.length + 1 = n then (match F (.ref s1.length :: xs) (s1 ++ [.ins c []]) with
  | .ok .non s2 => .ok (.ref s1.length) s2
  | _ => .no) else .no
theorem passes_none {P : Program} {w : World} : Passes (L2.CX P w) X (fun _ _ _ => False) := fun _ _ _ _ _ _ _ c => by
  obtain ⟨_, _, _, _, _, _, _, _, _, _, _, _, z⟩ := c
  exact z.elim
theorem je_make {k n : Nat} {f : Addr} {fd : FuncData} {ps : List Str} {F : Fn} {c : String} {x : Str} {p pos : Pos} {e : Expr} {es : List Expr} {fa : FA} (M : Mk X.K (ca c) f) (C : Cal X.prog X.w X.K X.mg X.base ca k f fd ps F) (b : Bnd X.K ca fd ps []) (hr : Room (k + 1) X.A) (hm : X.mg x = some (.ref (ca c)))
    (ha : JA X W ca (e :: es) fa) (hn : ps.length = n := by rfl) (hg : Gl X x := by rfl) (hdb : (x == ("__debug__" : Str)) = false := by decide) (he : starEach (e :: es) X.env = (false, eval e X.env) :: starEach es X.env := by rfl) (hpl : (backTo pos (starEach es X.env)).any (·.1) = false := by rfl) :
    JE X W ca (.Call (.Name x p) (e :: es) [] pos) (makeF c n F fa) := by
  subst hn
  obtain ⟨t, pa, r⟩ := ha.ex
  obtain ⟨us, vs, hb, hd, rd⟩ := b.ex
  refine ⟨_, pe_make (E := fun _ _ _ => False) M C.ok hr hg hm hb hd passes_none pa hdb he hpl, fun σ H m0 env st Q s e h => ?_⟩
  refine r σ H m0 env st _ s e (Post.bind h fun xs st1 m1 xs' H1 p1 k1 s1 r1 h1 => ?_)
  intro a dx ea edx ne
  split at h1
  · rename_i hl
    have kx := Keep.new (K := X.K) (o := .own a) edx
    have sx : SR X.K ca (upd H1 dx (.own a)) m1 st1 := s1.skip edx
    have ea' : (upd H1 dx (.own a)) a = none := by rw [upd_ne fun z => ne z.symm]; exact ea
    have ka := Keep.new (K := X.K) (o := .ins (ca c) dx []) ea'
    have sa : SR X.K ca (upd (upd H1 dx (.own a)) a (.ins (ca c) dx [])) (m1 ++ [a]) (st1 ++ [.ins c []]) := sx.new ea' ⟨dx, [], upd_same, .nil⟩
    have rn : ∀ {Hx : Hp}, VR X.K ca Hx (m1 ++ [a]) (.ref st1.length) (.ref a) := fun {Hx} => .ref (by rw [← s1.len, List.getElem?_append_right (Nat.le_refl _), Nat.sub_self]; rfl)
    have rds := rd (upd (upd H1 dx (.own a)) a (.ins (ca c) dx [])) (m1 ++ [a])
    refine ⟨m1 ++ [a], st1 ++ [.ins c []], .ref st1.length :: (xs ++ []), sa, .cons rn ((r1.mono (List.prefix_append _ _) (kx.trans ka)).append rds), by rw [List.append_nil, List.length_cons]; exact hl, ?_⟩
    rw [List.append_nil]
    cases q : F (.ref st1.length :: xs) (st1 ++ [.ins c []]) with
    | er y s2 => rw [q] at h1; exact h1.elim
    | no => rw [q] at h1; exact h1.elim
    | ok v s2 =>
      rw [q] at h1
      cases v with
      | non =>
        intro m2 b2 H2 p2 k2 s2' r2
        cases r2
        exact ⟨rfl, h1 m2 _ H2 ((List.prefix_append _ _).trans p2) ((kx.trans ka).trans k2) s2' (.ref (pre_get p2 (by rw [← s1.len, List.getElem?_append_right (Nat.le_refl _), Nat.sub_self]; rfl)))⟩
      | _ => exact h1.elim
  · exact h1.elim
/-! ## a call of a local that holds a def -/
def callTF (n i : Nat) (Tb : List (String × Fn)) (fa : FA) : FE := fun e st => match e[i]? with
  | some (some (.cls nm)) => (match Tb.lookup nm with
    | some F => (fa e st).bind fun xs s1 => if xs.length = n then F xs s1 else .no
    | none => .no)
  | _ => .no
def tCallT (S : Addr → Sp → Prop) (i : Nat) (E : L2.St → XK) (t : TA) : TE := fun σ H Q => ∃ f sp, σ[i]? = some (some (.ref f)) ∧ S f sp ∧ t σ H fun vs H1 => sp vs H1 Q (E σ)
theorem pe_callT {CX : CXT} {k i : Nat} {S : Addr → Sp → Prop} {E : L2.St → XK} {x : Str} {p pos : Pos} {e : Expr} {es : List Expr} {t : TA} (A : ∀ f sp, S f sp → ∃ fd ps, FnOk X.prog X.w X.K X.mg X.base CX k f fd ps sp ∧ PySem.W.keepIn X.K (.ref f) = true ∧ Binds X.K fd ps []) (hr : Room k X.A) (hx : ∀ σ, PassesAt CX X σ (E σ)) (hN : X.N[i]? = some x) (hv : Vis X.env.scope x) (ha : PA X (e :: es) t)
    (hdb : (x == ("__debug__" : Str)) = false) (hcd : (x == ("__classdict__" : Str)) = false)
    (he : starEach (e :: es) X.env = (false, eval e X.env) :: starEach es X.env) (hpl : (backTo pos (starEach es X.env)).any (·.1) = false) : PE X (.Call (.Name x p) (e :: es) [] pos) (tCallT S i E t) := by
  refine ⟨fun pins s σ H Q I h => ?_⟩
  obtain ⟨f, sp, hs, hS, ht⟩ := h
  obtain ⟨fd, ps, F, hk, hb⟩ := A f sp hS
  refine wpAny_Call_Name_kw (thn ((pe_var (pos := p) hN hv hdb hcd).run pins s σ H (fun v H1 => v = .ref f ∧ H1 = H) I ⟨.ref f, hs, rfl, rfl⟩) fun u s1 ⟨v, H1, I1, r1, q1⟩ => ?_)
  obtain ⟨rfl, rfl⟩ := q1
  cases r1
  refine PySem.W.callWith_K (h₀ := X.base) I.ok.mod.kin hk (thn (ha.run pos pins s1 σ _ _ I1 ht) fun us s2 ⟨vs, H2, I2, r, q⟩ => ⟨I2.kIn, ?_⟩) he hpl
  exact run_fnSD (dvs := []) F hr hb .nil (hx σ) I2 r (by rw [List.append_nil]; exact q)
theorem je_callT {k n i : Nat} {Tb : List (String × Fn)} {x : Str} {p pos : Pos} {e : Expr} {es : List Expr} {fa : FA} (tk : Takes X W) (hT : ∀ q ∈ Tb, ∃ fd ps, Cal X.prog X.w X.K X.mg X.base ca k (ca q.1) fd ps q.2 ∧ ps.length = n ∧ Binds X.K fd ps []) (hr : Room k X.A) (ha : JA X W ca (e :: es) fa)
    (hN : X.N[i]? = some x := by rfl) (hv : Vis X.env.scope x := by first | exact .inl rfl | exact .inr rfl) (hdb : (x == ("__debug__" : Str)) = false := by decide) (hcd : (x == ("__classdict__" : Str)) = false := by decide)
    (he : starEach (e :: es) X.env = (false, eval e X.env) :: starEach es X.env := by rfl) (hpl : (backTo pos (starEach es X.env)).any (·.1) = false := by rfl) :
    JE X W ca (.Call (.Name x p) (e :: es) [] pos) (callTF n i Tb fa) := by
  obtain ⟨t, pa, r⟩ := ha.ex
  refine ⟨_, pe_callT (k := k) (i := i) (E := WE W) (S := fun f sp => ∃ q ∈ Tb, f = ca q.1 ∧ sp = spF X.K ca n q.2) (fun f sp h => ?_) hr (passAt tk) hN hv pa hdb hcd he hpl, fun σ H m env st Q s e h => ?_⟩
  · obtain ⟨q, hq, rfl, rfl⟩ := h
    obtain ⟨fd, ps, C, hl, b⟩ := hT q hq
    subst hl
    exact ⟨fd, ps, C.ok, C.kp, b⟩
  · unfold callTF at h
    split at h
    · rename_i nm hi
      split at h
      · rename_i F hF
        have hq : ∃ q ∈ Tb, q.1 = nm ∧ q.2 = F := by
          clear h hT
          induction Tb with
          | nil => cases hF
          | cons a q ih =>
            simp only [List.lookup] at hF
            split at hF
            · rename_i hb
              cases hF
              exact ⟨a, List.mem_cons_self, (eq_of_beq hb).symm, rfl⟩
            · obtain ⟨z, h1, h2⟩ := ih hF
              exact ⟨z, List.mem_cons_of_mem _ h1, h2⟩
        obtain ⟨q, hq, rfl, rfl⟩ := hq
        obtain ⟨v, hv', rv⟩ := e.2 i _ hi
        cases rv
        refine ⟨ca q.1, _, hv', ⟨q, hq, rfl, rfl⟩, r σ H m env st _ s e (Post.bind h fun xs st1 m1 xs' H1 p1 k1 s1 r1 h1 => ?_)⟩
        split at h1
        · rename_i hl
          exact ⟨m1, st1, xs, s1, r1, hl, h1⟩
        · exact h1.elim
      · exact h.elim
    · exact h.elim
end
end
end FL
end
section
set_option linter.all false
set_option maxRecDepth 100000
namespace FL
open PySem PySem.Spec PyProof.Rows L2
noncomputable section
/-! ## what is never reached -/
def noS : FS := fun _ _ => .no
def noE : FE := fun _ _ => .no
section
variable {X : Cx} {W : WX} {ca : Ca}
theorem js_no {s : Stmt} : JS X W ca s noS := ⟨fun _ _ _ => False, ⟨fun _ _ _ _ _ _ h => h.elim⟩, fun _ _ _ _ _ _ _ _ h => h⟩
theorem je_no {e : Expr} : JE X W ca e noE := ⟨fun _ _ _ => False, ⟨fun _ _ _ _ _ _ h => h.elim⟩, fun _ _ _ _ _ _ _ _ h => h⟩
/-! ## a try whose body raises nothing -/
def thruS (f g : FS) : FS := fun e st => match f e st with
  | .nx e1 s1 => g e1 s1
  | .er _ _ _ => .no
  | r => r
theorem js_thru {body orelse : List Stmt} {h0 : ExceptHandler} {hs : List ExceptHandler} {pos : Pos} {f g : FS} (hb : JSs X.nox (fun _ _ _ _ => False) ca body f) (ho : JSs X W ca orelse g) : JS X W ca (.Try body (h0 :: hs) orelse [] pos) (thruS f g) := by
  obtain ⟨t, p, r⟩ := hb.ex
  obtain ⟨u, q, z⟩ := ho.ex
  refine ⟨_, ps_try_thru p q, fun σ H m env st D s e h => ?_⟩
  refine r σ H m env st _ s e ?_
  unfold thruS at h
  cases c : f env st with
  | nx e1 s1 =>
    rw [c] at h
    intro m1 σ1 H1 p1 k1 s2 e2
    exact z σ1 H1 m1 e1 s1 D s2 e2 (PostS.mono h p1 k1)
  | rt v s1 => rw [c] at h; exact h
  | bk e1 s1 => rw [c] at h; exact h
  | ct e1 s1 => rw [c] at h; exact h
  | er x e1 s1 => rw [c] at h; exact h.elim
  | no => rw [c] at h; exact h
/-! ## a field is read -/
def fldF (c : String) (f : Str) (fo : FE) : FE := fun e st => (fo e st).bind fun o s1 => match o with
  | .ref n => (match s1[n]? with
    | some (.ins c' fs) => if c' = c then (match fs.lookup f with
      | some v => .ok v s1
      | none => .no) else .no
    | _ => .no)
  | _ => .no
theorem je_fld {o : Expr} {f : Str} {c : String} {pos : Pos} {fo : FE} (hc : Cls X.K (ca c)) (hn : NoAttr X.K (ca c) f) (ho : JE X W ca o fo) (hb : attributeBase o f X.env (eval o X.env) = eval o X.env := by rfl) : JE X W ca (.Attribute o f pos) (fldF c f fo) := by
  obtain ⟨to', po', ro⟩ := ho.ex
  refine ⟨_, pe_fld po' hb, fun σ H m env st Q s e h => ?_⟩
  refine ro σ H m env st _ s e (Post.bind h fun x st1 m1 x' H1 p1 k1 s1 r1 h1 => ?_)
  cases r1 with
  | ref hn' =>
    rename_i n a
    simp only at h1
    split at h1
    · rename_i c' fs hx
      split at h1
      · rename_i hcc
        subst hcc
        obtain ⟨dx, gs, ea, rg⟩ := s1.at hx hn'
        split at h1
        · rename_i v hv
          obtain ⟨w, hw, rv⟩ := rg.look.2 v hv
          exact ⟨a, ca c', dx, gs, w, rfl, ea, hc, hn, hw, h1 m1 w H1 (List.prefix_refl _) Keep.refl s1 rv⟩
        · exact h1.elim
      · exact h1.elim
    · exact h1.elim
  | _ => exact h1.elim
end
end
end FL
namespace RZ
open PySem PySem.Spec PyProof.Rows L2
section
variable {prog : Program} {w : World} {A : Around} {E : Value → Shared → Prop} {s : Shared}
theorem extend_revL {R : Result → Shared → Prop} {it l : Addr} {items : Array Value} (hh : A.handled = none) (hit : s.heap.IsRevIter it l ((items.size : Int) - 1)) (hl : s.heap.IsList l items) (hne : l ≠ it) (hn : items.size ≤ sizeLine) (S : Addr) (res : Value) (c0 : Nat)
    (hSi : S ≠ it) (hSl : S ≠ l) (hS : s.heap.get? S = some { cls := .type "list", data := .seq #[] c0 })
    (hR : ∀ h' tk acc' c', (∀ b o, b ≠ S → b ≠ it → s.heap.get? b = some o → h'.get? b = some o) → h'.get? S = some { cls := .type "list", dict := none, data := .seq acc' c', slots := #[] } →
      ItemsOf (fun i v => items[items.size - 1 - i]? = some v) acc' items.size → R (.ok (.ret res)) { s with heap := h', toks := tk }) :
    wpAny (model prog w) A.in1 (Builtin.List.listExtendWith (.ref S) (.ref it) res)
      (fun fin s' => match fin with | .done f => R (.ok f) s' | .again c' => c'.quiet = true ∧ codeAny (model prog w) A c' R s') (fun e s' => R (.error e) s') s := by
  have W := (Walks.listRev (prog := prog) (w := w) (A := A.in1) hh it l hne items).toS
  have hSf : S ∉ [it, l] := by simp only [List.mem_cons, List.not_mem_nil, or_false, not_or]; exact ⟨hSi, hSl⟩
  have hT : s.TypeIs (.ref it) "list_reverseiterator" := Heap.IsRevIter.typeIs hit
  have h1 : Builtin.List.listSameRef (.ref S) (.ref it) = false := by simp [Builtin.List.listSameRef, hSi]
  unfold Builtin.List.listExtendWith
  refine wpAny_bind (wpAny_typeOf hT ?_)
  rw [if_neg (by rw [h1]; decide)]
  refine wpAny_bind (wpAny_pyIter_revIter hit ?_)
  refine wpAny_bind (wpAny_holding ?_)
  unfold Builtin.List.listLengthHint
  refine wpAny_bind (wpAny_specialOf hT RT.nolen_lri ?_)
  show wpAny _ A.in1 (specialOf (Value.ref it) (Str.ofString "__length_hint__") >>= _) _ _ _
  refine wpAny_bind (wpAny_specialOf hT RT.hint_lri ?_)
  generalize hid : ("list_reverseiterator.__length_hint__" : String) = id0
  wp_delta
  rw [show splitId id0 = some ("list_reverseiterator", "__length_hint__") from by subst hid; decide +kernel]
  subst hid
  refine wpAny_bind (wpAny_isInstance (b := true) hT (by rw [isSubtype_type]; kernel_rfl) ?_)
  refine wpAny_pure ?_
  rw [if_neg (by decide)]
  have e0 : ((items.size : Nat) : Int) - 1 - ((0 : Nat) : Int) = (items.size : Int) - 1 := by omega
  refine wpAny_pure ⟨plainId_quiet F.plain_extend_loop _, codeAny_extend_loopS W hn _ hSf _ items.size 0 _ _ _ rfl (Nat.zero_le _) ⟨Nat.zero_le _, by rw [e0]; exact hit, hl⟩ hS (ItemsOf.nil _) fun s' acc' c' hm hS' hacc => ?_⟩
  rw [Moved.eq_with hm]
  refine hR s'.heap s'.toks acc' c' (fun b o hb hb2 e => hm.heap b o (fun hmem => ?_) e) hS' hacc
  rcases List.mem_cons.mp hmem with e' | hmem
  · exact hb e'
  · exact hb2 (List.mem_singleton.mp hmem)
theorem init_revL {R : Result → Shared → Prop} {it l : Addr} {items : Array Value} (hh : A.handled = none) (hit : s.heap.IsRevIter it l ((items.size : Int) - 1)) (hl : s.heap.IsList l items) (hne : l ≠ it) (hn : items.size ≤ sizeLine) (S : Addr)
    (hSi : S ≠ it) (hSl : S ≠ l) (hS : s.heap.get? S = some { cls := .type "list", data := .seq #[] })
    (hR : ∀ h' tk acc' c', (∀ b o, b ≠ S → b ≠ it → s.heap.get? b = some o → h'.get? b = some o) → h'.get? S = some { cls := .type "list", dict := none, data := .seq acc' c', slots := #[] } →
      ItemsOf (fun i v => items[items.size - 1 - i]? = some v) acc' items.size → R (.ok (.ret .none)) { s with heap := h', toks := tk }) :
    wpAny (model prog w) A.in1 (Builtin.«list.__init__» ⟨[.ref S, .ref it], []⟩)
      (fun fin s' => match fin with | .done f => R (.ok f) s' | .again c' => c'.quiet = true ∧ codeAny (model prog w) A c' R s') (fun e s' => R (.error e) s') s := by
  show wpAny _ A.in1 (do let old ← Builtin.List.listItems (.ref S); Builtin.List.listUpdate (.ref S) (fun _ => #[]); letGo old.toList.reverse; Builtin.List.listExtendWith (.ref S) (.ref it) .none) _ _ s
  refine wpAny_bind ?_
  unfold Builtin.List.listItems
  refine wpAny_bind (wpAny_seqItems hS rfl (wpAny_pure ?_))
  show wpAny _ _ (updateSeq S (fun _ => #[]) >>= fun _ => letGo (#[] : Array Value).toList.reverse >>= fun _ => Builtin.List.listExtendWith (.ref S) (.ref it) .none) _ _ s
  refine wpAny_bind (wpAny_updateSeq hS rfl ?_)
  have hS₂ := Heap.get?_update_self (Obj.mapSeq (fun _ => (#[] : Array Value))) hS rfl
  have oth : ∀ b o, b ≠ S → s.heap.get? b = some o → (s.heap.update S (Obj.mapSeq (fun _ => (#[] : Array Value)))).get? b = some o :=
    fun b o hb e => (Heap.get?_update_other _ _ (Ne.symm hb)).trans e
  refine wpAny_bind (wpAny_letGo ?_)
  refine extend_revL hh (hit.at fun o e => oth _ _ (Ne.symm hSi) e) (hl.at fun o e => oth _ _ (Ne.symm hSl) e) hne hn _ _ _ hSi hSl hS₂ fun h' tk acc' c' hk hS' hacc => ?_
  exact hR h' tk acc' c' (fun b o hb hb2 e => hk b o hb hb2 (oth b o hb e)) hS' hacc
theorem call_list_rev {it l : Addr} {items : Array Value} {Q : Value → Shared → Prop} (hh : A.handled = none) (hit : s.heap.IsRevIter it l ((items.size : Int) - 1)) (hl : s.heap.IsList l items) (hne : l ≠ it) (hn : items.size ≤ sizeLine)
    (hQ : ∀ h' tk acc' c', (∀ b o, b ≠ it → s.heap.get? b = some o → h'.get? b = some o) → h'.get? s.heap.objs.size = some { cls := .type "list", dict := none, data := .seq acc' c', slots := #[] } →
      ItemsOf (fun i v => items[items.size - 1 - i]? = some v) acc' items.size → Q (.ref s.heap.objs.size) { s with heap := h', toks := tk }) :
    wpAny (model prog w) A (call (.type "list") [.ref it]) Q E s := by
  obtain ⟨oi, hoi, _⟩ := id hit
  obtain ⟨ol, hol, _⟩ := id hl
  have hSi : s.heap.objs.size ≠ it := Nat.ne_of_gt (Heap.lt_size hoi)
  have hSl : s.heap.objs.size ≠ l := Nat.ne_of_gt (Heap.lt_size hol)
  refine callType_codes (Q₁ := fun obj s₁ => obj = .ref s.heap.objs.size ∧ s₁ = { s with heap := s.heap.push { cls := .type "list", data := .seq #[] } }) F.called_list (F.typeCall_list_1 _) F.entry_list_init
    (code_list_new _ ⟨rfl, rfl⟩) fun obj s₁ h₁ => ?_
  obtain ⟨rfl, rfl⟩ := h₁
  have hS : (s.heap.push { cls := .type "list", data := .seq #[] }).get? s.heap.objs.size = some { cls := .type "list", data := .seq #[] } := Heap.get?_push_size _ rfl
  refine ⟨⟨_, hS, rfl⟩, F.args_list_init_2 _ _, init_revL (A := A.in1) hh (hit.at fun o e => Heap.get?_push_of_some _ e) (hl.push _) hne hn _ hSi hSl hS fun h' tk acc' c' hk hS' hacc => ?_⟩
  exact ⟨rfl, hQ h' tk acc' c' (fun b o hb e => hk b o (Nat.ne_of_lt (Heap.lt_size e)) hb (Heap.get?_push_of_some _ e)) hS' hacc⟩
end
section
variable {X : Cx}
def tLstRev (K : PySem.W.Frag) (te : TE) : TE := fun σ H Q => te σ H fun v H1 => ∃ (a : Addr) (xs : List V), v = .ref a ∧ SqL K H1 a xs ∧ ∀ q, H1 q = none → Q (.ref q) (upd H1 q (.lst xs.reverse))
theorem pe_lstRev {e : Expr} {te : TE} {p p2 pos pos2 : Pos} (hc : X.calm = true) (hg : Gl X "list") (hm : X.mg "list" = none) (hg2 : Gl X "reversed") (hm2 : X.mg "reversed" = none) (he : PE X e te)
    (hs : starEach [e] X.env = (false, eval e X.env) :: starEach [] X.env)
    (hs2 : starEach [.Call (.Name "reversed" p2) [e] [] pos2] X.env = (false, eval (.Call (.Name "reversed" p2) [e] [] pos2) X.env) :: starEach [] X.env) :
    PE X (.Call (.Name "list" p) [.Call (.Name "reversed" p2) [e] [] pos2] [] pos) (tLstRev X.K te) := by
  refine ⟨fun pins s σ H Q I h => ?_⟩
  refine Call_ (ld_blt I hg hm boot_list (PyProof.Rows.callWith_type1 (args_cons (Call_ (ld_blt I hg2 hm2 PyProof.Rows.boot_reversed (PyProof.Rows.callWith_type1 (args_cons (thn (he.run pins s σ H _ I h) fun u s1 ⟨v, H1, I1, r1, q1⟩ => args_nil ?_) hs) hs rfl))) hs2) hs2 rfl))
  obtain ⟨a, xs, ev, hq, q⟩ := q1
  subst ev
  obtain rfl : u = Value.ref a := r1
  obtain ⟨its, rv, p', hz⟩ := I1.list hq
  refine call_reversed_list p'.isList (args_nil ?_)
  have k0 : ∀ b o, s1.heap.get? b = some o → (s1.heap.push (revObj a ((its.toArray.size : Int) - 1))).get? b = some o := fun b o e => Heap.get?_push_of_some _ e
  have I2 : Inv X pins σ H1 { s1 with heap := s1.heap.push (revObj a ((its.toArray.size : Int) - 1)) } := I1.kept (t' := s1.toks) k0
  have fp := I1.fpOk (H' := H1) (b := s1.heap.objs.size) (Nat.le_refl _) (I1.hok.fresh (Nat.le_refl _))
  have hl := p'.isList
  obtain ⟨ol, hol, _⟩ := id hl
  have hne : a ≠ s1.heap.objs.size := Nat.ne_of_lt (Heap.lt_size hol)
  have hn : its.toArray.size ≤ sizeLine := by rw [List.size_toArray, ← rv.length]; exact hz
  refine call_list_rev (s := { s1 with heap := s1.heap.push (revObj a ((its.toArray.size : Int) - 1)) }) (I1.ok.hd hc) ⟨_, Heap.get?_push_size _ rfl, rfl, rfl⟩ (hl.push _) hne hn fun h' tk acc c' hk e' hi => ?_
  refine ⟨.ref _, upd H1 _ (.lst xs.reverse), I2.turnedNew (t' := tk) (ch := [s1.heap.objs.size]) (fun b o hb e => hk b o (by simpa using hb) e) (fun b hb => by rw [List.mem_singleton.mp hb]; exact fp) (Nat.le_refl _)
    (show ObjOk X.prog X.w _ _ _ (.lst xs.reverse) from ⟨by rw [List.length_reverse]; exact hz, acc.toList, c', RT.vals_rev rv hi, by rw [Array.toArray_toList]; exact e'⟩), rfl, q _ (I2.hok.fresh (Nat.le_refl _))⟩
end
end RZ
namespace FL
open PySem PySem.Spec PyProof.Rows L2
noncomputable section
section
variable {X : Cx} {W : WX} {ca : Ca}
/-! ## list(reversed(l)) -/
def lrvF (fa : FE) : FE := fun e st => (fa e st).bind fun x s1 => match lstAt s1 x with
  | some xs => .ok (.ref s1.length) (s1 ++ [.lst xs.reverse])
  | none => .no
theorem je_listRev {a : Expr} {p p2 pos pos2 : Pos} {fa : FE} (hl : X.mg "list" = none) (hm : X.mg "reversed" = none) (ha : JE X W ca a fa) (hc : X.calm = true := by rfl) (hg : Gl X "list" := by rfl) (hg2 : Gl X "reversed" := by rfl)
    (na : starEach [a] X.env = (false, eval a X.env) :: starEach [] X.env := by rfl) (na2 : starEach [.Call (.Name "reversed" p2) [a] [] pos2] X.env = (false, eval (.Call (.Name "reversed" p2) [a] [] pos2) X.env) :: starEach [] X.env := by rfl) :
    JE X W ca (.Call (.Name "list" p) [.Call (.Name "reversed" p2) [a] [] pos2] [] pos) (lrvF fa) := by
  obtain ⟨t, pa, r⟩ := ha.ex
  refine ⟨_, RZ.pe_lstRev hc hg hl hg2 hm pa na na2, fun σ H m env st Q s e h => ?_⟩
  refine r σ H m env st _ s e (Post.bind h fun x st1 m1 x' H1 p1 k1 s1 r1 h1 => ?_)
  cases r1 with
  | frz hr rr =>
    obtain ⟨vs, r2⟩ := And.intro hr.sq rr
    refine ⟨_, _, rfl, hr.sq, fun q hq => ?_⟩
    simp only [lstAt] at h1
    obtain ⟨pD, kD, sD, rD⟩ := upd_l (K := X.K) (ca := ca) s1 hq rr.rev
    exact h1 _ _ _ pD kD sD rD
  | ref hn' =>
    rename_i n a'
    simp only [lstAt] at h1
    split at h1
    · rename_i xs hx
      split at hx
      · rename_i ys hy
        cases hx
        obtain ⟨vs, e1, r2⟩ := s1.at hy hn'
        refine ⟨_, vs, rfl, SqL.of e1, fun q hq => ?_⟩
        obtain ⟨pD, kD, sD, rD⟩ := upd_l (K := X.K) (ca := ca) s1 hq r2.rev
        exact h1 _ _ _ pD kD sD rD
      · cases hx
    · exact h1.elim
  | _ => exact h1.elim
end
section
variable {P : Program} {w : World} {K : PySem.W.Frag} {mg : Str → Option Value} {base : Heap} {ca : Ca}
/-! ## a def with defaults -/
theorem cal_mkD {x qual : Str} {st : Stmt} {f : Addr} {fd : FuncData} {N ps : List Str} {k n : Nat} {body : FS} {dvs : List V} (F : L2.FunD K x qual (defArgs st) (defBody st) (defScope st) dvs [] f fd) (S : FnScope N ps (defScope st)) (hn : N.length = n)
    (hbody : ∀ (cdv : Value) (A : Around) (outer : List PySem.Env) (s : Shared) (H : Hp) (E : XK), Room k (A.deeper (envOfC qual (defScope st) s.heap.objs.size f cdv)) →
      Takes (cxOf (L2.CX P w) P w K mg base N qual (defScope st) f cdv A outer s H E) (fun cls d _ H => E cls d H) →
      PassesOwn (model P w) (cxOf (L2.CX P w) P w K mg base N qual (defScope st) f cdv A outer s H E).A (cxOf (L2.CX P w) P w K mg base N qual (defScope st) f cdv A outer s H E).env (cxOf (L2.CX P w) P w K mg base N qual (defScope st) f cdv A outer s H E).xe →
      JSs (cxOf (L2.CX P w) P w K mg base N qual (defScope st) f cdv A outer s H E) (fun cls d _ H => E cls d H) ca (defBody st) body) :
    Cal P w K mg base ca (k + 1) f fd ps (runFn n body) := by
  subst hn
  refine ⟨L2.FunD.ok F S (fun vs H Q E h => ?_) (fun cdv A outer s H vs Q E hr h => ?_), F.kp⟩
  · obtain ⟨m, st, xs, _, r, hl, _⟩ := h
    rw [← r.length, hl]
  · obtain ⟨m, st, xs, s0, r, hl, h⟩ := h
    obtain ⟨t, p, z⟩ := (hbody cdv A outer s H E hr (takes_of rfl rfl rfl rfl) (passes_of rfl)).ex
    refine ⟨t, p, z _ H m (xs.map some ++ List.replicate (N.length - xs.length) none) st _ s0 (er_start r) ?_⟩
    unfold runFn at h
    cases q : body (xs.map some ++ List.replicate (N.length - xs.length) none) st with
    | nx e1 s1 => rw [q] at h; exact fun m1 σ1 H1 p1 k1 s2 _ => h.gc s0 m1 _ H1 p1 k1 s2 .non
    | rt v s1 => rw [q] at h; exact fun m1 w1 H1 p1 k1 s2 r1 => h.gc s0 m1 w1 H1 p1 k1 s2 r1
    | er x e1 s1 => rw [q] at h; exact fun m1 d σ1 H1 p1 k1 s2 _ r1 => h.gcx s0 m1 d H1 p1 k1 s2 r1
    | bk e1 s1 => rw [q] at h; exact h.elim
    | ct e1 s1 => rw [q] at h; exact h.elim
    | no => rw [q] at h; exact h.elim
theorem bnd_D {fd : FuncData} {ps : List Str} {ds : List PV} {dvs : List V} (h : ∃ us, Vals dvs us ∧ Binds K fd ps us) (r : ∀ H m, VRs K ca H m ds dvs) : Bnd K ca fd ps ds := by
  obtain ⟨us, h1, h2⟩ := h
  exact ⟨us, dvs, h2, h1, r⟩
theorem funD_mk {x qual : Str} {st : Stmt} {f T : Addr} {oc : Value} {od an : Option Addr} {osl : Array (Option Value)} {kV doc pm cdv ct : Value} {dvs : List V} {o : Obj} {its : List Value} {n : Nat}
    (l : K.lookup f = some ⟨oc, od, .func (PySem.W.fnOf x qual (defArgs st) (defBody st) (defScope st) (.ref T) kV doc pm an cdv ct), osl⟩) (c : PySem.W.codeIn K cdv qual = true) (k : PySem.W.keepIn K (.ref f) = true) (hd : dvs ≠ []) (lT : K.lookup T = some o) (oT : o.data = .seq its.toArray n) (r : Vals dvs its) :
    L2.FunD K x qual (defArgs st) (defBody st) (defScope st) dvs [] f (PySem.W.fnOf x qual (defArgs st) (defBody st) (defScope st) (.ref T) kV doc pm an cdv ct) := ⟨⟨oc, od, _, kV, doc, pm, an, cdv, ct, osl, rfl, l, c, .inr ⟨hd, T, o, its, n, rfl, lT, oT, r⟩, .inl rfl⟩, k⟩
end
end
end FL
end
section
set_option linter.all false
set_option maxRecDepth 100000
namespace FL
open PySem PySem.Spec PyProof.Rows L2
noncomputable section
/-! ## dicts: their keys, their look-ups -/
def keyK : PV → Option Key
  | .int i => some (.inl i)
  | .str x => some (.inr x)
  | _ => none
mutual
def keyN : PV → Option NestedKey
  | .non => some .none
  | .int i => some (.num i)
  | .str x => some (.text x)
  | .tup xs => match keyNs xs with
    | some ks => some (.tup ks)
    | none => none
  | _ => none
def keyNs : List PV → Option (List NestedKey)
  | [] => some []
  | x :: xs => match keyN x, keyNs xs with
    | some k, some ks => some (k :: ks)
    | _, _ => none
end
/-- a tuple as a key -/
def keyT (x : PV) : Option NestedKey := match x with
  | .tup xs => match keyNs xs with
    | some ks => if (NestedKey.tup ks).depth ≤ 8 then some (.tup ks) else none
    | none => none
  | _ => none
section
variable {κ : Type} [DecidableEq κ]
def valP (kvs : List (κ × PV)) (k : κ) : Option PV := (kvs.find? fun kv => decide (kv.1 = k)).map (·.2)
def putD (kvs : List (κ × PV)) (k : κ) (v : PV) : List (κ × PV) :=
  if (kvs.any fun kv => decide (kv.1 = k)) = true then kvs.map (fun kv => if kv.1 = k then (kv.1, v) else kv) else kvs ++ [(k, v)]
theorem length_putD (kvs : List (κ × PV)) (k : κ) (v : PV) : (putD kvs k v).length ≤ kvs.length + 1 := by
  unfold putD
  split
  · rw [List.length_map]; omega
  · rw [List.length_append, List.length_cons, List.length_nil]; omega
variable {K : PySem.W.Frag} {ca : Ca} {m : List Addr} {H : Hp}
theorem KR.val {kvs : List (κ × PV)} {ws : List (κ × V)} (r : KR K ca H m kvs ws) (k : κ) : (valP kvs k = none → valV ws k = none) ∧ ∀ v, valP kvs k = some v → ∃ w, valV ws k = some w ∧ VR K ca H m v w := by
  unfold KR at r
  induction r with
  | nil => exact ⟨fun _ => rfl, fun v e => by cases e⟩
  | @cons p q ps qs h t ih =>
    obtain ⟨h1, h2⟩ := h
    by_cases e : p.1 = k
    · have e1 : valP (p :: ps) k = some p.2 := by simp [valP, List.find?_cons, e]
      rw [e1, valV_pos (h1.symm.trans e)]
      exact ⟨fun z => (by cases z), fun v z => ⟨_, rfl, by cases z; exact h2⟩⟩
    · have e1 : valP (p :: ps) k = valP ps k := by simp [valP, List.find?_cons, e]
      rw [e1, valV_neg (fun z => e (h1.trans z))]
      exact ih
theorem KR.any {kvs : List (κ × PV)} {ws : List (κ × V)} (r : KR K ca H m kvs ws) (k : κ) : (kvs.any fun kv => decide (kv.1 = k)) = ws.any fun kv => decide (kv.1 = k) := by
  unfold KR at r
  induction r with
  | nil => rfl
  | cons h t ih => rw [List.any_cons, List.any_cons, ih, h.1]
theorem KR.isSome {kvs : List (κ × PV)} {ws : List (κ × V)} (r : KR K ca H m kvs ws) (k : κ) : (valP kvs k).isSome = (valV ws k).isSome := by
  obtain ⟨h1, h2⟩ := r.val k
  cases q : valP kvs k with
  | none => rw [h1 q] <;> rfl
  | some v =>
    obtain ⟨w, e, _⟩ := h2 v q
    rw [e] <;> rfl
theorem KR.repl {kvs : List (κ × PV)} {ws : List (κ × V)} (r : KR K ca H m kvs ws) (k : κ) {v : PV} {w : V} (rv : VR K ca H m v w) :
    KR K ca H m (kvs.map fun kv => if kv.1 = k then (kv.1, v) else kv) (ws.map fun kv => if kv.1 = k then (kv.1, w) else kv) := by
  unfold KR at r ⊢
  induction r with
  | nil => exact .nil
  | @cons p q ps qs h t ih =>
    rw [List.map_cons, List.map_cons]
    refine .cons ?_ ih
    obtain ⟨h1, h2⟩ := h
    by_cases e : p.1 = k
    · rw [if_pos e, if_pos (h1.symm.trans e)]; exact ⟨h1, rv⟩
    · rw [if_neg e, if_neg (fun z => e (h1.trans z))]; exact ⟨h1, h2⟩
theorem KR.putD {kvs : List (κ × PV)} {ws : List (κ × V)} (r : KR K ca H m kvs ws) (k : κ) {v : PV} {w : V} (rv : VR K ca H m v w) : KR K ca H m (FL.putD kvs k v) (putK ws k w) := by
  unfold FL.putD putK
  rw [r.any k]
  split
  · exact r.repl k rv
  · exact Paired.snoc r ⟨rfl, rv⟩
theorem KR.len' {kvs : List (κ × PV)} {ws : List (κ × V)} (r : KR K ca H m kvs ws) : kvs.length = ws.length := Paired.length r
end
/-! ### the dicts of nested keys -/
abbrev piX (xs : List (NestedKey × Addr × V)) : List (NestedKey × V) := xs.map fun x => (x.1, x.2.2)
def storedX (xs : List (NestedKey × Addr × V)) (k : NestedKey) (b : Addr) (v : V) : List (NestedKey × Addr × V) :=
  if (xs.any fun x => decide (x.1 = k)) = true then xs.map (fun x => if x.1 = k then (x.1, x.2.1, v) else x) else xs ++ [(k, b, v)]
abbrev RXY : (NestedKey × Addr × V) → (NestedKey × Addr × Value) → Prop := fun p q => p.1 = q.1 ∧ p.2.1 = q.2.1 ∧ RelV p.2.2 q.2.2
theorem length_storedX (xs : List (NestedKey × Addr × V)) (k : NestedKey) (b : Addr) (v : V) : (storedX xs k b v).length ≤ xs.length + 1 := by
  unfold storedX
  split
  · rw [List.length_map]; omega
  · rw [List.length_append, List.length_cons, List.length_nil]; omega
theorem at_any {xs : List (NestedKey × Addr × V)} {ys : List (NestedKey × Addr × Value)} (r : Paired RXY xs ys) (k : NestedKey) : (xs.any fun x => decide (x.1 = k)) = (atKey ys k).isSome := by
  induction r with
  | nil => rfl
  | @cons p q ps qs h t ih =>
    rw [List.any_cons, ih]
    by_cases e : p.1 = k
    · have e1 : atKey (q :: qs) k = some q.2 := by simp [atKey, List.find?_cons, h.1.symm.trans e]
      rw [e1, decide_eq_true e]
      rfl
    · have e1 : atKey (q :: qs) k = atKey qs k := by simp [atKey, List.find?_cons, show ¬ q.1 = k from fun z => e (h.1.trans z)]
      rw [e1, decide_eq_false e]
      rfl
theorem stored_rel {xs : List (NestedKey × Addr × V)} {ys : List (NestedKey × Addr × Value)} (r : Paired RXY xs ys) (k : NestedKey) (b : Addr) {v : V} {u : Value} (rv : RelV v u) : Paired RXY (storedX xs k b v) (storedH ys k b u) := by
  unfold storedX storedH
  rw [at_any r k]
  split
  · rename_i hyp
    clear hyp
    induction r with
    | nil => exact .nil
    | @cons p q ps qs h t ih =>
      rw [List.map_cons, List.map_cons]
      refine .cons ?_ ih
      unfold putAt
      by_cases e : p.1 = k
      · rw [if_pos e, if_pos (h.1.symm.trans e)]; exact ⟨h.1, h.2.1, rv⟩
      · rw [if_neg e, if_neg (fun z => e (h.1.trans z))]; exact h
  · exact Paired.snoc r ⟨rfl, rfl, rv⟩
theorem pairs_kv {xs : List (NestedKey × Addr × V)} {ys : List (NestedKey × Addr × Value)} (r : Paired RXY xs ys) : L2.KV (piX xs) (pairsH ys) := by
  unfold L2.KV pairsH piX
  induction r with
  | nil => exact .nil
  | cons h t ih => exact .cons ⟨h.1, h.2.2⟩ ih
section
variable {K : PySem.W.Frag} {ca : Ca} {m : List Addr} {H : Hp}
theorem DR.kr {kvs : List (NestedKey × PV)} {xs : List (NestedKey × Addr × V)} (r : DR K ca H m kvs xs) : KR K ca H m kvs (piX xs) := by
  unfold DR at r
  unfold KR piX
  induction r with
  | nil => exact .nil
  | cons h t ih => exact .cons ⟨h.1, h.2.2⟩ ih
theorem DR.keys {kvs : List (NestedKey × PV)} {xs : List (NestedKey × Addr × V)} (r : DR K ca H m kvs xs) : ∀ x ∈ xs, NkV K H x.1 (.ref x.2.1) ∧ x.1.depth ≤ 8 := by
  unfold DR at r
  induction r with
  | nil => intro x hx; exact nomatch hx
  | cons h t ih =>
    intro x hx
    rcases List.mem_cons.mp hx with e | hx
    · subst e
      rw [← h.1]
      exact h.2.1
    · exact ih x hx
theorem DR.len {kvs : List (NestedKey × PV)} {xs : List (NestedKey × Addr × V)} (r : DR K ca H m kvs xs) : kvs.length = xs.length := Paired.length r
theorem DR.put {kvs : List (NestedKey × PV)} {xs : List (NestedKey × Addr × V)} (r : DR K ca H m kvs xs) {k : NestedKey} {b : Addr} (hk : NkV K H k (.ref b) ∧ k.depth ≤ 8) {v : PV} {w : V} (rv : VR K ca H m v w) : DR K ca H m (putD kvs k v) (storedX xs k b w) := by
  have ea : (kvs.any fun kv => decide (kv.1 = k)) = xs.any fun x => decide (x.1 = k) := by
    clear rv
    unfold DR at r
    induction r with
    | nil => rfl
    | cons h t ih => rw [List.any_cons, List.any_cons, ih, h.1]
  unfold putD storedX
  rw [ea]
  split
  · clear ea
    unfold DR at r ⊢
    induction r with
    | nil => exact .nil
    | @cons p q ps qs h t ih =>
      rename_i hh
      rw [List.map_cons, List.map_cons]
      refine .cons ?_ (by
        clear hh
        clear ih
        clear h
        induction t with
        | nil => exact .nil
        | @cons p q ps qs h t ih =>
          rw [List.map_cons, List.map_cons]
          refine .cons ?_ ih
          by_cases e : p.1 = k
          · rw [if_pos e, if_pos (h.1.symm.trans e)]; exact ⟨h.1, h.2.1, rv⟩
          · rw [if_neg e, if_neg (fun z => e (h.1.trans z))]; exact h)
      by_cases e : p.1 = k
      · rw [if_pos e, if_pos (h.1.symm.trans e)]; exact ⟨h.1, h.2.1, rv⟩
      · rw [if_neg e, if_neg (fun z => e (h.1.trans z))]; exact h
  · exact Paired.snoc r ⟨rfl, hk, rv⟩
mutual
theorem keyN_ok : ∀ {x : PV} {v : V} {k : NestedKey}, VR K ca H m x v → keyN x = some k → NkV K H k v
  | _, _, _, .non, e => by simp only [keyN, Option.some.injEq] at e; subst e; exact .non
  | _, _, _, .int i, e => by simp only [keyN, Option.some.injEq] at e; subst e; exact .int i
  | _, _, _, .str x, e => by simp only [keyN, Option.some.injEq] at e; subst e; exact .str x
  | _, _, k, .tup h r, e => by
    simp only [keyN] at e
    split at e
    · rename_i ks hk
      cases e
      obtain ⟨h1, h2⟩ := keyNs_ok r hk
      exact .tup h h1 h2
    · cases e
  | _, _, _, .bl _, e => by simp only [keyN, reduceCtorEq] at e
  | _, _, _, .ty _, e => by simp only [keyN, reduceCtorEq] at e
  | _, _, _, .cls _, e => by simp only [keyN, reduceCtorEq] at e
  | _, _, _, .exc _, e => by simp only [keyN, reduceCtorEq] at e
  | _, _, _, .ref _, e => by simp only [keyN, reduceCtorEq] at e
  | _, _, _, .frz _ _, e => by simp only [keyN, reduceCtorEq] at e
theorem keyNs_ok : ∀ {xs : List PV} {vs : List V} {ks : List NestedKey}, VRs K ca H m xs vs → keyNs xs = some ks → ks.length = vs.length ∧ ∀ (i : Nat) k v, ks[i]? = some k → vs[i]? = some v → NkV K H k v
  | _, _, _, .nil, e => by simp only [keyNs, Option.some.injEq] at e; subst e; exact ⟨rfl, fun i k v h => by simp at h⟩
  | _, _, _, .cons h r, e => by
    simp only [keyNs] at e
    split at e
    · rename_i k ks h1 h2
      cases e
      obtain ⟨g1, g2⟩ := keyNs_ok r h2
      have g0 := keyN_ok h h1
      refine ⟨by rw [List.length_cons, List.length_cons, g1], fun i k' v' a b => ?_⟩
      cases i with
      | zero => simp at a b; subst a b; exact g0
      | succ i => exact g2 i k' v' (by simpa using a) (by simpa using b)
    · cases e
end
theorem keyT_ok {x : PV} {v : V} {k : NestedKey} (r : VR K ca H m x v) (e : keyT x = some k) : ∃ b, v = .ref b ∧ NkV K H k (.ref b) ∧ k.depth ≤ 8 := by
  unfold keyT at e
  split at e
  · rename_i xs
    split at e
    · rename_i ks hk
      split at e
      · rename_i hd
        cases e
        have q := keyN_ok r (by simp only [keyN]; rw [hk])
        cases r
        exact ⟨_, rfl, q, hd⟩
      · cases e
    · cases e
  · cases e
theorem keyK_ok {x : PV} {v : V} {k : Key} (r : VR K ca H m x v) (e : keyK x = some k) : v = kV k := by
  cases r with
  | int i => simp only [keyK, Option.some.injEq] at e; subst e; rfl
  | str i => simp only [keyK, Option.some.injEq] at e; subst e; rfl
  | _ => cases e
end
/-! ### in the state -/
theorem nall {h : Heap} : ∀ {ks : List NestedKey} {us : List Value}, ks.length = us.length → (∀ (i : Nat) k u, ks[i]? = some k → us[i]? = some u → NestedIs h k u) → NestedAll h ks us
  | [], [], _, _ => .nil
  | [], _ :: _, e, _ => by cases e
  | _ :: _, [], e, _ => by cases e
  | k :: ks, u :: us, e, h => .cons (h 0 k u rfl rfl) (nall (by simpa using e) fun i k u a b => h (i + 1) k u (by simpa using a) (by simpa using b))
section
variable {X : Cx} {pins : List (Addr × Obj)} {σ : L2.St} {H : Hp} {s : Shared} {a b : Addr} {A : Around} {E : Value → Shared → Prop} {w : World} {xs : List (NestedKey × Addr × V)} {k : NestedKey}
theorem nk_is (I : Inv X pins σ H s) {v : V} (n : NkV X.K H k v) : ∀ {u : Value}, RelV v u → NestedIs s.heap k u := by
  induction n with
  | non => intro u r; cases (show u = Value.none from r); exact .none
  | int i => intro u r; obtain ⟨t, rfl⟩ := (show ∃ t, u = Value.int i t from r); exact .int i t
  | str x => intro u r; obtain ⟨t, rfl⟩ := (show ∃ t, u = Value.str x t from r); exact .text x t
  | @tup ks a vs h hn r ih =>
    intro u ru
    cases (show u = Value.ref a from ru)
    obtain ⟨its, rv, ⟨o, h1, h2, n, h3⟩, hz⟩ := I.tuple h
    refine .tup h1 h2 h3 ?_
    rw [List.toList_toArray]
    refine nall (by rw [hn, rv.length]) fun i k u e1 e2 => ?_
    have hi : i < vs.length := by rw [← hn]; exact (List.getElem?_eq_some_iff.mp e1).1
    obtain ⟨u', q1, q2⟩ := rv.get (List.getElem?_eq_getElem hi)
    rw [e2] at q1
    cases q1
    exact ih i k _ e1 (List.getElem?_eq_getElem hi) q2
theorem nk_at (I : Inv X pins σ H s) (n : NkV X.K H k (.ref b) ∧ k.depth ≤ 8) : (nestedKind X.prog X.w).is s.heap k b := ⟨nk_is I n.1 rfl, n.2⟩
theorem dn_at (I : Inv X pins σ H s) (hw : w = X.w) (e : H a = some (.ext (DnOk w a xs))) (hk : ∀ x ∈ xs, NkV X.K H x.1 (.ref x.2.1) ∧ x.1.depth ≤ 8) :
    xs.length ≤ sizeLine ∧ (a == sysModules) = false ∧ ∃ ys, Paired RXY xs ys ∧ s.heap.DictOfH (nestedKind X.prog X.w) a ys := by
  subst hw
  obtain ⟨⟨h1, h2, ys, r, o, es, ep, e1, e2, e3, e4, e5⟩, _, _⟩ := (show ObjOk X.prog X.w H s.heap a (.ext (DnOk X.w a xs)) from I.hok a _ e)
  refine ⟨h1, h2, ys, r, o, es, ep, e1, e2, e3, e4, fun y hy => ?_, e5⟩
  have all : ∀ {l : List (NestedKey × Addr × V)} {l' : List (NestedKey × Addr × Value)}, Paired RXY l l' → (∀ x ∈ l, NkV X.K H x.1 (.ref x.2.1) ∧ x.1.depth ≤ 8) → ∀ y ∈ l', NkV X.K H y.1 (.ref y.2.1) ∧ y.1.depth ≤ 8 := by
    intro l l' q
    induction q with
    | nil => intro _ y hy; exact nomatch hy
    | @cons p q ps qs h t ih =>
      intro hl y hy
      rcases List.mem_cons.mp hy with z | hy
      · subst z
        have := hl p List.mem_cons_self
        rw [h.1, h.2.1] at this
        exact this
      · exact ih (fun x hx => hl x (List.mem_cons_of_mem _ hx)) y hy
  exact nk_at I (all r hk y hy)
theorem dn_ok {h : Heap} {H' : Hp} {ys : List (NestedKey × Addr × Value)} (hz : xs.length ≤ sizeLine) (hd : (a == sysModules) = false) (r : Paired RXY xs ys) (dd : h.DictOfH (nestedKind X.prog X.w) a ys) : ObjOk X.prog X.w H' h a (.ext (DnOk X.w a xs)) := by
  obtain ⟨o, es, ep, e1, e2, e3, e4, _, e5⟩ := dd
  refine ⟨⟨hz, hd, ys, r, o, es, ep, e1, e2, e3, e4, e5⟩, ⟨o, e1⟩, fun h1 h2 p q => ?_⟩
  obtain ⟨g1, g2, ys', r', o', es', ep', f1, f2⟩ := p
  exact ⟨g1, g2, ys', r', o', es', ep', q _ f1, f2⟩
/-- what stands at a key of a dict, whatever its kind -/
def DAt (X : Cx) (H : Hp) (a : Addr) (y : V) (o : Option V) : Prop :=
  (∃ kvs k, H a = some (.dK kvs) ∧ y = kV k ∧ o = valV kvs k) ∨
    ∃ xs k b, H a = some (.ext (DnOk X.w a xs)) ∧ (∀ x ∈ xs, NkV X.K H x.1 (.ref x.2.1) ∧ x.1.depth ≤ 8) ∧ y = .ref b ∧ (NkV X.K H k (.ref b) ∧ k.depth ≤ 8) ∧ o = valV (piX xs) k
variable {y : V} {o : Option V} {u : Value}
theorem da_in {Q : Value → Shared → Prop} (hu : A.units + 65 < cLine) (I : Inv X pins σ H s) (g : DAt X H a y o) (ry : RelV y u) (h : ∀ s', Inv X pins σ H s' → Q (.bool o.isSome) s') : wpAny (model X.prog X.w) A (compareOp .In u (.ref a)) Q E s := by
  rcases g with ⟨kvs, k, e, ey, l⟩ | ⟨xs, k, b, e, hk, ey, hb, l⟩
  · exact d_in (by omega) I (.inl ⟨kvs, k, .inl e, ey, l⟩) ry h
  · subst ey
    cases (show u = Value.ref b from ry)
    obtain ⟨z, hd, ys, rel, dd⟩ := dn_at I rfl e hk
    refine in_keyed (knd := nestedKind X.prog X.w) (show A.units + 1 + 8 < cLine by omega) (nk_at I hb) hd ⟨ys, dd, rfl⟩ ?_
    rw [← ((pairs_kv rel).val k).isSome_eq, ← l]
    exact h _ (I.tok _)
theorem da_notin {Q : Value → Shared → Prop} (hu : A.units + 65 < cLine) (I : Inv X pins σ H s) (g : DAt X H a y o) (ry : RelV y u) (h : ∀ s', Inv X pins σ H s' → Q (.bool (!o.isSome)) s') : wpAny (model X.prog X.w) A (compareOp .NotIn u (.ref a)) Q E s := by
  rcases g with ⟨kvs, k, e, ey, l⟩ | ⟨xs, k, b, e, hk, ey, hb, l⟩
  · exact d_notIn (by omega) I (.inl ⟨kvs, k, .inl e, ey, l⟩) ry h
  · subst ey
    cases (show u = Value.ref b from ry)
    obtain ⟨z, hd, ys, rel, dd⟩ := dn_at I rfl e hk
    refine notIn_keyed (knd := nestedKind X.prog X.w) (show A.units + 1 + 8 < cLine by omega) (nk_at I hb) hd ⟨ys, dd, rfl⟩ ?_
    rw [← ((pairs_kv rel).val k).isSome_eq, ← l]
    exact h _ (I.tok _)
theorem da_get {v : V} {Q : Value → Shared → Prop} (hu : A.units + 65 < cLine) (I : Inv X pins σ H s) (g : DAt X H a y (some v)) (ry : RelV y u) (h : ∀ w' s', Inv X pins σ H s' → RelV v w' → Q w' s') : wpAny (model X.prog X.w) A (getItem (.ref a) u) Q E s := by
  rcases g with ⟨kvs, k, e, ey, l⟩ | ⟨xs, k, b, e, hk, ey, hb, l⟩
  · exact d_getItem (by omega) I (.inl ⟨kvs, k, .inl e, ey, l⟩) ry h
  · subst ey
    cases (show u = Value.ref b from ry)
    obtain ⟨z, hd, ys, rel, dd⟩ := dn_at I rfl e hk
    obtain ⟨w', hw, rw'⟩ := RelO.some_of (v := v) (o := valueAt (pairsH ys) k) (by rw [l]; exact (pairs_kv rel).val k)
    exact getItem_keyed (knd := nestedKind X.prog X.w) (show A.units + 1 + 8 < cLine by omega) (nk_at I hb) ⟨ys, dd, rfl⟩ hw (h w' _ (I.tok _) rw')
theorem da_get1 {Q : Value → Shared → Prop} (hu : A.units + 65 < cLine) (I : Inv X pins σ H s) (g : DAt X H a y o) (ry : RelV y u) (h : ∀ w' s', Inv X pins σ H s' → RelV (o.getD .non) w' → Q w' s') : wpAny (model X.prog X.w) A (call (.builtin "dict.get") [.ref a, u]) Q E s := by
  rcases g with ⟨kvs, k, e, ey, l⟩ | ⟨xs, k, b, e, hk, ey, hb, l⟩
  · exact d_get1 (by omega) I (.inl ⟨kvs, k, .inl e, ey, l⟩) ry h
  · subst ey
    cases (show u = Value.ref b from ry)
    obtain ⟨z, hd, ys, rel, dd⟩ := dn_at I rfl e hk
    refine get_keyed (knd := nestedKind X.prog X.w) (show A.units + 1 + 8 < cLine by omega) (nk_at I hb) hd ⟨ys, dd, rfl⟩ (h _ _ (I.tok _) ?_)
    rw [l]
    exact ((pairs_kv rel).val k).getD rfl
theorem da_get2 {d : V} {r : Value} {Q : Value → Shared → Prop} (hu : A.units + 65 < cLine) (I : Inv X pins σ H s) (g : DAt X H a y o) (ry : RelV y u) (rd : RelV d r) (h : ∀ w' s', Inv X pins σ H s' → RelV (o.getD d) w' → Q w' s') : wpAny (model X.prog X.w) A (call (.builtin "dict.get") [.ref a, u, r]) Q E s := by
  rcases g with ⟨kvs, k, e, ey, l⟩ | ⟨xs, k, b, e, hk, ey, hb, l⟩
  · exact d_get2 (by omega) I (.inl ⟨kvs, k, .inl e, ey, l⟩) ry rd h
  · subst ey
    cases (show u = Value.ref b from ry)
    obtain ⟨z, hd, ys, rel, dd⟩ := dn_at I rfl e hk
    refine getOr_keyed (knd := nestedKind X.prog X.w) (show A.units + 1 + 8 < cLine by omega) (nk_at I hb) hd ⟨ys, dd, rfl⟩ (h _ _ (I.tok _) ?_)
    rw [l]
    exact ((pairs_kv rel).val k).getD rd
/-- what a store makes of the heap -/
def DTo (X : Cx) (H : Hp) (a : Addr) (y v : V) (H' : Hp) : Prop :=
  (∃ kvs k, H a = some (.dK kvs) ∧ y = kV k ∧ kvs.length < sizeLine ∧ H' = upd H a (.dK (putK kvs k v))) ∨
    ∃ xs k b, H a = some (.ext (DnOk X.w a xs)) ∧ (∀ x ∈ xs, NkV X.K H x.1 (.ref x.2.1) ∧ x.1.depth ≤ 8) ∧ y = .ref b ∧ (NkV X.K H k (.ref b) ∧ k.depth ≤ 8) ∧ xs.length < sizeLine ∧ H' = upd H a (.ext (DnOk X.w a (storedX xs k b v)))
theorem da_set {v : V} {r : Value} {H' : Hp} {Q : Unit → Shared → Prop} (hu : A.units + 65 < cLine) (I : Inv X pins σ H s) (g : DTo X H a y v H') (ry : RelV y u) (rv : RelV v r) (h : ∀ s', Inv X pins σ H' s' → Q () s') : wpAny (model X.prog X.w) A (setItem (.ref a) u r) Q E s := by
  rcases g with ⟨kvs, k, e, ey, l, eH⟩ | ⟨xs, k, b, e, hk, ey, hb, l, eH⟩
  · exact d_setItem (by omega) I (.inl ⟨kvs, k, e, ey, l, eH⟩) ry rv h
  · subst ey eH
    cases (show u = Value.ref b from ry)
    obtain ⟨z, hd, ys, rel, dd⟩ := dn_at I rfl e hk
    have hz : ys.length ≤ sizeLine := by rw [← Paired.length rel]; exact z
    have hl : (storedX xs k b v).length ≤ sizeLine := by have := length_storedX xs k b v; omega
    refine wpAny_setItem_heap (knd := nestedKind X.prog X.w) (hsz := hz) (show A.units + 1 + 8 < cLine by omega) (nk_at I hb) dd fun h' dd' hs => h _ ?_
    have he : ∃ q, h'.get? a = some q := let ⟨q, _, _, hq, _⟩ := dd'; ⟨q, hq⟩
    exact d_write I (by rw [e]; exact True.intro) hs he (dn_ok hl hd (stored_rel rel k b rv) dd')
end
/-! ### rules -/
def dinB (x y : PV) (st : Store) : Option Bool := match y with
  | .ref n => match st[n]? with
    | some (.dK kvs) => (keyK x).map fun k => (valP kvs k).isSome
    | some (.dN kvs) => (keyT x).map fun k => (valP kvs k).isSome
    | _ => none
  | _ => none
def dinV (x y : PV) (st : Store) : O PV := (dinB x y st).map fun b => (.bl b, st)
def dninV (x y : PV) (st : Store) : O PV := (dinB x y st).map fun b => (.bl (!b), st)
/-- what stands at a key, if it can be asked -/
def dlook (x : PV) (y : PV) (st : Store) : Option (Option PV) := match x with
  | .ref n => match st[n]? with
    | some (.dK kvs) => (keyK y).map fun k => valP kvs k
    | some (.dN kvs) => (keyT y).map fun k => valP kvs k
    | _ => none
  | _ => none
def dgetV (x y : PV) (st : Store) : O PV := match dlook x y st with
  | some (some v) => some (v, st)
  | _ => none
def dput (o i v : PV) (st : Store) : Option Store := match o with
  | .ref n => match st[n]? with
    | some (.dK kvs) => match keyK i with
      | some k => if kvs.length < sizeLine then some (st.set n (.dK (putD kvs k v))) else none
      | none => none
    | some (.dN kvs) => match keyT i with
      | some k => if kvs.length < sizeLine then some (st.set n (.dN (putD kvs k v))) else none
      | none => none
    | _ => none
  | _ => none
section
variable {X : Cx} {W : WX} {ca : Ca}
theorem dlook_ok {H : Hp} {m : List Addr} {st : Store} {x y : PV} {x' y' : V} {o : Option PV} (hw : ca.w = X.w) (s : SR X.K ca H m st) (rx : VR X.K ca H m x x') (ry : VR X.K ca H m y y') (e : dlook x y st = some o) :
    ∃ a o', x' = .ref a ∧ DAt X H a y' o' ∧ (o = none → o' = none) ∧ (∀ v, o = some v → ∃ w, o' = some w ∧ VR X.K ca H m v w) ∧ o.isSome = o'.isSome := by
  unfold dlook at e
  split at e
  · cases rx with
    | ref hn =>
      split at e
      · rename_i kvs hx
        obtain ⟨k, hk, rfl⟩ := Option.map_eq_some_iff.mp e
        obtain ⟨ws, e1, r1⟩ := s.at hx hn
        exact ⟨_, valV ws k, rfl, .inl ⟨ws, k, e1, keyK_ok ry hk, rfl⟩, (r1.val k).1, (r1.val k).2, r1.isSome k⟩
      · rename_i kvs hx
        obtain ⟨k, hk, rfl⟩ := Option.map_eq_some_iff.mp e
        obtain ⟨xs, e1, r1⟩ := s.at hx hn
        rw [hw] at e1
        obtain ⟨b, hb, hn2⟩ := keyT_ok ry hk
        exact ⟨_, valV (piX xs) k, rfl, .inr ⟨xs, k, b, e1, r1.keys, hb, hn2, rfl⟩, (r1.kr.val k).1, (r1.kr.val k).2, r1.kr.isSome k⟩
      · cases e
  · cases e
theorem dinB_look {x y : PV} {st : Store} {b : Bool} (e : dinB x y st = some b) : ∃ o, dlook y x st = some o ∧ b = o.isSome := by
  unfold dinB at e
  unfold dlook
  split at e
  · split at e
    · rename_i h
      obtain ⟨k, hk, rfl⟩ := Option.map_eq_some_iff.mp e
      simp only [h, hk, Option.map_some]
      exact ⟨_, rfl, rfl⟩
    · rename_i h
      obtain ⟨k, hk, rfl⟩ := Option.map_eq_some_iff.mp e
      simp only [h, hk, Option.map_some]
      exact ⟨_, rfl, rfl⟩
    · cases e
  · cases e
theorem of_din (hu : X.A.units + 65 < cLine) (hw : ca.w = X.w := by rfl) : OpF X ca (compareOp .In) dinV := by
  refine ⟨fun x y H Q => ∃ a o, y = .ref a ∧ DAt X H a x o ∧ Q (.bl o.isSome) H, fun pins s σ H x y v u Q I rx ry ⟨a, o, ey, g, q⟩ => ?_, fun H m st x y x' y' Q s rx ry p => ?_⟩
  · subst ey
    cases (show u = Value.ref a from ry)
    exact da_in hu I g rx fun s' I' => ⟨.bl o.isSome, H, I', rfl, q⟩
  · unfold dinV at p
    cases e : dinB x y st with
    | none => rw [e] at p; exact p.elim
    | some b =>
      rw [e] at p
      obtain ⟨o, h1, rfl⟩ := dinB_look e
      obtain ⟨a, o', h2, h3, _, _, h4⟩ := dlook_ok hw s ry rx h1
      exact ⟨a, o', h2, h3, by rw [← h4]; exact p.val s (.bl _)⟩
theorem of_dnin (hu : X.A.units + 65 < cLine) (hw : ca.w = X.w := by rfl) : OpF X ca (compareOp .NotIn) dninV := by
  refine ⟨fun x y H Q => ∃ a o, y = .ref a ∧ DAt X H a x o ∧ Q (.bl (!o.isSome)) H, fun pins s σ H x y v u Q I rx ry ⟨a, o, ey, g, q⟩ => ?_, fun H m st x y x' y' Q s rx ry p => ?_⟩
  · subst ey
    cases (show u = Value.ref a from ry)
    exact da_notin hu I g rx fun s' I' => ⟨.bl (!o.isSome), H, I', rfl, q⟩
  · unfold dninV at p
    cases e : dinB x y st with
    | none => rw [e] at p; exact p.elim
    | some b =>
      rw [e] at p
      obtain ⟨o, h1, rfl⟩ := dinB_look e
      obtain ⟨a, o', h2, h3, _, _, h4⟩ := dlook_ok hw s ry rx h1
      exact ⟨a, o', h2, h3, by rw [← h4]; exact p.val s (.bl _)⟩
theorem dict_ty {X : Cx} {pins : List (Addr × Obj)} {σ : L2.St} {H : Hp} {s : Shared} {a : Addr} {y : V} {o : Option V} (I : Inv X pins σ H s) (g : DAt X H a y o) : s.TypeIs (.ref a) "dict" ∧ ∃ ob, s.heap.get? a = some ob ∧ ob.dict = none := by
  rcases g with ⟨kvs, k, e, _, _⟩ | ⟨xs, k, b, e, hk, _⟩
  · obtain ⟨_, _, vs, _, ob, _, _, h1, h2, _⟩ := dk_of I.hok e
    exact ⟨⟨ob, h1, h2.1⟩, ob, h1, h2.2.1⟩
  · obtain ⟨_, _, ys, _, ob, _, _, h1, h2, _⟩ := dn_at I rfl e hk
    exact ⟨⟨ob, h1, h2.1⟩, ob, h1, h2.2.1⟩
theorem ix_dict (hu : X.A.units + 65 < cLine) (hw : ca.w = X.w := by rfl) : IxF X ca dgetV := by
  refine ⟨fun x y H Q => ∃ a v, x = .ref a ∧ DAt X H a y (some v) ∧ Q v H, fun value slice pins s σ H x y v u Q I rx ry ⟨a, w, ex, g, q⟩ hs => ?_, fun H m st x y x' y' Q s rx ry p => ?_⟩
  · subst ex
    cases (show v = Value.ref a from rx)
    have hT := (dict_ty I g).1
    unfold subscriptTail
    refine wpAny_bind ?_
    rw [getitemInPython_of_ne hT.not_modules]
    refine wpAny_bind (wpAny_specialOf hT PySem.F.slot_dict_getitem.lookup ?_)
    have fin : wpAny (model X.prog X.w) X.A (subscripted slice false (.ref a) u) (fun r s₃ => wpAny (model X.prog X.w) X.A (letTemporaryGo value (.ref a) r >>= fun _ => pure r) (EP X pins σ Q) X.xe s₃) X.xe s := by
      rw [hs]
      exact wpAny_operating (da_get hu I g ry fun w' s3 I3 rw' => wpAny_bind (wpAny_letTemporaryGo (wpAny_pure ⟨w, H, I3, rw', q⟩)))
    first
      | exact wpAny_pure (wpAny_bind fin)
      | exact wpAny_bind (wpAny_pure (wpAny_bind fin))
      | exact wpAny_bind fin
  · unfold dgetV at p
    split at p
    · rename_i v hv
      obtain ⟨a, o', h2, h3, _, h4, _⟩ := dlook_ok hw s rx ry hv
      obtain ⟨w, rfl, rw'⟩ := h4 v rfl
      exact ⟨a, w, h2, h3, p.val s rw'⟩
    · exact p.elim
theorem sf_dict (hu : X.A.units + 65 < cLine) (hw : ca.w = X.w := by rfl) : SetF X ca dput := by
  refine ⟨fun o i v H Q => ∃ a H', o = .ref a ∧ DTo X H a i v H' ∧ Q H', fun pins s σ H o i v ov iv u Q I ro ri rv ⟨a, H', eo, g, q⟩ => ?_, fun H m st o i v o' i' v' st' Q s ro ri rv e q => ?_⟩
  · subst eo
    cases (show ov = Value.ref a from ro)
    exact da_set hu I g ri rv fun s' I' => ⟨H', I', q⟩
  · unfold dput at e
    split at e
    · cases ro with
      | ref hn =>
        rename_i adr
        split at e
        · rename_i kvs hx
          obtain ⟨ws, e1, r1⟩ := s.at hx hn
          split at e
          · rename_i k hk
            split at e
            · rename_i hl
              cases e
              have kk := Keep.upd (K := X.K) (o := .dK (putK ws k v')) e1 (fun _ z => nomatch z) (fun _ _ z => nomatch z)
              exact ⟨_, _, rfl, .inl ⟨ws, k, e1, keyK_ok ri hk, by rw [← r1.len']; exact hl, rfl⟩, q _ kk (s.set hn e1 (fun _ z => nomatch z) (fun _ _ z => nomatch z) ⟨_, upd_same, (r1.putD k rv).mono (List.prefix_refl _) kk⟩)⟩
            · cases e
          · cases e
        · rename_i kvs hx
          obtain ⟨xs, e1, r1⟩ := s.at hx hn
          rw [hw] at e1
          split at e
          · rename_i k hk
            obtain ⟨b, hb, hn2⟩ := keyT_ok ri hk
            split at e
            · rename_i hl
              cases e
              have kk := Keep.upd (K := X.K) (o := .ext (DnOk X.w adr (storedX xs k b v'))) e1 (fun _ z => nomatch z) (fun _ _ z => nomatch z)
              exact ⟨_, _, rfl, .inr ⟨xs, k, b, e1, r1.keys, hb, hn2, by rw [← r1.len]; exact hl, rfl⟩, q _ kk (s.set hn e1 (fun _ z => nomatch z) (fun _ _ z => nomatch z) ⟨_, by rw [hw]; exact upd_same, (r1.put hn2 rv).mono (List.prefix_refl _) kk⟩)⟩
            · cases e
          · cases e
        · cases e
    · cases e
/-! ### {} -/
def newDK : FE := fun _ st => .ok (.ref st.length) (st ++ [.dK []])
def newDN : FE := fun _ st => .ok (.ref st.length) (st ++ [.dN []])
theorem je_newDK {pos : Pos} : JE X W ca (.Dict [] [] pos) newDK := ⟨_, pe_dnewK, fun σ H m env st Q s e h p hp => by
  have kk := Keep.new (K := X.K) (o := .dK []) hp
  exact h (m ++ [p]) _ _ (List.prefix_append _ _) kk (s.new hp ⟨[], upd_same, .nil⟩) (.ref (by rw [← s.len, List.getElem?_append_right (Nat.le_refl _), Nat.sub_self]; rfl))⟩
theorem je_newDN {pos : Pos} (hw : ca.w = X.w := by rfl) : JE X W ca (.Dict [] [] pos) newDN := by
  refine ⟨fun σ H Q => ∀ p, H p = none → Q (.ref p) (upd H p (.ext (DnOk X.w p []))), ⟨fun pins s σ H Q I h => ?_⟩, fun σ H m env st Q s e h p hp => ?_⟩
  · refine wpAny_Dict_empty ⟨.ref s.heap.objs.size, _, I.laid (a := s.heap.objs.size) (o := .ext (DnOk X.w s.heap.objs.size [])) (t' := s.toks) (fun _ _ q => Heap.get?_push_of_some _ q) (Nat.le_refl _) ?_, rfl, h _ (I.hok.fresh (Nat.le_refl _))⟩
    exact dn_ok (X := X) (Nat.zero_le _) (beq_eq_false_iff_ne.mpr (Ne.symm (Nat.ne_of_lt I.big))) .nil (Heap.DictOfH.new s.heap)
  · have kk := Keep.new (K := X.K) (o := .ext (DnOk X.w p [])) hp
    exact h (m ++ [p]) _ _ (List.prefix_append _ _) kk (s.new hp ⟨[], by rw [hw]; exact upd_same, .nil⟩) (.ref (by rw [← s.len, List.getElem?_append_right (Nat.le_refl _), Nat.sub_self]; rfl))
end
end
end FL
end
section
set_option linter.all false
set_option maxRecDepth 100000
namespace FL
open PySem PySem.Spec PyProof.Rows L2
noncomputable section
/-! ## exceptions -/
/-- the class c stands under d: all own classes stand under the one head -/
def isEx (c d : String) : Bool := c == d || d == "SameError"
structure XFacts (K : PySem.W.Frag) (ca : Ca) (XN : List String × List String) : Prop where
  ex : ∀ c ∈ XN.1, ExcC K (ca c)
  kit : ∀ c ∈ XN.1, ∀ d ∈ XN.2, PySem.W.kitOne K (.ref (ca c)) (.ref (ca d)) = some (isEx c d)
  ve : ∀ c ∈ XN.1, PySem.W.kitOne K (.ref (ca c)) (.type "ValueError") = some true
  exm : ∀ c ∈ XN.1, ∀ d ∈ XN.2, PySem.W.exmOne K (.ref (ca c)) (.ref (ca d)) = some (isEx c d)
/-- while the exception at a, of class c, is handled -/
def Ca.at (ca : Ca) (a : Addr) (c : String) : Ca := ⟨ca.f, ca.w, some (a, c)⟩
mutual
def noX : PV → Bool
  | .exc _ => false
  | .tup xs => noXs xs
  | .frz xs => noXs xs
  | _ => true
def noXs : List PV → Bool
  | [] => true
  | x :: xs => noX x && noXs xs
end
section
variable {K : PySem.W.Frag} {ca : Ca} {m m' : List Addr} {H H' : Hp} {a : Addr} {c : String}
mutual
theorem VR.noX (h0 : ca.ex = none) : ∀ {x : PV} {v : V}, VR K ca H m x v → FL.noX x = true
  | _, _, .non => rfl
  | _, _, .bl b => rfl
  | _, _, .int i => rfl
  | _, _, .str x => rfl
  | _, _, .ty n => rfl
  | _, _, .cls n => rfl
  | _, _, .exc h => by rw [h0] at h; cases h
  | _, _, .ref h => rfl
  | _, _, .tup h r => by simp only [FL.noX]; exact VRs.noXs h0 r
  | _, _, .frz h r => by simp only [FL.noX]; exact VRs.noXs h0 r
theorem VRs.noXs (h0 : ca.ex = none) : ∀ {xs : List PV} {vs : List V}, VRs K ca H m xs vs → FL.noXs xs = true
  | _, _, .nil => rfl
  | _, _, .cons h r => by simp only [FL.noXs, Bool.and_eq_true]; exact ⟨VR.noX h0 h, VRs.noXs h0 r⟩
end
mutual
theorem VR.at (h0 : ca.ex = none) : ∀ {x : PV} {v : V}, VR K ca H m x v → VR K (ca.at a c) H m x v
  | _, _, .non => .non
  | _, _, .bl b => .bl b
  | _, _, .int i => .int i
  | _, _, .str x => .str x
  | _, _, .ty n => .ty n
  | _, _, .cls n => .cls (ca := ca.at a c) n
  | _, _, .exc h => by rw [h0] at h; cases h
  | _, _, .ref h => .ref h
  | _, _, .tup h r => .tup h (VRs.at h0 r)
  | _, _, .frz h r => .frz h (VRs.at h0 r)
theorem VRs.at (h0 : ca.ex = none) : ∀ {xs : List PV} {vs : List V}, VRs K ca H m xs vs → VRs K (ca.at a c) H m xs vs
  | _, _, .nil => .nil
  | _, _, .cons h r => .cons (VR.at h0 h) (VRs.at h0 r)
end
mutual
theorem VR.back : ∀ {x : PV} {v : V}, VR K (ca.at a c) H m x v → FL.noX x = true → VR K ca H m x v
  | _, _, .non, _ => .non
  | _, _, .bl b, _ => .bl b
  | _, _, .int i, _ => .int i
  | _, _, .str x, _ => .str x
  | _, _, .ty n, _ => .ty n
  | _, _, .cls n, _ => .cls (ca := ca) n
  | _, _, .exc h, e => by cases e
  | _, _, .ref h, _ => .ref h
  | _, _, .tup h r, e => .tup h (VRs.back r (by simpa only [FL.noX] using e))
  | _, _, .frz h r, e => .frz h (VRs.back r (by simpa only [FL.noX] using e))
theorem VRs.back : ∀ {xs : List PV} {vs : List V}, VRs K (ca.at a c) H m xs vs → FL.noXs xs = true → VRs K ca H m xs vs
  | _, _, .nil, _ => .nil
  | _, _, .cons h r, e => by
    simp only [FL.noXs, Bool.and_eq_true] at e
    exact .cons (VR.back h e.1) (VRs.back r e.2)
end
theorem KR.at {κ : Type} (h0 : ca.ex = none) {x : List (κ × PV)} {y : List (κ × V)} (h : KR K ca H m x y) : KR K (ca.at a c) H m x y := Paired.mapP h fun _ _ q => ⟨q.1, q.2.at h0⟩
theorem DR.at (h0 : ca.ex = none) {x : List (NestedKey × PV)} {y : List (NestedKey × Addr × V)} (h : DR K ca H m x y) : DR K (ca.at a c) H m x y := Paired.mapP h fun _ _ q => ⟨q.1, q.2.1, q.2.2.at h0⟩
theorem OR.at (h0 : ca.ex = none) {p : Addr} {o : PO} (h : OR K ca H m p o) : OR K (ca.at a c) H m p o := by
  cases o with
  | lst xs => obtain ⟨vs, q, r⟩ := h; exact ⟨vs, q, r.at h0⟩
  | dK kvs => obtain ⟨vs, q, r⟩ := h; exact ⟨vs, q, r.at h0⟩
  | dN kvs => obtain ⟨vs, q, r⟩ := h; exact ⟨vs, q, r.at h0⟩
  | ins c fs => obtain ⟨dx, vs, q, r⟩ := h; exact ⟨dx, vs, q, r.at h0⟩
theorem SR.at' (h0 : ca.ex = none) {st : Store} (h : SR K ca H m st) : SR K (ca.at a c) H m st := ⟨h.len, h.nd, fun n p o e f => (h.ob n p o e f).at h0⟩
theorem ER.at (h0 : ca.ex = none) {e : Env} {σ : L2.St} (h : ER K ca H m e σ) : ER K (ca.at a c) H m e σ := ⟨h.1, fun i v q => let ⟨w, x, y⟩ := h.2 i v q; ⟨w, x, y.at h0⟩⟩
theorem KR.back {κ : Type} {x : List (κ × PV)} {y y0 : List (κ × V)} (h0 : ca.ex = none) (g : KR K ca H' m' x y0) (h : KR K (ca.at a c) H m x y) : KR K ca H m x y := by
  unfold KR at g h ⊢
  induction h generalizing y0 with
  | nil => exact .nil
  | cons r t ih =>
    cases g with
    | cons r' t' => exact .cons ⟨r.1, r.2.back (r'.2.noX h0)⟩ (ih t')
theorem DR.back {x : List (NestedKey × PV)} {y y0 : List (NestedKey × Addr × V)} (h0 : ca.ex = none) (g : DR K ca H' m' x y0) (h : DR K (ca.at a c) H m x y) : DR K ca H m x y := by
  unfold DR at g h ⊢
  induction h generalizing y0 with
  | nil => exact .nil
  | cons r t ih =>
    cases g with
    | cons r' t' => exact .cons ⟨r.1, r.2.1, r.2.2.back (r'.2.2.noX h0)⟩ (ih t')
theorem OR.back (h0 : ca.ex = none) {p p0 : Addr} {o : PO} (g : OR K ca H' m' p0 o) (h : OR K (ca.at a c) H m p o) : OR K ca H m p o := by
  cases o with
  | lst xs => obtain ⟨vs, q, r⟩ := h; obtain ⟨_, _, r0⟩ := g; exact ⟨vs, q, r.back (r0.noXs h0)⟩
  | dK kvs => obtain ⟨vs, q, r⟩ := h; obtain ⟨_, _, r0⟩ := g; exact ⟨vs, q, KR.back h0 r0 r⟩
  | dN kvs => obtain ⟨vs, q, r⟩ := h; obtain ⟨_, _, r0⟩ := g; exact ⟨vs, q, DR.back h0 r0 r⟩
  | ins c fs => obtain ⟨dx, vs, q, r⟩ := h; obtain ⟨_, _, _, r0⟩ := g; exact ⟨dx, vs, q, KR.back h0 r0 r⟩
/-- the same store, behind a handler -/
theorem SR.back (h0 : ca.ex = none) {st : Store} (g : SR K ca H' m' st) (h : SR K (ca.at a c) H m st) : SR K ca H m st := by
  refine ⟨h.len, h.nd, fun n p o e f => ?_⟩
  obtain ⟨p0, _, q⟩ := g.get f
  exact OR.back h0 q (h.ob n p o e f)
end
/-! ### isinstance of what is handled -/
def namesOf : List PV → Option (List String)
  | [] => some []
  | .cls d :: r => (namesOf r).map fun l => d :: l
  | _ :: _ => none
def isEV (XN : List String × List String) (xs : List PV) (st : Store) : O PV := match xs with
  | [.exc c, .cls d] => if c ∈ XN.1 ∧ d ∈ XN.2 then some (.bl (isEx c d), st) else none
  | [.exc c, .ty n] => if c ∈ XN.1 ∧ n = "ValueError" then some (.bl true, st) else none
  | [.exc c, .tup ds] => match namesOf ds with
    | some l => if c ∈ XN.1 ∧ ∀ d ∈ l, d ∈ XN.2 then some (.bl (l.any fun d => isEx c d), st) else none
    | none => none
  | _ => none
/-- the context bears the exception that is handled -/
def Pinned (X : Cx) (ca : Ca) : Prop := ∀ a c, ca.ex = some (a, c) → ∃ oe, (a, oe) ∈ X.pn ∧ Zc (.ref (ca c)) none oe ∧ ∃ vs, oe.data = .fields vs
section
variable {X : Cx} {W : WX} {ca : Ca} {XN : List String × List String}
theorem inst_at {pins : List (Addr × Obj)} {σ : L2.St} {H : Hp} {s : Shared} {a : Addr} {oe : Obj} {D : Addr} (I : Inv X pins σ H s) (hp : (a, oe) ∈ X.pn) (hz : Zc (.ref D) none oe) (hf : ∃ vs, oe.data = .fields vs) : PySem.W.InstAt s.heap a oe D none := by
  obtain ⟨hget, _⟩ := I.pin (a, oe) (List.mem_append.mpr (.inl hp))
  obtain ⟨vs, hv⟩ := hf
  obtain ⟨oc, od, oda, osl⟩ := oe
  obtain ⟨h1, h2⟩ := hz
  dsimp only at h1 h2 hv
  subst h1 h2 hv
  exact ⟨hget, rfl, rfl, trivial⟩
theorem names_ok {K : PySem.W.Frag} {H : Hp} {m : List Addr} : ∀ {xs : List PV} {vs : List V} {l : List String}, VRs K ca H m xs vs → namesOf xs = some l → vs = l.map fun d => V.ref (ca d)
  | _, _, l, .nil, e => by simp only [namesOf, Option.some.injEq] at e; subst e; rfl
  | _, _, l, .cons h r, e => by
    cases h with
    | cls n =>
      simp only [namesOf] at e
      obtain ⟨l', e1, rfl⟩ := Option.map_eq_some_iff.mp e
      rw [names_ok r e1, List.map_cons]
    | _ => cases e
theorem kit_any {K : PySem.W.Frag} (hX : XFacts K ca XN) {c : String} (hc : c ∈ XN.1) : ∀ {l : List String}, (∀ d ∈ l, d ∈ XN.2) → PySem.W.kitAny K (.ref (ca c)) (l.map fun d => Value.ref (ca d)) = some (l.any fun d => isEx c d)
  | [], _ => rfl
  | d :: r, h => by
    have ih := kit_any hX hc (l := r) fun x hx => h x (List.mem_cons_of_mem _ hx)
    rw [List.map_cons]
    unfold PySem.W.kitAny
    rw [hX.kit c hc d (h d List.mem_cons_self), List.any_cons]
    cases isEx c d with
    | true => rfl
    | false => simpa using ih
theorem refs_of : ∀ {l : List String} {us : List Value}, Vals (l.map fun d => V.ref (ca d)) us → us = l.map fun d => Value.ref (ca d)
  | [], _, r => by cases r; rfl
  | d :: l, _, r => by
    rw [List.map_cons] at r
    cases r with
    | cons h t =>
      rw [refs_of t, List.map_cons]
      congr 1
theorem cb_isE (hX : XFacts X.K ca XN) (hP : Pinned X ca) : CbF X ca (.builtin "isinstance") (isEV XN) := by
  refine ⟨fun vs H Q => ∃ a c, ca.ex = some (a, c) ∧ c ∈ XN.1 ∧ ((∃ d, vs = [.ref a, .ref (ca d)] ∧ d ∈ XN.2 ∧ Q (.bl (isEx c d)) H) ∨ (vs = [.ref a, .ty "ValueError"] ∧ Q (.bl true) H) ∨
      (∃ (t : Addr) (l : List String), vs = [.ref a, .ref t] ∧ SqT X.K H t (l.map fun d => V.ref (ca d)) ∧ (∀ d ∈ l, d ∈ XN.2) ∧ Q (.bl (l.any fun d => isEx c d)) H)), fun pins s σ H vs us Q I r h => ?_, fun H m st xs vs Q s r p => ?_⟩
  · obtain ⟨a, c, he, hc, h⟩ := h
    obtain ⟨oe, hp, hz, hf⟩ := hP a c he
    have C := hX.ex c hc
    have J := inst_at I hp hz hf
    have Z := PySem.W.handS_kitx_exc (x := a) (ox := oe) C.hg C.hk C.hs C.hd C.ha C.hn C.ht C.hm
    rcases h with ⟨d, rfl, hd, q⟩ | ⟨rfl, q⟩ | ⟨t, l, rfl, hq, hl, q⟩
    · cases r with
      | cons r1 r => cases r with
        | cons r2 r =>
          cases r; cases r1; cases r2
          exact PySem.W.kia_one Z I.kIn J (hX.kit c hc d hd) (fun z => nomatch z) fun tk => ⟨.bl (isEx c d), H, I.kept (t' := tk) fun _ _ z => z, rfl, q⟩
    · cases r with
      | cons r1 r => cases r with
        | cons r2 r =>
          cases r; cases r1; cases r2
          exact PySem.W.kia_one Z I.kIn J (hX.ve c hc) (fun z => nomatch z) fun tk => ⟨.bl true, H, I.kept (t' := tk) fun _ _ z => z, rfl, q⟩
    · cases r with
      | cons r1 r => cases r with
        | cons r2 r =>
          cases r; cases r1; cases r2
          obtain ⟨its, rv, ⟨o, h1, h2, n, h3⟩, hz⟩ := I.tuple hq
          have e3 := refs_of rv
          subst e3
          obtain ⟨oc, od, dt, sl⟩ := o
          simp only at h2 h3
          subst h2 h3
          exact PySem.W.kia_tup Z I.kIn J h1 (kit_any hX hc hl) (fun z => nomatch z) fun tk => ⟨.bl (l.any fun d => isEx c d), H, I.kept (t' := tk) fun _ _ z => z, rfl, q⟩
  · unfold isEV at p
    split at p
    · obtain ⟨v, w, rfl, r1, r2⟩ := vrs2 r
      cases r1 with
      | exc he =>
        cases r2
        split at p
        · rename_i hh
          exact ⟨_, _, he, hh.1, .inl ⟨_, rfl, hh.2, p.val s (.bl _)⟩⟩
        · exact p.elim
    · obtain ⟨v, w, rfl, r1, r2⟩ := vrs2 r
      cases r1 with
      | exc he =>
        cases r2
        split at p
        · rename_i hh
          obtain ⟨h1, rfl⟩ := hh
          exact ⟨_, _, he, h1, .inr (.inl ⟨rfl, p.val s (.bl _)⟩)⟩
        · exact p.elim
    · obtain ⟨v, w, rfl, r1, r2⟩ := vrs2 r
      cases r1 with
      | exc he =>
        cases r2 with
        | tup hs rr =>
          split at p
          · rename_i l hl
            split at p
            · rename_i hh
              have e := names_ok rr hl
              subst e
              exact ⟨_, _, he, hh.1, .inr (.inr ⟨_, l, rfl, hs, hh.2, p.val s (.bl _)⟩)⟩
            · exact p.elim
          · exact p.elim
    · exact p.elim
/-! ### a def called while an exception is handled -/
structure FnP (P : Program) (w : World) (K : PySem.W.Frag) (mg : Str → Option Value) (base : Heap) (CX : CXT) (k : Nat) (f : Addr) (fd : FuncData) (ps : List Str) (sp : (Addr × Obj) → Sp) : Prop where
  len : ∀ p vs H Q E, sp p vs H Q E → vs.length = ps.length
  run : ∀ (A : Around) (outer : List PySem.Env) (s : Shared) (H : Hp) (args : Args) (us : List Value) (vs : List V) (Q : VK) (E : XK) (p : Addr × Obj), L2H.RoomH k A → L2H.PinOk outer H s p → Env0 P w K mg base A outer s H → BindsTo s fd args (ps.zip us) → Vals vs us → sp p vs H Q E →
    codeAny (model P w) A (.call (.ref f) args) (CR CX outer P w H s Q E) s
theorem fn_ofP {CX : CXT} {P : Program} {w : World} {K : PySem.W.Frag} {mg : Str → Option Value} {base : Heap} {k : Nat} {f : Addr} {name qual : Str} {params : Arguments} {body : List Stmt} {scope : Scope} {dV kV doc pm cdv ct oc : Value} {an od : Option Addr}
    {osl : Array (Option Value)} {N ps : List Str} {sp : (Addr × Obj) → Sp} (lk : K.lookup f = some ⟨oc, od, .func (PySem.W.fnOf name qual params body scope dV kV doc pm an cdv ct), osl⟩) (hcd : PySem.W.codeIn K cdv qual = true) (S : FnScope N ps scope)
    (len : ∀ p vs H Q E, sp p vs H Q E → vs.length = ps.length)
    (hbody : ∀ (A : Around) (outer : List PySem.Env) (s : Shared) (H : Hp) (vs : List V) (Q : VK) (E : XK) (p : Addr × Obj), L2H.RoomH k (A.deeper (envOfC qual scope s.heap.objs.size f cdv)) → sp p vs H Q E →
      ∃ t, PSs (L2H.cxH CX P w K mg base N qual scope f cdv A outer s H E p) body t ∧ t { nx := fun _ H' => Q .non H', rt := Q } (L2.start N vs) H) :
    FnP P w K mg base CX (k + 1) f (PySem.W.fnOf name qual params body scope dV kV doc pm an cdv ct) ps sp := by
  refine ⟨len, fun A outer s H args us vs Q E p hr hpin e0 hb r hsp => ?_⟩
  have hl := len _ _ _ _ _ hsp
  have KX : K.In s.heap := e0.mod.kin.keeps fun b o e => (e0.bs b o e).1
  have lim : s.heap.NoLimit := e0.mod.nolimit.keeps fun b o e => (e0.bs b o e).1
  have hkind : ∀ y ∈ ps.zip us, scope.names.lookup y.1 = some .local ∨ (scope.names.lookup y.1 = some .cell ∧ ((cellsFrom (s.heap.objs.size + 1) scope.names []).lookup y.1).isSome = true) := fun ⟨n, v⟩ hy => by
    rcases S.par n (List.of_mem_zip hy).1 with q | q
    · exact .inl q
    · exact .inr ⟨q, PySem.W.cellsFrom_some _ _ _ (.inl q)⟩
  refine codeAny_call_function hr.depth (KX _ _ lk) rfl S.co S.gen rfl (PySem.W.codeRec_of KX hcd) (hb _ _ _ _ ?_)
  refine wpAny_newFunctionEnv_cells S.kind hkind fun env he s1 x => ?_
  subst he
  refine ⟨lim.keeps x.toInCall.keep, codeAny_func ?_⟩
  obtain ⟨t, ht, hq⟩ := hbody A outer s H vs Q E p (hr.deeper _) hsp
  have I : Inv (L2H.cxH CX P w K mg base N qual scope f cdv A outer s H E p) [] (L2.start N vs) H s1 := L2H.inv_startH S hpin e0 hl r x
  refine wpAny_mono (ht.run [] s1 (L2.start N vs) H _ I hq) (fun fl s' hs => ?_) fun e s' hs => hs
  have fin : ∀ {σ' : L2.St} {H' : Hp} {v : V} {u : Value}, Inv (L2H.cxH CX P w K mg base N qual scope f cdv A outer s H E p) [] σ' H' s' → RelV v u → Q v H' → CE outer P w H s Q u s' :=
    fun {σ' H' v u} J rv q => ⟨v, H', J.os, J.bare, J.base, J.hok, rv, q⟩
  cases fl with
  | ret u =>
    obtain ⟨v, σ', H', J, rv, q⟩ := hs
    exact fin J rv q
  | next =>
    obtain ⟨σ', H', J, q⟩ := hs
    exact fin (v := V.non) (u := Value.none) J rfl q
  | brk =>
    obtain ⟨_, _, _, q⟩ := hs
    exact False.elim q
  | cont =>
    obtain ⟨_, _, _, q⟩ := hs
    exact False.elim q
theorem run_fnP {CX : CXT} {k : Nat} {f : Addr} {fd : FuncData} {ps : List Str} {sp : (Addr × Obj) → Sp} {E : L2.St → XK} {p : Addr × Obj} {pins : List (Addr × Obj)} {σ : L2.St} {H : Hp} {s : Shared} {Q : VK} {us : List Value} {vs : List V} (F : FnP X.prog X.w X.K X.mg X.base CX k f fd ps sp) (hr : L2H.RoomH k X.A) (hp : p ∈ X.pn) (hb : Binds X.K fd ps []) (hx : PassesAt CX X σ (E σ))
    (I : Inv X pins σ H s) (r : Vals vs us) (h : sp p vs H Q (E σ)) : wpAny (model X.prog X.w) X.A (call (.ref f) us) (EP X pins σ Q) X.xe s := by
  have hl : us.length = ps.length := by rw [← r.length]; exact F.len _ _ _ _ _ h
  have b := hb s us I.kIn (by rw [List.append_nil]; exact hl)
  rw [List.append_nil] at b
  have P1 := I.pin p (List.mem_append_left _ hp)
  have hpin : L2H.PinOk X.stack H s p := ⟨P1.1, P1.2.1, fun hm => (List.mem_cons.mp (I.stkSub p.1 hm)).elim P1.2.2.1 P1.2.2.2.1, P1.2.2.2.2⟩
  refine wpAny_call (codeAny_mono (F.run X.A X.stack s H ⟨us, []⟩ us vs Q (E σ) p hr hpin I.env0 b r h) fun r s' hq => ?_)
  cases r with
  | error e => exact hx pins H s e s' I hq
  | ok fl =>
    cases fl with
    | ret u => exact I.after hq
    | next => exact False.elim hq
    | brk => exact False.elim hq
    | cont => exact False.elim hq
/-- what such a def does -/
def spX (K : PySem.W.Frag) (ca : Ca) (n : Nat) (F : Fn) (p : Addr × Obj) : Sp := fun vs H Q E => ∃ c, (Zc (.ref (ca c)) none p.2 ∧ ∃ vs, p.2.data = .fields vs) ∧ spF K (ca.at p.1 c) n F vs H Q E
structure CalX (P : Program) (w : World) (K : PySem.W.Frag) (mg : Str → Option Value) (base : Heap) (ca : Ca) (k : Nat) (f : Addr) (fd : FuncData) (ps : List Str) (F : Fn) : Prop where
  ok : FnP P w K mg base (L2.CX P w) k f fd ps (spX K ca ps.length F)
  kp : PySem.W.keepIn K (.ref f) = true
theorem je_callX {k n : Nat} {f : Addr} {fd : FuncData} {ps : List Str} {F : Fn} {x : Str} {p pos : Pos} {e : Expr} {es : List Expr} {fa : FA} {a : Addr} {c : String} {oe : Obj} (tk : Takes X W) (C : CalX X.prog X.w X.K X.mg X.base ca k f fd ps F) (b : Binds X.K fd ps []) (hr : L2H.RoomH k X.A) (hm : X.mg x = some (.ref f))
    (hp : (a, oe) ∈ X.pn) (hz : Zc (.ref (ca c)) none oe) (hf : ∃ vs, oe.data = .fields vs) (ha : JA X W (ca.at a c) (e :: es) fa) (hn : ps.length = n := by rfl) (hg : Gl X x := by rfl) (hdb : (x == ("__debug__" : Str)) = false := by decide) (he : starEach (e :: es) X.env = (false, eval e X.env) :: starEach es X.env := by rfl) (hpl : (backTo pos (starEach es X.env)).any (·.1) = false := by rfl) :
    JE X W (ca.at a c) (.Call (.Name x p) (e :: es) [] pos) (callF n F [] fa) := by
  subst hn
  obtain ⟨t, pa, r⟩ := ha.ex
  refine ⟨fun σ H Q => t σ H fun vs H1 => spX X.K ca ps.length F (a, oe) vs H1 Q (WE W σ), ⟨fun pins s σ H Q I h => ?_⟩, fun σ H m env st Q s e h => ?_⟩
  · refine wpAny_Call_Name_kw (ld_glob I hg hm ?_ hdb)
    refine PySem.W.callWith_K (h₀ := X.base) I.ok.mod.kin C.kp (thn (pa.run pos pins s σ H _ I h) fun us s1 ⟨vs, H1, I1, r, q⟩ => ⟨I1.kIn, ?_⟩) he hpl
    exact run_fnP (E := WE W) C.ok hr hp b (passAt tk σ) I1 r q
  · refine r σ H m env st _ s e (Post.bind h fun x st1 m1 x' H1 p1 k1 s1 r1 h1 => ?_)
    rw [List.append_nil] at h1
    split at h1
    · rename_i hl
      exact ⟨c, ⟨hz, hf⟩, m1, st1, _, s1, r1, hl, h1⟩
    · exact h1.elim
end
section
variable {P : Program} {w : World} {K : PySem.W.Frag} {mg : Str → Option Value} {base : Heap} {ca : Ca}
theorem cal_mkX {x qual : Str} {st : Stmt} {f : Addr} {fd : FuncData} {N ps : List Str} {k n : Nat} {body : FS} (F : L2.Fun K x qual st f fd) (S : FnScope N ps (defScope st)) (hn : N.length = n)
    (hbody : ∀ (cdv : Value) (A : Around) (outer : List PySem.Env) (s : Shared) (H : Hp) (E : XK) (p : Addr × Obj) (c : String), Zc (.ref (ca c)) none p.2 → (∃ vs, p.2.data = .fields vs) → L2H.RoomH k (A.deeper (envOfC qual (defScope st) s.heap.objs.size f cdv)) →
      Takes (L2H.cxH (L2.CX P w) P w K mg base N qual (defScope st) f cdv A outer s H E p) (fun cls d _ H => E cls d H) →
      JSs (L2H.cxH (L2.CX P w) P w K mg base N qual (defScope st) f cdv A outer s H E p) (fun cls d _ H => E cls d H) (ca.at p.1 c) (defBody st) body) :
    CalX P w K mg base ca (k + 1) f fd ps (runFn n body) := by
  subst hn
  obtain ⟨oc, od, kV, doc, pm, an, cdv, ct, osl, rfl, lk, hcd⟩ := F.ex
  refine ⟨fn_ofP lk hcd S (fun p vs H Q E h => ?_) (fun A outer s H vs Q E p hr h => ?_), F.kp⟩
  · obtain ⟨_, _, m, st, xs, _, r, hl, _⟩ := h
    rw [← r.length, hl]
  · obtain ⟨c, ⟨hz, hf⟩, m, st, xs, s0, r, hl, h⟩ := h
    obtain ⟨t, q, z⟩ := (hbody cdv A outer s H E p c hz hf hr (takes_of rfl rfl rfl rfl)).ex
    refine ⟨t, q, z _ H m (xs.map some ++ List.replicate (N.length - xs.length) none) st _ s0 (er_start r) ?_⟩
    unfold runFn at h
    cases q : body (xs.map some ++ List.replicate (N.length - xs.length) none) st with
    | nx e1 s1 => rw [q] at h; exact fun m1 σ1 H1 p1 k1 s2 _ => h.gc s0 m1 _ H1 p1 k1 s2 .non
    | rt v s1 => rw [q] at h; exact fun m1 w1 H1 p1 k1 s2 r1 => h.gc s0 m1 w1 H1 p1 k1 s2 r1
    | er x e1 s1 => rw [q] at h; exact fun m1 d σ1 H1 p1 k1 s2 _ r1 => h.gcx s0 m1 d H1 p1 k1 s2 r1
    | bk e1 s1 => rw [q] at h; exact h.elim
    | ct e1 s1 => rw [q] at h; exact h.elim
    | no => rw [q] at h; exact h.elim
end
/-! ### raise C('text') -/
def raiseS (c : String) : FS := fun e st => .er ⟨c, none⟩ e st
section
variable {X : Cx} {W : WX} {ca : Ca} {XN : List String × List String}
theorem js_raise {c : String} {bmB : List Value} {B newId initId : String} {x m : Str} {j : Nat} {p p2 pos pos2 : Pos} (F : ExcBaseFacts B newId initId bmB) (q : PySem.W.excIn X.K (ca c) bmB newId = true) (gC : X.mg x = some (.ref (ca c))) (kC : PySem.W.keepIn X.K (.ref (ca c)) = true)
    (r1 : PySem.W.subIn X.K (.ref (ca c)) (.type "BaseException") = some true) (r2 : PySem.W.typeIn X.K (.ref (ca c)) = some (.type "type")) (tk : Takes X W) (hc : X.calm = true := by rfl) (hg : Gl X x := by rfl) (hdb : (x == ("__debug__" : Str)) = false := by decide) : JS X W ca (.Raise (some (.Call (.Name x p) [.Constant (.str m) j p2] [] pos)) none pos2) (raiseS c) := by
  refine ⟨_, ps_raise hc tk (pmk_own F q gC kC (raises_own r1 r2) hg hdb), fun σ H m0 env st D s e h => ?_⟩
  exact h m0 none σ H (List.prefix_refl _) Keep.refl s e rfl
/-! ### a body's reading that hangs on no context -/
def tC (K : PySem.W.Frag) (ca : Ca) (W : WX) (f : FS) : TS := fun D σ H => ∃ m env st, SR K ca H m st ∧ ER K ca H m env σ ∧ PostS K ca (EWs W ca) m H D (f env st)
theorem JSs.canon {body : List Stmt} {f : FS} (h : JSs X W ca body f) : PSs X body (tC X.K ca W f) := by
  obtain ⟨t, p, r⟩ := h.ex
  exact ⟨fun pins s σ H D I ⟨m, env, st, s0, e0, h0⟩ => p.run pins s σ H D I (r σ H m env st D s0 e0 h0)⟩
/-! ### try: .. except C as e: y = .. -/
abbrev WN : WX := fun _ _ _ _ => False
open Classical in
def tryAsS (XN : List String × List String) (i j : Nat) (cC : String) (fb : FS) (fh : FE) : FS := fun e st => match fb e st with
  | .er ⟨c, none⟩ e1 s1 => if c ∈ XN.1 then (if isEx c cC = true then (match fh (e1.set i (some (.exc c))) s1 with
      | .ok v s2 => if s2 = s1 ∧ noX v = true then .nx ((e1.set i none).set j (some v)) s1 else .no
      | _ => .no) else .er ⟨c, none⟩ e1 s1) else .no
  | .er _ _ _ => .no
  | r => r
theorem js_tryAs {i j : Nat} {cC : String} {x n : Str} {body suite : List Stmt} {b₀ : Stmt} {np pos pos' : Pos} {fb : FS} {fh : FE} (hX : XFacts X.K ca XN) (hC : cC ∈ XN.2) (hij : i ≠ j) (hs : X.stack = X.env :: X.outer) (hf : X.env.frame = some X.env.locals) (hN : X.N.Nodup) (hc : X.mg x = some (.ref (ca cC))) (tk : Takes X W)
    (hb : ∀ (W : WX) (pn : List (Addr × Obj)) (xe : Value → Shared → Prop), Takes (X.tr pn xe) W → PassesOwn (model X.prog X.w) X.A X.env xe → JSs (X.tr pn xe) W ca body fb)
    (hsu : ∀ (a : Addr) (oe : Obj) (c : String) (pn : List (Addr × Obj)), Zc (.ref (ca c)) none oe → (∃ vs, oe.data = .fields vs) → JSs (X.suite a ((a, oe) :: pn)) WN (ca.at a c) (b₀ :: suite) (setS j fh))
    (h0 : ca.ex = none := by rfl) (hi : X.N[i]? = some n := by rfl) (hln : X.env.kindOf n = some .local := by rfl) (hg : Gl X x := by rfl) (hd : (x == ("__debug__" : Str)) = false := by decide) :
    JS X W ca (.Try body [.ExceptHandler (some (.Name x np)) (some n) (b₀ :: suite) pos'] [] [] pos) (tryAsS XN i j cC fb fh) := by
  refine ⟨_, ps_try_as (tb := fun W' => tC X.K ca W' fb) (ts := fun a cls d => fun D σ H => ∃ c, cls = .ref (ca c) ∧ d = none ∧ tC X.K (ca.at a c) WN (setS j fh) D σ H) hs hf hN hi hln ⟨hg, hd, .inl hc⟩ tk (fun W' pn xe tk' hp => (hb W' pn xe tk' hp).canon) (fun a oe cls d pn hz hfl => ⟨fun pins s σ H D I ⟨c, hc1, hd1, h⟩ => ?_⟩), fun σ H m env st D s e h => ?_⟩
  · subst hc1 hd1
    exact (hsu a oe c pn hz hfl).canon.run pins s σ H D I h
  · refine ⟨m, env, st, s, e, ?_⟩
    unfold tryAsS at h
    cases q : fb env st with
    | nx e1 s1 => rw [q] at h; exact h
    | rt v s1 => rw [q] at h; exact h
    | bk e1 s1 => rw [q] at h; exact h
    | ct e1 s1 => rw [q] at h; exact h
    | no => rw [q] at h; exact h
    | er x e1 s1 =>
      rw [q] at h
      obtain ⟨c, val⟩ := x
      cases val with
      | some z => exact h.elim
      | none =>
        simp only at h
        split at h
        · rename_i hcx
          intro m' d σ' H' p' k' s' e' hx
          have hdn : d = none := hx
          subst hdn
          refine ⟨isEx c cC, hX.exm c hcx cC hC, fun hb a ha => ?_, fun hb => ?_⟩
          · rw [if_pos hb] at h
            refine ⟨c, rfl, rfl, m', e1.set i (some (.exc c)), s1, s'.at' h0, (e'.at h0).set (.exc (ca := ca.at a c) rfl) i, ?_⟩
            unfold setS
            cases q2 : fh (e1.set i (some (.exc c))) s1 with
            | er y s2 => rw [q2] at h; exact h.elim
            | no => rw [q2] at h; exact h.elim
            | ok v s2 =>
              rw [q2] at h
              simp only at h
              split at h
              · rename_i hh
                obtain ⟨rfl, hv⟩ := hh
                rw [toS_ok]
                intro m2 σ2 H2 p2 k2 s2' e2
                refine h m2 (σ2.set i none) H2 (p'.trans p2) (k'.trans k2) (SR.back h0 s' s2') ⟨?_, fun l u hu => ?_⟩
                · have := e2.1
                  simp only [List.length_set] at this ⊢
                  exact this
                · by_cases hlj : j = l
                  · subst hlj
                    have jl : j < e1.length := by
                      have := (List.getElem?_eq_some_iff.mp hu).1
                      simpa using this
                    rw [List.getElem?_set_self (by simpa using jl)] at hu
                    cases hu
                    obtain ⟨wv, h1, h2⟩ := e2.2 j v (by rw [List.getElem?_set_self (by simpa using jl)])
                    exact ⟨wv, by rw [List.getElem?_set_ne hij]; exact h1, h2.back hv⟩
                  · rw [List.getElem?_set_ne hlj] at hu
                    have hil : i ≠ l := fun z => by
                      subst z
                      by_cases il : i < e1.length
                      · rw [List.getElem?_set_self il] at hu; cases hu
                      · rw [List.getElem?_eq_none (by simpa using il)] at hu; cases hu
                    rw [List.getElem?_set_ne hil] at hu
                    obtain ⟨w0, _, h2⟩ := e'.2 l u hu
                    obtain ⟨wv, h3, h4⟩ := e2.2 l u (by rw [List.getElem?_set_ne hlj, List.getElem?_set_ne hil]; exact hu)
                    exact ⟨wv, by rw [List.getElem?_set_ne hil]; exact h3, h4.back (h2.noX h0)⟩
              · exact h.elim
          · rw [hb, if_neg Bool.false_ne_true] at h
            exact h m' none σ' H' p' k' s' e' rfl
        · exact h.elim
/-! ### try: .. except C: .. else: .. -/
def tryOnlyS (XN : List String × List String) (cC : String) (fb fh fo : FS) : FS := fun e st => match fb e st with
  | .er ⟨c, none⟩ e1 s1 => if c ∈ XN.1 then (if isEx c cC = true then (match fh e1 s1 with
      | .er _ _ _ => .no
      | r => r) else .er ⟨c, none⟩ e1 s1) else .no
  | .er _ _ _ => .no
  | .nx e1 s1 => fo e1 s1
  | r => r
theorem js_tryOnly {cC : String} {x : Str} {body suite orelse : List Stmt} {b₀ : Stmt} {np pos pos' : Pos} {fb fh fo : FS} (hX : XFacts X.K ca XN) (hC : cC ∈ XN.2) (hs : X.stack = X.env :: X.outer) (hf : X.env.frame = some X.env.locals) (hc : X.mg x = some (.ref (ca cC))) (tk : Takes X W)
    (hb : ∀ (W : WX) (pn : List (Addr × Obj)) (xe : Value → Shared → Prop), Takes (X.tr pn xe) W → PassesOwn (model X.prog X.w) X.A X.env xe → JSs (X.tr pn xe) W ca body fb)
    (hsu : ∀ (a : Addr) (oe : Obj) (pn : List (Addr × Obj)), JSs (X.suite a ((a, oe) :: pn)) WN ca (b₀ :: suite) fh) (ho : JSs X W ca orelse fo)
    (hg : Gl X x := by rfl) (hd : (x == ("__debug__" : Str)) = false := by decide) :
    JS X W ca (.Try body [.ExceptHandler (some (.Name x np)) none (b₀ :: suite) pos'] orelse [] pos) (tryOnlyS XN cC fb fh fo) := by
  refine ⟨_, ps_try_onlyE (tb := fun W' => tC X.K ca W' fb) (ts := fun a cls d => tC X.K ca WN fh) ho.canon hs hf ⟨hg, hd, .inl hc⟩ tk (fun W' pn xe tk' hp => (hb W' pn xe tk' hp).canon) (fun a oe cls d pn hz hfl => (hsu a oe pn).canon), fun σ H m env st D s e h => ?_⟩
  refine ⟨m, env, st, s, e, ?_⟩
  unfold tryOnlyS at h
  cases q : fb env st with
  | nx e1 s1 => rw [q] at h; exact fun m1 σ1 H1 p1 k1 s2 e2 => ⟨m1, e1, s1, s2, e2, PostS.mono h p1 k1⟩
  | rt v s1 => rw [q] at h; exact h
  | bk e1 s1 => rw [q] at h; exact h
  | ct e1 s1 => rw [q] at h; exact h
  | no => rw [q] at h; exact h
  | er x e1 s1 =>
    rw [q] at h
    obtain ⟨c, val⟩ := x
    cases val with
    | some z => exact h.elim
    | none =>
      simp only at h
      split at h
      · rename_i hcx
        intro m' d σ' H' p' k' s' e' hx
        have hdn : d = none := hx
        subst hdn
        refine ⟨isEx c cC, hX.exm c hcx cC hC, fun hb a ha => ?_, fun hb => ?_⟩
        · rw [if_pos hb] at h
          refine ⟨m', e1, s1, s', e', ?_⟩
          cases q2 : fh e1 s1 with
          | nx e2 s2 => rw [q2] at h; exact PostS.mono h p' k'
          | rt v s2 => rw [q2] at h; exact PostS.mono h p' k'
          | bk e2 s2 => rw [q2] at h; exact PostS.mono h p' k'
          | ct e2 s2 => rw [q2] at h; exact PostS.mono h p' k'
          | er y e2 s2 => rw [q2] at h; exact h.elim
          | no => rw [q2] at h; exact h
        · rw [hb, if_neg Bool.false_ne_true] at h
          exact h m' none σ' H' p' k' s' e' rfl
      · exact h.elim
end
/-! ### small -/
theorem rh_mark {k : Nat} {A : Around} (r : Room k A) (h : Option Value) : L2H.RoomH k (A.mark h) := ⟨r.dp, r.un⟩
abbrev veB : List Value := [.type "ValueError", .type "Exception", .type "BaseException", .type "object"]
theorem XFacts.at {K : PySem.W.Frag} {ca : Ca} {XN : List String × List String} (h : XFacts K ca XN) (a : Addr) (c : String) : XFacts K (ca.at a c) XN := ⟨h.ex, h.kit, h.ve, h.exm⟩
theorem Pinned.one {X : Cx} {ca : Ca} {a : Addr} {c : String} {oe : Obj} (hp : (a, oe) ∈ X.pn) (hz : Zc (.ref (ca c)) none oe) (hf : ∃ vs, oe.data = .fields vs) : Pinned X (ca.at a c) := fun _ _ e => by
  cases e
  exact ⟨oe, hp, hz, hf⟩
theorem fa_nil {α : Type} {P : α → Prop} : ∀ c ∈ ([] : List α), P c := fun _ h => by cases h
theorem fa_cons {α : Type} {P : α → Prop} {a : α} {l : List α} (h : P a) (t : ∀ c ∈ l, P c) : ∀ c ∈ a :: l, P c := fun c hc => by
  rcases List.mem_cons.mp hc with rfl | hc
  · exact h
  · exact t c hc
end
end FL
end
section
set_option linter.all false
set_option maxRecDepth 100000
namespace FL
open PySem PySem.Spec PyProof.Rows L2
noncomputable section
/-! ## equality of deep things -/
def eqB2 (x y : PV) (st : Store) : Option Bool := match scEq x y with
  | some b => some b
  | none => match toD 190 st x, toD 190 st y with
    | some d, some e => some (PyData.eqv d e)
    | _, _ => none
def eqV2 (x y : PV) (st : Store) : O PV := (eqB2 x y st).map fun b => (.bl b, st)
def neV2 (x y : PV) (st : Store) : O PV := (eqB2 x y st).map fun b => (.bl (!b), st)
section
variable {X : Cx} {ca : Ca}
def rEqD2 (K : PySem.W.Frag) (f : Bool → Bool) (x y : V) (H : Hp) (Q : VK) : Prop := ∃ d e, Dp K H x d ∧ Dp K H y e ∧ d.canLay0 = true ∧ e.canLay0 = true ∧ d.depth ≤ 190 ∧ Q (.bl (f (PyData.eqv d e))) H
theorem op_eqD2 (hu : X.A.units + 190 < cLine) : OpR X (compareOp .Eq) (rEqD2 X.K id) := by
  intro pins s σ H x y v u Q I rx ry h
  obtain ⟨d, e, hd, he, sd, se, hdp, q⟩ := h
  obtain ⟨as, r1⟩ := Dp.reads I d x v hd rx
  obtain ⟨bs, r2⟩ := Dp.reads I e y u he ry
  exact SeqAt.compareEq_reads r1 r2 sd se (by omega) ⟨.bl _, H, I, rfl, q⟩
theorem op_neD2 (hu : X.A.units + 190 < cLine) : OpR X (compareOp .NotEq) (rEqD2 X.K not) := by
  intro pins s σ H x y v u Q I rx ry h
  obtain ⟨d, e, hd, he, sd, se, hdp, q⟩ := h
  obtain ⟨as, r1⟩ := Dp.reads I d x v hd rx
  obtain ⟨bs, r2⟩ := Dp.reads I e y u he ry
  exact SeqAt.compareNe_reads r1 r2 sd se (by omega) ⟨.bl _, H, I, rfl, q⟩
theorem eqB2_ok {K : PySem.W.Frag} {ca : Ca} {m : List Addr} {H : Hp} {st : Store} (s : SR K ca H m st) {x y : PV} {x' y' : V} {b : Bool} (rx : VR K ca H m x x') (ry : VR K ca H m y y') (e : eqB2 x y st = some b) :
    (scal x' y' = true ∧ decide (x' = y') = b) ∨ ∃ d d', Dp K H x' d ∧ Dp K H y' d' ∧ d.canLay0 = true ∧ d'.canLay0 = true ∧ d.depth ≤ 190 ∧ PyData.eqv d d' = b := by
  unfold eqB2 at e
  split at e
  · rename_i b' e1
    cases e
    exact .inl (scEq_ok rx ry e1)
  · split at e
    · rename_i d d' e1 e2
      cases e
      obtain ⟨a1, a2, a3⟩ := toD_ok s rx e1
      obtain ⟨b1, b2, b3⟩ := toD_ok s ry e2
      exact .inr ⟨d, d', a1, b1, a2, b2, a3, rfl⟩
    · cases e
theorem of_eq2 (hu : X.A.units + 190 < cLine) : OpF X ca (compareOp .Eq) eqV2 := by
  refine ⟨_, OpR.or op_eq (op_eqD2 hu), fun H m st x y x' y' Q s rx ry p => ?_⟩
  unfold eqV2 at p
  cases e : eqB2 x y st with
  | none => rw [e] at p; exact p.elim
  | some b =>
    rw [e] at p
    have q := p.val s (.bl b)
    rcases eqB2_ok s rx ry e with ⟨h1, h2⟩ | ⟨d, d', h1, h2, h3, h4, h5, h6⟩
    · exact .inl ⟨h1, by rw [h2]; exact q⟩
    · exact .inr ⟨d, d', h1, h2, h3, h4, h5, by rw [h6]; exact q⟩
theorem of_ne2 (hu : X.A.units + 190 < cLine) : OpF X ca (compareOp .NotEq) neV2 := by
  refine ⟨_, OpR.or op_ne (op_neD2 hu), fun H m st x y x' y' Q s rx ry p => ?_⟩
  unfold neV2 at p
  cases e : eqB2 x y st with
  | none => rw [e] at p; exact p.elim
  | some b =>
    rw [e] at p
    have q := p.val s (.bl (!b))
    rcases eqB2_ok s rx ry e with ⟨h1, h2⟩ | ⟨d, d', h1, h2, h3, h4, h5, h6⟩
    · exact .inl ⟨h1, by rw [h2]; exact q⟩
    · exact .inr ⟨d, d', h1, h2, h3, h4, h5, by rw [h6]; exact q⟩
theorem hu190 {A : Around} {k : Nat} (hr : Room k A) : A.units + 190 < cLine := by have := hr.un; omega
theorem run_er {n : Nat} {body : FS} {args : List PV} {st g : Store} {x : Ex} {e : Env} (h : body (args.map some ++ List.replicate (n - args.length) none) st = .er x e (st ++ g)) (hx : x.val = none) : runFn n body args st = .er x st := by
  unfold runFn
  rw [h]
  exact gcx_app hx
end
end
end FL
end
section
set_option linter.all false
set_option maxRecDepth 100000
end
section
set_option linter.all false
set_option maxRecDepth 100000
namespace FL
open PySem PySem.Spec PyProof.Rows L2
noncomputable section
def b_L_at : FS :=
    (seqS (ifS (isB (opF ltV (varF 1) (cbF lenV (consA (varF 0) nilA)))) (retS (opF idxV (varF 0) (varF 1))) nxS)
    (retS (cstF (.int 0))))
def F_L_at : Fn := runFn 2 b_L_at
end
end FL
end
section
set_option linter.all false
set_option maxRecDepth 100000
namespace FL
open PySem PySem.Spec PyProof.Rows L2
noncomputable section
def b_L_word_3 : FS :=
    (seqS (setS 2 (cstF (.str ("abcdefghijklmnopqrstuvwxyz" : Str))))
    (seqS (setS 3 (callF 2 F_L_at [] (consA (varF 0) (consA (cstF (.int 0)) nilA))))
    (seqS (setS 4 (opF addV (cstF (.int 1)) (opF modV (varF 3) (cstF (.int 8)))))
    (seqS (setS 5 (opF modV (opF fdivV (varF 3) (cstF (.int 8))) (varF 4)))
    (seqS (setS 6 (opF idxV (varF 2) (opF modV (opF fdivV (varF 3) (cstF (.int 64))) (cstF (.int 26)))))
    (seqS (setS 7 (opF idxV (varF 2) (opF modV (opF addV (opF fdivV (varF 3) (cstF (.int 1664))) (varF 1)) (cstF (.int 26)))))
    (retS (opF addV (opF addV (opF mulV (varF 6) (varF 5)) (varF 7)) (opF mulV (varF 6) (opF subV (opF subV (varF 4) (cstF (.int 1))) (varF 5)))))))))))
def F_L_word_3 : Fn := runFn 8 b_L_word_3
end
end FL
end
section
set_option linter.all false
set_option maxRecDepth 100000
namespace FL
open PySem PySem.Spec PyProof.Rows L2
noncomputable section
def b_L_chain_s1 : FS :=
    (dropS (bmF' "list" appendV (varF 3) (consA (tupF (consA (cstF (.str ("of" : Str))) (consA (varF 2) (consA (tupF (consA (opF subV (cbF lenV (consA (varF 3) nilA)) (cstF (.int 1))) nilA)) nilA)))) nilA)))
def b_L_chain_s2 : FS :=
    (dropS (bmF' "list" appendV (varF 3) (consA (tupF (consA (cstF (.str ("of" : Str))) (consA (varF 2) (consA (varF 6) nilA)))) nilA)))
def b_L_chain : FS :=
    (seqS (setS 2 (callF 2 F_L_word_3 [] (consA (varF 0) (consA (cstF (.int 1)) nilA))))
    (seqS (setS 3 (lstF (consA (tupF (consA (cstF (.str ("name" : Str))) (consA (varF 2) nilA))) nilA)))
    (seqS (ifS (notT (truT (varF 1))) (forS (seqI (tupF (consA (tupF (consA (cstF (.int 0)) (consA (cstF (.int 0)) (consA (cstF (.int 0)) (consA (cstF (.int 0)) nilA))))) (consA (tupF (consA (cstF (.int 1)) (consA (cstF (.int 1)) (consA (cstF (.int 1)) (consA (cstF (.int 1)) nilA))))) (consA (tupF (consA (cstF (.int 2)) (consA (cstF (.int 2)) (consA (cstF (.int 2)) (consA (cstF (.int 2)) nilA))))) (consA (tupF (consA (cstF (.int 3)) (consA (cstF (.int 3)) (consA (cstF (.int 3)) (consA (cstF (.int 3)) nilA))))) (consA (tupF (consA (cstF (.int 4)) (consA (cstF (.int 3)) (consA (cstF (.int 2)) (consA (cstF (.int 2)) nilA))))) (consA (tupF (consA (cstF (.int 5)) (consA (cstF (.int 2)) (consA (cstF (.int 1)) (consA (cstF (.int 0)) nilA))))) nilA)))))))) (nameG 6) b_L_chain_s2) nxS)
    (seqS (setS 4 (cstF (.int 6)))
    (seqS (ifS (truT (varF 1)) (setS 4 (cstF (.int 62))) nxS)
    (seqS (forS (rng1I (consA (varF 4) nilA)) (nameG 5) b_L_chain_s1)
    (retS (varF 3))))))))
def F_L_chain : Fn := runFn 7 b_L_chain
end
end FL
end
section
set_option linter.all false
set_option maxRecDepth 100000
namespace FL
open PySem PySem.Spec PyProof.Rows L2
noncomputable section
def b_L_draw : FS :=
    (retS (opF modV (opF fdivV (opF modV (opF mulV (opF addV (opF modV (varF 0) (cstF (.int 2147483647))) (cstF (.int 5))) (varF 1)) (cstF (.int 2147483629))) (cstF (.int 89))) (varF 2)))
def F_L_draw : Fn := runFn 3 b_L_draw
end
end FL
end
section
set_option linter.all false
set_option maxRecDepth 100000
namespace FL
open PySem PySem.Spec PyProof.Rows L2
noncomputable section
def b_L_leaf_4 : FS :=
    (seqS (setS 2 (callF 3 F_L_draw [] (consA (varF 1) (consA (cstF (.int 69621)) (consA (cstF (.int 4)) nilA)))))
    (seqS (ifS (isB (opF eqV (varF 2) (cstF (.int 0)))) (retS (tupF (consA (cstF (.str ("num" : Str))) (consA (opF subV (opF modV (varF 1) (opF subV (opF mulV (cstF (.int 2)) (opF powV (cstF (.int 10)) (cstF (.int 60)))) (cstF (.int 1)))) (opF subV (opF powV (cstF (.int 10)) (cstF (.int 60))) (cstF (.int 1)))) nilA)))) nxS)
    (seqS (ifS (isB (opF eqV (varF 2) (cstF (.int 1)))) (retS (tupF (consA (cstF (.str ("num" : Str))) (consA (opF subV (callF 3 F_L_draw [] (consA (varF 1) (consA (cstF (.int 40692)) (consA (cstF (.int 5)) nilA)))) (cstF (.int 2))) nilA)))) nxS)
    (retS (tupF (consA (cstF (.str ("name" : Str))) (consA (callF 2 F_L_word_3 [] (consA (varF 0) (consA (callF 3 F_L_draw [] (consA (varF 1) (consA (cstF (.int 40692)) (consA (cstF (.int 4)) nilA)))) nilA))) nilA)))))))
def F_L_leaf_4 : Fn := runFn 3 b_L_leaf_4
end
end FL
end
section
set_option linter.all false
set_option maxRecDepth 100000
namespace FL
open PySem PySem.Spec PyProof.Rows L2
noncomputable section
def b_L_drawn_e1 : FE :=
    (opF subV (opF subV (cbF lenV (consA (varF 1) nilA)) (cstF (.int 1))) (callF 3 F_L_draw [] (consA (varF 2) (consA (opF mulV (opF addV (varF 7) (cstF (.int 2))) (cstF (.int 742938285))) (consA (varF 5) nilA)))))
def b_L_drawn_s2 : FS :=
    (seqS (setS 3 (callF 2 F_L_leaf_4 [] (consA (varF 0) (consA (varF 2) nilA))))
    (seqS (ifS (andT (isB (opF neV (varF 1) (lstF nilA))) (isB (opF gtV (callF 3 F_L_draw [] (consA (varF 2) (consA (cstF (.int 48271)) (consA (cstF (.int 8)) nilA)))) (cstF (.int 0))))) (seqS (setS 4 (opF addV (cstF (.int 1)) (opF fdivV (callF 3 F_L_draw [] (consA (varF 2) (consA (cstF (.int 16807)) (consA (cstF (.int 13)) nilA)))) (cstF (.int 4)))))
    (seqS (setS 5 (cbF minV (consA (cbF lenV (consA (varF 1) nilA)) (consA (cstF (.int 3)) nilA))))
    (seqS (setS 6 (lcF (rng1I (consA (varF 4) nilA)) [7] (nameG 7) yesT b_L_drawn_e1))
    (setS 3 (tupF (consA (cstF (.str ("of" : Str))) (consA (callF 2 F_L_word_3 [] (consA (varF 0) (consA (callF 3 F_L_draw [] (consA (varF 2) (consA (cstF (.int 1664525)) (consA (cstF (.int 3)) nilA)))) nilA))) (consA (cbF tupleV (consA (varF 6) nilA)) nilA)))))))) nxS)
    (ifS (isB (opF ninV (varF 3) (varF 1))) (dropS (bmF' "list" appendV (varF 1) (consA (varF 3) nilA))) nxS)))
def b_L_drawn : FS :=
    (seqS (setS 1 (lstF nilA))
    (seqS (forS (seqI (sliF (varF 0) noO (someO (cstF (.int 63))))) (nameG 2) b_L_drawn_s2)
    (retS (varF 1))))
def F_L_drawn : Fn := runFn 8 b_L_drawn
end
end FL
end
section
set_option linter.all false
set_option maxRecDepth 100000
namespace FL
open PySem PySem.Spec PyProof.Rows L2
noncomputable section
def b_L_sums_e1 : FE :=
    (opF idxV (opF idxV (varF 1) (varF 4)) (cstF (.int 1)))
def b_L_sums_e2 : FE :=
    (opF idxV (opF idxV (varF 1) (varF 4)) (cstF (.int 0)))
def b_L_sums_s3 : FS :=
    (ifS (isB (opF neV (opF idxV (varF 2) (cstF (.int 0))) (cstF (.str ("of" : Str))))) (dropS (bmF' "list" appendV (varF 1) (consA (tupF (consA (cstF (.int 1)) (consA (cstF (.int 1)) nilA))) nilA))) (seqS (setS 3 (opF addV (cstF (.int 1)) (cbF sumV (consA (lcF (seqI (opF idxV (varF 2) (cstF (.int 2)))) [4] (nameG 4) yesT b_L_sums_e2) nilA))))
    (dropS (bmF' "list" appendV (varF 1) (consA (tupF (consA (varF 3) (consA (opF addV (cstF (.int 1)) (cbF maxV (consA (lcF (seqI (opF idxV (varF 2) (cstF (.int 2)))) [4] (nameG 4) yesT b_L_sums_e1) nilA))) nilA))) nilA)))))
def b_L_sums : FS :=
    (seqS (setS 1 (lstF nilA))
    (seqS (forS (seqI (varF 0)) (nameG 2) b_L_sums_s3)
    (retS (varF 1))))
def F_L_sums : Fn := runFn 5 b_L_sums
end
end FL
end
section
set_option linter.all false
set_option maxRecDepth 100000
namespace FL
open PySem PySem.Spec PyProof.Rows L2
noncomputable section
def b_L_refusal : FS :=
    (seqS (setS 1 (cbF (isEV (["TooBig"], ["SameError", "NoTree", "NoRule", "NoRow", "Full", "Apart", "TooBig", "TooWide"])) (consA (varF 0) (consA (tupF (consA (cstF (.cls "NoTree")) (consA (cstF (.cls "NoRule")) (consA (cstF (.cls "NoRow")) (consA (cstF (.cls "Apart")) (consA (cstF (.cls "TooWide")) nilA)))))) nilA))))
    (retS (tupF (consA (cbF (isEV (["TooBig"], ["SameError", "NoTree", "NoRule", "NoRow", "Full", "Apart", "TooBig", "TooWide"])) (consA (varF 0) (consA (cstF (.cls "Full")) nilA))) (consA (cbF (isEV (["TooBig"], ["SameError", "NoTree", "NoRule", "NoRow", "Full", "Apart", "TooBig", "TooWide"])) (consA (varF 0) (consA (cstF (.cls "TooBig")) nilA))) (consA (cbF (isEV (["TooBig"], ["SameError", "NoTree", "NoRule", "NoRow", "Full", "Apart", "TooBig", "TooWide"])) (consA (varF 0) (consA (cstF (.ty "ValueError")) nilA))) (consA (varF 1) nilA)))))))
def F_L_refusal : Fn := runFn 2 b_L_refusal
end
end FL
end
section
set_option linter.all false
set_option maxRecDepth 100000
namespace FL
open PySem PySem.Spec PyProof.Rows L2
noncomputable section
def b_L_written_e1 (p_L_written : Fn) : FE :=
    (callF 2 p_L_written [] (consA (varF 0) (consA (varF 2) nilA)))
def b_L_written (p_L_written : Fn) : FS :=
    (seqS (ifS (isB (opF neV (opF idxV (opF idxV (varF 0) (varF 1)) (cstF (.int 0))) (cstF (.str ("of" : Str))))) (retS (opF idxV (varF 0) (varF 1))) nxS)
    (retS (tupF (consA (cstF (.str ("of" : Str))) (consA (opF idxV (opF idxV (varF 0) (varF 1)) (cstF (.int 1))) (consA (cbF tupleV (consA (lcF (seqI (opF idxV (opF idxV (varF 0) (varF 1)) (cstF (.int 2)))) [2] (nameG 2) yesT (b_L_written_e1 p_L_written)) nilA)) nilA))))))
def F_L_written : Nat → Fn
  | 0 => fn0
  | n + 1 => runFn 3 (b_L_written (F_L_written n))
end
end FL
end
section
set_option linter.all false
set_option maxRecDepth 100000
namespace FL
open PySem PySem.Spec PyProof.Rows L2
noncomputable section
def b_size_of_s1 : FS :=
    (seqS (augS 4 iaddV (opF idxV (opF idxV (varF 2) (varF 6)) (cstF (.int 0))))
    (setS 5 (cbF maxV (consA (varF 5) (consA (opF idxV (opF idxV (varF 2) (varF 6)) (cstF (.int 1))) nilA)))))
def b_size_of_s2 : FS :=
    (seqS (setS 4 (cstF (.int 1)))
    (seqS (setS 5 (cstF (.int 0)))
    (seqS (ifS (isB (opF eqV (opF idxV (varF 3) (cstF (.int 0))) (cstF (.str ("of" : Str))))) (forS (seqI (opF idxV (varF 3) (cstF (.int 2)))) (nameG 6) b_size_of_s1) nxS)
    (dropS (bmF' "list" appendV (varF 2) (consA (tupF (consA (varF 4) (consA (opF addV (varF 5) (cstF (.int 1))) nilA))) nilA))))))
def b_size_of : FS :=
    (seqS (setS 2 (lstF nilA))
    (seqS (forS (seqI (sliF (varF 0) noO (someO (opF addV (varF 1) (cstF (.int 1)))))) (nameG 3) b_size_of_s2)
    (retS (opF idxV (varF 2) (varF 1)))))
def F_size_of : Fn := runFn 7 b_size_of
end
end FL
end
section
set_option linter.all false
set_option maxRecDepth 100000
namespace FL
open PySem PySem.Spec PyProof.Rows L2
noncomputable section
def b_tree_part_e1 (p_tree_part : Fn) : FE :=
    (callF 2 p_tree_part [] (consA (varF 0) (consA (varF 3) nilA)))
def b_tree_part (p_tree_part : Fn) : FS :=
    (seqS (setS 2 (opF idxV (varF 0) (varF 1)))
    (seqS (ifS (isB (opF neV (opF idxV (varF 2) (cstF (.int 0))) (cstF (.str ("of" : Str))))) (retS (varF 2)) nxS)
    (retS (tupF (consA (cstF (.str ("of" : Str))) (consA (opF idxV (varF 2) (cstF (.int 1))) (consA (cbF tupleV (consA (lcF (seqI (opF idxV (varF 2) (cstF (.int 2)))) [3] (nameG 3) yesT (b_tree_part_e1 p_tree_part)) nilA)) nilA)))))))
def F_tree_part : Nat → Fn
  | 0 => fn0
  | n + 1 => runFn 4 (b_tree_part (F_tree_part n))
end
end FL
end
section
set_option linter.all false
set_option maxRecDepth 100000
namespace FL
open PySem PySem.Spec PyProof.Rows L2
noncomputable section
def b_tree_of : FS :=
    (seqS (setS 2 (callF 2 F_size_of [] (consA (varF 0) (consA (varF 1) nilA))))
    (seqS (ifS (orT (isB (opF gtV (opF idxV (varF 2) (cstF (.int 0))) (cstF (.int 500)))) (isB (opF gtV (opF idxV (varF 2) (cstF (.int 1))) (cstF (.int 60))))) (raiseS "TooBig") nxS)
    (retS (callF 2 (F_tree_part 64) [] (consA (varF 0) (consA (varF 1) nilA))))))
def F_tree_of : Fn := runFn 3 b_tree_of
end
end FL
end
section
set_option linter.all false
set_option maxRecDepth 100000
namespace FL
open PySem PySem.Spec PyProof.Rows L2
noncomputable section
def b_L_tree_right : FS :=
    (seqS (setS 3 (cbF listV (consA (varF 0) nilA)))
    (seqS (tryAsS (["TooBig"], ["SameError", "NoTree", "NoRule", "NoRow", "Full", "Apart", "TooBig", "TooWide"]) 4 5 "SameError" (setS 5 (callF 2 F_tree_of [] (consA (varF 3) (consA (varF 1) nilA))))
    (callF 1 F_L_refusal [] (consA (varF 4) nilA)))
    (seqS (ifS (isB (opF neV2 (varF 3) (varF 0))) (retS (cstF (.bl false))) nxS)
    (seqS (ifS (orT (isB (opF gtV (opF idxV (varF 2) (cstF (.int 0))) (cstF (.int 500)))) (isB (opF gtV (opF idxV (varF 2) (cstF (.int 1))) (cstF (.int 60))))) (retS (opF eqV2 (varF 5) (tupF (consA (cstF (.bl false)) (consA (cstF (.bl true)) (consA (cstF (.bl true)) (consA (cstF (.bl false)) nilA))))))) nxS)
    (retS (andF (cbF isiV (consA (varF 5) (consA (cstF (.ty "tuple")) nilA))) (opF eqV2 (varF 5) (callF 2 (F_L_written 64) [] (consA (varF 0) (consA (varF 1) nilA))))))))))
def F_L_tree_right : Fn := runFn 6 b_L_tree_right
end
end FL
end
section
set_option linter.all false
set_option maxRecDepth 100000
namespace FL
open PySem PySem.Spec PyProof.Rows L2
noncomputable section
def b_law_k14_s1 : FS :=
    (ifS (orT (notT (truT (cbF isiV (consA (varF 6) (consA (cstF (.ty "int")) nilA))))) (truT (cbF isiV (consA (varF 6) (consA (cstF (.ty "bool")) nilA))))) (retS (cstF (.bl false))) nxS)
def b_law_k14_s2 : FS :=
    (seqS (setS 4 (opF subV (opF subV (cbF lenV (consA (varF 1) nilA)) (cstF (.int 1))) (varF 3)))
    (seqS (ifS (isB (opF eqV (opF modV (callF 2 F_L_at [] (consA (varF 0) (consA (cstF (.int 0)) nilA))) (cstF (.int 3))) (cstF (.int 0)))) (setS 4 (callF 3 F_L_draw [] (consA (callF 2 F_L_at [] (consA (varF 0) (consA (varF 3) nilA))) (consA (cstF (.int 22695477)) (consA (cbF lenV (consA (varF 1) nilA)) nilA))))) nxS)
    (seqS (setS 5 (callF 2 F_size_of [] (consA (cbF listV (consA (varF 1) nilA)) (consA (varF 4) nilA))))
    (seqS (ifS (orT (notT (truT (cbF isiV (consA (varF 5) (consA (cstF (.ty "tuple")) nilA))))) (orT (isB (opF neV (cbF lenV (consA (varF 5) nilA)) (cstF (.int 2)))) (isB (opF neV (varF 5) (opF idxV (varF 2) (varF 4)))))) (retS (cstF (.bl false))) nxS)
    (seqS (forS (seqI (varF 5)) (nameG 6) b_law_k14_s1)
    (ifS (notT (truT (callF 3 F_L_tree_right [] (consA (varF 1) (consA (varF 4) (consA (opF idxV (varF 2) (varF 4)) nilA)))))) (retS (cstF (.bl false))) nxS))))))
def b_law_k14 : FS :=
    (seqS (setS 1 (callF 1 F_L_drawn [] (consA (varF 0) nilA)))
    (seqS (ifS (isB (opF gtV (opF modV (callF 2 F_L_at [] (consA (varF 0) (consA (cstF (.int 0)) nilA))) (cstF (.int 3))) (cstF (.int 0)))) (setS 1 (callF 2 F_L_chain [] (consA (varF 0) (consA (opF eqV (opF modV (callF 2 F_L_at [] (consA (varF 0) (consA (cstF (.int 0)) nilA))) (cstF (.int 3))) (cstF (.int 1))) nilA)))) nxS)
    (seqS (setS 2 (callF 1 F_L_sums [] (consA (varF 1) nilA)))
    (seqS (forS (rng1I (consA (cbF minV (consA (cstF (.int 6)) (consA (cbF lenV (consA (varF 1) nilA)) nilA))) nilA)) (nameG 3) b_law_k14_s2)
    (retS (cstF (.bl true)))))))
def F_law_k14 : Fn := runFn 7 b_law_k14
end
end FL
end
section
set_option linter.all false
set_option maxRecDepth 100000
namespace FL.Wk14
open PySem PySem.Spec PyProof.Rows L2 FL
def topS (i : Nat) : Stmt := PySem.Challenge.pw_samewise_k14_sizes_and_trees.main.body.getD i (.Pass ⟨0, 0, 0, 0⟩)
abbrev s_L_at : Stmt := topS 14
theorem sc_L_at : FnScope ["_law_script", "_law_k"] ["_law_script", "_law_k"] (defScope s_L_at) := ⟨rfl, rfl, rfl, by decide +kernel, rfl, by decide +kernel, by decide +kernel⟩
abbrev s_L_word_3 : Stmt := topS 16
theorem sc_L_word_3 : FnScope ["_law_script", "_law_which", "_law_letters", "_law_seed", "_law_size", "_law_place", "_law_rest", "_law_told"] ["_law_script", "_law_which"] (defScope s_L_word_3) := ⟨rfl, rfl, rfl, by decide +kernel, rfl, by decide +kernel, by decide +kernel⟩
abbrev s_L_chain : Stmt := topS 20
theorem sc_L_chain : FnScope ["_law_script", "_law_deep", "_law_word_here", "_law_rows", "_law_many", "_law_k", "_law_arms"] ["_law_script", "_law_deep"] (defScope s_L_chain) := ⟨rfl, rfl, rfl, by decide +kernel, rfl, by decide +kernel, by decide +kernel⟩
abbrev s_L_draw : Stmt := topS 15
theorem sc_L_draw : FnScope ["_law_cell", "_law_factor", "_law_many"] ["_law_cell", "_law_factor", "_law_many"] (defScope s_L_draw) := ⟨rfl, rfl, rfl, by decide +kernel, rfl, by decide +kernel, by decide +kernel⟩
abbrev s_L_leaf_4 : Stmt := topS 17
theorem sc_L_leaf_4 : FnScope ["_law_script", "_law_cell", "_law_pick"] ["_law_script", "_law_cell"] (defScope s_L_leaf_4) := ⟨rfl, rfl, rfl, by decide +kernel, rfl, by decide +kernel, by decide +kernel⟩
abbrev s_L_drawn : Stmt := topS 19
theorem sc_L_drawn : FnScope ["_law_script", "_law_rows", "_law_cell", "_law_term", "_law_size", "_law_near", "_law_arms", "_law_j"] ["_law_script"] (defScope s_L_drawn) := ⟨rfl, rfl, rfl, by decide +kernel, rfl, by decide +kernel, by decide +kernel⟩
abbrev s_L_sums : Stmt := topS 22
theorem sc_L_sums : FnScope ["_law_rows", "_law_told", "_law_row", "_law_many", "_law_arm"] ["_law_rows"] (defScope s_L_sums) := ⟨rfl, rfl, rfl, by decide +kernel, rfl, by decide +kernel, by decide +kernel⟩
abbrev s_L_refusal : Stmt := topS 18
theorem sc_L_refusal : FnScope ["_law_problem", "_law_other"] ["_law_problem"] (defScope s_L_refusal) := ⟨rfl, rfl, rfl, by decide +kernel, rfl, by decide +kernel, by decide +kernel⟩
abbrev s_L_written : Stmt := topS 21
theorem sc_L_written : FnScope ["_law_rows", "_law_k", "_law_arm"] ["_law_rows", "_law_k"] (defScope s_L_written) := ⟨rfl, rfl, rfl, by decide +kernel, rfl, by decide +kernel, by decide +kernel⟩
abbrev s_size_of : Stmt := topS 10
theorem sc_size_of : FnScope ["terms", "k", "sizes", "term", "many", "deep", "arm"] ["terms", "k"] (defScope s_size_of) := ⟨rfl, rfl, rfl, by decide +kernel, rfl, by decide +kernel, by decide +kernel⟩
abbrev s_tree_part : Stmt := topS 11
theorem sc_tree_part : FnScope ["terms", "k", "term", "arm"] ["terms", "k"] (defScope s_tree_part) := ⟨rfl, rfl, rfl, by decide +kernel, rfl, by decide +kernel, by decide +kernel⟩
abbrev s_tree_of : Stmt := topS 12
theorem sc_tree_of : FnScope ["terms", "k", "size"] ["terms", "k"] (defScope s_tree_of) := ⟨rfl, rfl, rfl, by decide +kernel, rfl, by decide +kernel, by decide +kernel⟩
abbrev s_L_tree_right : Stmt := topS 23
theorem sc_L_tree_right : FnScope ["_law_rows", "_law_k", "_law_due", "_law_handed", "_law_problem", "_law_found"] ["_law_rows", "_law_k", "_law_due"] (defScope s_L_tree_right) := ⟨rfl, rfl, rfl, by decide +kernel, rfl, by decide +kernel, by decide +kernel⟩
abbrev s_law_k14 : Stmt := topS 24
theorem sc_law_k14 : FnScope ["_law_script", "_law_rows", "_law_due", "_law_j", "_law_k", "_law_found", "_law_part"] ["_law_script"] (defScope s_law_k14) := ⟨rfl, rfl, rfl, by decide +kernel, rfl, by decide +kernel, by decide +kernel⟩
structure Txt (K : PySem.W.Frag) (mg : Str → Option Value) where
  a_L_at : Addr
  d_L_at : FuncData
  h_L_at : L2.Fun K "_law_at" "_law_at" s_L_at a_L_at d_L_at
  b0_L_at : Binds K d_L_at ["_law_script", "_law_k"] []
  m_L_at : mg "_law_at" = some (.ref a_L_at)
  a_L_word_3 : Addr
  d_L_word_3 : FuncData
  h_L_word_3 : L2.Fun K "_law_word" "_law_word" s_L_word_3 a_L_word_3 d_L_word_3
  b0_L_word_3 : Binds K d_L_word_3 ["_law_script", "_law_which"] []
  m_L_word_3 : mg "_law_word" = some (.ref a_L_word_3)
  a_L_chain : Addr
  d_L_chain : FuncData
  h_L_chain : L2.Fun K "_law_chain" "_law_chain" s_L_chain a_L_chain d_L_chain
  b0_L_chain : Binds K d_L_chain ["_law_script", "_law_deep"] []
  m_L_chain : mg "_law_chain" = some (.ref a_L_chain)
  a_L_draw : Addr
  d_L_draw : FuncData
  h_L_draw : L2.Fun K "_law_draw" "_law_draw" s_L_draw a_L_draw d_L_draw
  b0_L_draw : Binds K d_L_draw ["_law_cell", "_law_factor", "_law_many"] []
  m_L_draw : mg "_law_draw" = some (.ref a_L_draw)
  a_L_leaf_4 : Addr
  d_L_leaf_4 : FuncData
  h_L_leaf_4 : L2.Fun K "_law_leaf" "_law_leaf" s_L_leaf_4 a_L_leaf_4 d_L_leaf_4
  b0_L_leaf_4 : Binds K d_L_leaf_4 ["_law_script", "_law_cell"] []
  m_L_leaf_4 : mg "_law_leaf" = some (.ref a_L_leaf_4)
  a_L_drawn : Addr
  d_L_drawn : FuncData
  h_L_drawn : L2.Fun K "_law_drawn" "_law_drawn" s_L_drawn a_L_drawn d_L_drawn
  b0_L_drawn : Binds K d_L_drawn ["_law_script"] []
  m_L_drawn : mg "_law_drawn" = some (.ref a_L_drawn)
  a_L_sums : Addr
  d_L_sums : FuncData
  h_L_sums : L2.Fun K "_law_sums" "_law_sums" s_L_sums a_L_sums d_L_sums
  b0_L_sums : Binds K d_L_sums ["_law_rows"] []
  m_L_sums : mg "_law_sums" = some (.ref a_L_sums)
  a_L_refusal : Addr
  d_L_refusal : FuncData
  h_L_refusal : L2.Fun K "_law_refusal" "_law_refusal" s_L_refusal a_L_refusal d_L_refusal
  b0_L_refusal : Binds K d_L_refusal ["_law_problem"] []
  m_L_refusal : mg "_law_refusal" = some (.ref a_L_refusal)
  a_L_written : Addr
  d_L_written : FuncData
  h_L_written : L2.Fun K "_law_written" "_law_written" s_L_written a_L_written d_L_written
  b0_L_written : Binds K d_L_written ["_law_rows", "_law_k"] []
  m_L_written : mg "_law_written" = some (.ref a_L_written)
  a_size_of : Addr
  d_size_of : FuncData
  h_size_of : L2.Fun K "size_of" "size_of" s_size_of a_size_of d_size_of
  b0_size_of : Binds K d_size_of ["terms", "k"] []
  m_size_of : mg "size_of" = some (.ref a_size_of)
  a_tree_part : Addr
  d_tree_part : FuncData
  h_tree_part : L2.Fun K "tree_part" "tree_part" s_tree_part a_tree_part d_tree_part
  b0_tree_part : Binds K d_tree_part ["terms", "k"] []
  m_tree_part : mg "tree_part" = some (.ref a_tree_part)
  a_tree_of : Addr
  d_tree_of : FuncData
  h_tree_of : L2.Fun K "tree_of" "tree_of" s_tree_of a_tree_of d_tree_of
  b0_tree_of : Binds K d_tree_of ["terms", "k"] []
  m_tree_of : mg "tree_of" = some (.ref a_tree_of)
  a_L_tree_right : Addr
  d_L_tree_right : FuncData
  h_L_tree_right : L2.Fun K "_law_tree_right" "_law_tree_right" s_L_tree_right a_L_tree_right d_L_tree_right
  b0_L_tree_right : Binds K d_L_tree_right ["_law_rows", "_law_k", "_law_due"] []
  m_L_tree_right : mg "_law_tree_right" = some (.ref a_L_tree_right)
  a_law_k14 : Addr
  d_law_k14 : FuncData
  h_law_k14 : L2.Fun K "law" "law" s_law_k14 a_law_k14 d_law_k14
  b0_law_k14 : Binds K d_law_k14 ["_law_script"] []
  m_law_k14 : mg "law" = some (.ref a_law_k14)
  z_len : mg "len" = none
  z_range : mg "range" = none
  z_tuple : mg "tuple" = none
  z_min : mg "min" = none
  z_max : mg "max" = none
  z_sum : mg "sum" = none
  z_isinstance : mg "isinstance" = none
  z_ValueError : mg "ValueError" = none
  z_list : mg "list" = none
  z_int : mg "int" = none
  z_bool : mg "bool" = none
  c_TooBig : Addr
  m_TooBig : mg "TooBig" = some (.ref c_TooBig)
  c_Full : Addr
  m_Full : mg "Full" = some (.ref c_Full)
  c_TooWide : Addr
  m_TooWide : mg "TooWide" = some (.ref c_TooWide)
  c_Apart : Addr
  m_Apart : mg "Apart" = some (.ref c_Apart)
  c_NoRow : Addr
  m_NoRow : mg "NoRow" = some (.ref c_NoRow)
  c_NoRule : Addr
  m_NoRule : mg "NoRule" = some (.ref c_NoRule)
  c_NoTree : Addr
  m_NoTree : mg "NoTree" = some (.ref c_NoTree)
  c_SameError : Addr
  m_SameError : mg "SameError" = some (.ref c_SameError)
  xr1_TooBig : PySem.W.excIn K c_TooBig veB "ValueError.__new__" = true
  xr2_TooBig : PySem.W.keepIn K (.ref c_TooBig) = true
  xr3_TooBig : PySem.W.subIn K (.ref c_TooBig) (.type "BaseException") = some true
  xr4_TooBig : PySem.W.typeIn K (.ref c_TooBig) = some (.type "type")
  xx_TooBig : ExcC K c_TooBig
  xv_TooBig : PySem.W.kitOne K (.ref c_TooBig) (.type "ValueError") = some true
  xk_TooBig_SameError : PySem.W.kitOne K (.ref c_TooBig) (.ref c_SameError) = some true
  xm_TooBig_SameError : PySem.W.exmOne K (.ref c_TooBig) (.ref c_SameError) = some true
  xk_TooBig_NoTree : PySem.W.kitOne K (.ref c_TooBig) (.ref c_NoTree) = some false
  xm_TooBig_NoTree : PySem.W.exmOne K (.ref c_TooBig) (.ref c_NoTree) = some false
  xk_TooBig_NoRule : PySem.W.kitOne K (.ref c_TooBig) (.ref c_NoRule) = some false
  xm_TooBig_NoRule : PySem.W.exmOne K (.ref c_TooBig) (.ref c_NoRule) = some false
  xk_TooBig_NoRow : PySem.W.kitOne K (.ref c_TooBig) (.ref c_NoRow) = some false
  xm_TooBig_NoRow : PySem.W.exmOne K (.ref c_TooBig) (.ref c_NoRow) = some false
  xk_TooBig_Full : PySem.W.kitOne K (.ref c_TooBig) (.ref c_Full) = some false
  xm_TooBig_Full : PySem.W.exmOne K (.ref c_TooBig) (.ref c_Full) = some false
  xk_TooBig_Apart : PySem.W.kitOne K (.ref c_TooBig) (.ref c_Apart) = some false
  xm_TooBig_Apart : PySem.W.exmOne K (.ref c_TooBig) (.ref c_Apart) = some false
  xk_TooBig_TooBig : PySem.W.kitOne K (.ref c_TooBig) (.ref c_TooBig) = some true
  xm_TooBig_TooBig : PySem.W.exmOne K (.ref c_TooBig) (.ref c_TooBig) = some true
  xk_TooBig_TooWide : PySem.W.kitOne K (.ref c_TooBig) (.ref c_TooWide) = some false
  xm_TooBig_TooWide : PySem.W.exmOne K (.ref c_TooBig) (.ref c_TooWide) = some false
section
variable {P : Program} {w : World} {K : PySem.W.Frag} {mg : Str → Option Value} {base : Heap}
def Txt.ca (T : Txt K mg) (w : World) : Ca := ⟨fun n => if n = "TooBig" then T.c_TooBig else if n = "Full" then T.c_Full else if n = "TooWide" then T.c_TooWide else if n = "Apart" then T.c_Apart else if n = "NoRow" then T.c_NoRow else if n = "NoRule" then T.c_NoRule else if n = "NoTree" then T.c_NoTree else if n = "SameError" then T.c_SameError else 0, w, none⟩
theorem Txt.ca_TooBig (T : Txt K mg) : (T.ca w) "TooBig" = T.c_TooBig := by unfold Txt.ca; simp
theorem Txt.ca_Full (T : Txt K mg) : (T.ca w) "Full" = T.c_Full := by unfold Txt.ca; simp
theorem Txt.ca_TooWide (T : Txt K mg) : (T.ca w) "TooWide" = T.c_TooWide := by unfold Txt.ca; simp
theorem Txt.ca_Apart (T : Txt K mg) : (T.ca w) "Apart" = T.c_Apart := by unfold Txt.ca; simp
theorem Txt.ca_NoRow (T : Txt K mg) : (T.ca w) "NoRow" = T.c_NoRow := by unfold Txt.ca; simp
theorem Txt.ca_NoRule (T : Txt K mg) : (T.ca w) "NoRule" = T.c_NoRule := by unfold Txt.ca; simp
theorem Txt.ca_NoTree (T : Txt K mg) : (T.ca w) "NoTree" = T.c_NoTree := by unfold Txt.ca; simp
theorem Txt.ca_SameError (T : Txt K mg) : (T.ca w) "SameError" = T.c_SameError := by unfold Txt.ca; simp
theorem Txt.mc_TooBig (T : Txt K mg) : mg "TooBig" = some (.ref ((T.ca w) "TooBig")) := by rw [T.ca_TooBig]; exact T.m_TooBig
theorem Txt.mc_Full (T : Txt K mg) : mg "Full" = some (.ref ((T.ca w) "Full")) := by rw [T.ca_Full]; exact T.m_Full
theorem Txt.mc_TooWide (T : Txt K mg) : mg "TooWide" = some (.ref ((T.ca w) "TooWide")) := by rw [T.ca_TooWide]; exact T.m_TooWide
theorem Txt.mc_Apart (T : Txt K mg) : mg "Apart" = some (.ref ((T.ca w) "Apart")) := by rw [T.ca_Apart]; exact T.m_Apart
theorem Txt.mc_NoRow (T : Txt K mg) : mg "NoRow" = some (.ref ((T.ca w) "NoRow")) := by rw [T.ca_NoRow]; exact T.m_NoRow
theorem Txt.mc_NoRule (T : Txt K mg) : mg "NoRule" = some (.ref ((T.ca w) "NoRule")) := by rw [T.ca_NoRule]; exact T.m_NoRule
theorem Txt.mc_NoTree (T : Txt K mg) : mg "NoTree" = some (.ref ((T.ca w) "NoTree")) := by rw [T.ca_NoTree]; exact T.m_NoTree
theorem Txt.mc_SameError (T : Txt K mg) : mg "SameError" = some (.ref ((T.ca w) "SameError")) := by rw [T.ca_SameError]; exact T.m_SameError
theorem Txt.r1_TooBig (T : Txt K mg) : PySem.W.excIn K ((T.ca w) "TooBig") veB "ValueError.__new__" = true := by rw [T.ca_TooBig]; exact T.xr1_TooBig
theorem Txt.r2_TooBig (T : Txt K mg) : PySem.W.keepIn K (.ref ((T.ca w) "TooBig")) = true := by rw [T.ca_TooBig]; exact T.xr2_TooBig
theorem Txt.r3_TooBig (T : Txt K mg) : PySem.W.subIn K (.ref ((T.ca w) "TooBig")) (.type "BaseException") = some true := by rw [T.ca_TooBig]; exact T.xr3_TooBig
theorem Txt.r4_TooBig (T : Txt K mg) : PySem.W.typeIn K (.ref ((T.ca w) "TooBig")) = some (.type "type") := by rw [T.ca_TooBig]; exact T.xr4_TooBig
theorem Txt.xf (T : Txt K mg) : XFacts K (T.ca w) (["TooBig"], ["SameError", "NoTree", "NoRule", "NoRow", "Full", "Apart", "TooBig", "TooWide"]) := ⟨(fa_cons (by rw [T.ca_TooBig]; exact T.xx_TooBig) fa_nil), (fa_cons (fa_cons (by rw [show isEx "TooBig" "SameError" = true by decide, T.ca_TooBig, T.ca_SameError]; exact T.xk_TooBig_SameError) (fa_cons (by rw [show isEx "TooBig" "NoTree" = false by decide, T.ca_TooBig, T.ca_NoTree]; exact T.xk_TooBig_NoTree) (fa_cons (by rw [show isEx "TooBig" "NoRule" = false by decide, T.ca_TooBig, T.ca_NoRule]; exact T.xk_TooBig_NoRule) (fa_cons (by rw [show isEx "TooBig" "NoRow" = false by decide, T.ca_TooBig, T.ca_NoRow]; exact T.xk_TooBig_NoRow) (fa_cons (by rw [show isEx "TooBig" "Full" = false by decide, T.ca_TooBig, T.ca_Full]; exact T.xk_TooBig_Full) (fa_cons (by rw [show isEx "TooBig" "Apart" = false by decide, T.ca_TooBig, T.ca_Apart]; exact T.xk_TooBig_Apart) (fa_cons (by rw [show isEx "TooBig" "TooBig" = true by decide, T.ca_TooBig]; exact T.xk_TooBig_TooBig) (fa_cons (by rw [show isEx "TooBig" "TooWide" = false by decide, T.ca_TooBig, T.ca_TooWide]; exact T.xk_TooBig_TooWide) fa_nil)))))))) fa_nil), (fa_cons (by rw [T.ca_TooBig]; exact T.xv_TooBig) fa_nil), (fa_cons (fa_cons (by rw [show isEx "TooBig" "SameError" = true by decide, T.ca_TooBig, T.ca_SameError]; exact T.xm_TooBig_SameError) (fa_cons (by rw [show isEx "TooBig" "NoTree" = false by decide, T.ca_TooBig, T.ca_NoTree]; exact T.xm_TooBig_NoTree) (fa_cons (by rw [show isEx "TooBig" "NoRule" = false by decide, T.ca_TooBig, T.ca_NoRule]; exact T.xm_TooBig_NoRule) (fa_cons (by rw [show isEx "TooBig" "NoRow" = false by decide, T.ca_TooBig, T.ca_NoRow]; exact T.xm_TooBig_NoRow) (fa_cons (by rw [show isEx "TooBig" "Full" = false by decide, T.ca_TooBig, T.ca_Full]; exact T.xm_TooBig_Full) (fa_cons (by rw [show isEx "TooBig" "Apart" = false by decide, T.ca_TooBig, T.ca_Apart]; exact T.xm_TooBig_Apart) (fa_cons (by rw [show isEx "TooBig" "TooBig" = true by decide, T.ca_TooBig]; exact T.xm_TooBig_TooBig) (fa_cons (by rw [show isEx "TooBig" "TooWide" = false by decide, T.ca_TooBig, T.ca_TooWide]; exact T.xm_TooBig_TooWide) fa_nil)))))))) fa_nil)⟩
theorem Txt.b_L_at (T : Txt K mg) : Bnd K (T.ca w) T.d_L_at ["_law_script", "_law_k"] [] := Bnd.nil T.b0_L_at
theorem Txt.b_L_word_3 (T : Txt K mg) : Bnd K (T.ca w) T.d_L_word_3 ["_law_script", "_law_which"] [] := Bnd.nil T.b0_L_word_3
theorem Txt.b_L_chain (T : Txt K mg) : Bnd K (T.ca w) T.d_L_chain ["_law_script", "_law_deep"] [] := Bnd.nil T.b0_L_chain
theorem Txt.b_L_draw (T : Txt K mg) : Bnd K (T.ca w) T.d_L_draw ["_law_cell", "_law_factor", "_law_many"] [] := Bnd.nil T.b0_L_draw
theorem Txt.b_L_leaf_4 (T : Txt K mg) : Bnd K (T.ca w) T.d_L_leaf_4 ["_law_script", "_law_cell"] [] := Bnd.nil T.b0_L_leaf_4
theorem Txt.b_L_drawn (T : Txt K mg) : Bnd K (T.ca w) T.d_L_drawn ["_law_script"] [] := Bnd.nil T.b0_L_drawn
theorem Txt.b_L_sums (T : Txt K mg) : Bnd K (T.ca w) T.d_L_sums ["_law_rows"] [] := Bnd.nil T.b0_L_sums
theorem Txt.b_L_refusal (T : Txt K mg) : Bnd K (T.ca w) T.d_L_refusal ["_law_problem"] [] := Bnd.nil T.b0_L_refusal
theorem Txt.b_L_written (T : Txt K mg) : Bnd K (T.ca w) T.d_L_written ["_law_rows", "_law_k"] [] := Bnd.nil T.b0_L_written
theorem Txt.b_size_of (T : Txt K mg) : Bnd K (T.ca w) T.d_size_of ["terms", "k"] [] := Bnd.nil T.b0_size_of
theorem Txt.b_tree_part (T : Txt K mg) : Bnd K (T.ca w) T.d_tree_part ["terms", "k"] [] := Bnd.nil T.b0_tree_part
theorem Txt.b_tree_of (T : Txt K mg) : Bnd K (T.ca w) T.d_tree_of ["terms", "k"] [] := Bnd.nil T.b0_tree_of
theorem Txt.b_L_tree_right (T : Txt K mg) : Bnd K (T.ca w) T.d_L_tree_right ["_law_rows", "_law_k", "_law_due"] [] := Bnd.nil T.b0_L_tree_right
theorem Txt.b_law_k14 (T : Txt K mg) : Bnd K (T.ca w) T.d_law_k14 ["_law_script"] [] := Bnd.nil T.b0_law_k14
theorem c_L_at (T : Txt K mg) : Cal P w K mg base (T.ca w) 1 T.a_L_at T.d_L_at ["_law_script", "_law_k"] F_L_at :=
  cal_mk (k := 0) (body := b_L_at) T.h_L_at sc_L_at rfl fun cdv A outer s H E hr tk hp =>
    (jss_cons (js_if (jt_cmp of_lt (je_v 1) (je_callB cb_len T.z_len (by decide +kernel) (ja_cons (je_v 0) ja_nil)) (nomark _)) (jss_one (js_ret (je_ix ix_any (je_v 0) (je_v 1)))) jss_nil)
      (jss_one (js_ret je_int)))
theorem c_L_word_3 (T : Txt K mg) : Cal P w K mg base (T.ca w) 2 T.a_L_word_3 T.d_L_word_3 ["_law_script", "_law_which"] F_L_word_3 :=
  cal_mk (k := 1) (body := b_L_word_3) T.h_L_word_3 sc_L_word_3 rfl fun cdv A outer s H E hr tk hp =>
    (jss_cons (js_set (i := 2) sc_L_word_3.nd je_str)
      (jss_cons (js_set (i := 3) sc_L_word_3.nd (je_call tk (c_L_at T) T.b_L_at (hr.mono (by omega)) T.m_L_at (ja_cons (je_v 0) (ja_cons je_int ja_nil))))
      (jss_cons (js_set (i := 4) sc_L_word_3.nd (je_op of_add je_int (je_op of_mod (je_v 3) je_int)))
      (jss_cons (js_set (i := 5) sc_L_word_3.nd (je_op of_mod (je_op of_fdiv (je_v 3) je_int) (je_v 4)))
      (jss_cons (js_set (i := 6) sc_L_word_3.nd (je_ix ix_any (je_v 2) (je_op of_mod (je_op of_fdiv (je_v 3) je_int) je_int)))
      (jss_cons (js_set (i := 7) sc_L_word_3.nd (je_ix ix_any (je_v 2) (je_op of_mod (je_op of_add (je_op of_fdiv (je_v 3) je_int) (je_v 1)) je_int)))
      (jss_one (js_ret (je_op of_add (je_op of_add (je_op of_mul (je_v 6) (je_v 5)) (je_v 7)) (je_op of_mul (je_v 6) (je_op of_sub (je_op of_sub (je_v 4) je_int) (je_v 5))))))))))))
theorem c_L_chain (T : Txt K mg) : Cal P w K mg base (T.ca w) 3 T.a_L_chain T.d_L_chain ["_law_script", "_law_deep"] F_L_chain :=
  cal_mk (k := 2) (body := b_L_chain) T.h_L_chain sc_L_chain rfl fun cdv A outer s H E hr tk hp =>
    (jss_cons (js_set (i := 2) sc_L_chain.nd (je_call tk (c_L_word_3 T) T.b_L_word_3 (hr.mono (by omega)) T.m_L_word_3 (ja_cons (je_v 0) (ja_cons je_int ja_nil))))
      (jss_cons (js_set (i := 3) sc_L_chain.nd (je_lst (ja_cons (je_tup (ja_cons je_str (ja_cons (je_v 2) ja_nil))) ja_nil)))
      (jss_cons (js_if (jt_not (jt_tru (je_v 1))) (jss_one (js_for hp rfl (ji_seq (je_tup (ja_cons (je_tup (ja_cons je_int (ja_cons je_int (ja_cons je_int (ja_cons je_int ja_nil))))) (ja_cons (je_tup (ja_cons je_int (ja_cons je_int (ja_cons je_int (ja_cons je_int ja_nil))))) (ja_cons (je_tup (ja_cons je_int (ja_cons je_int (ja_cons je_int (ja_cons je_int ja_nil))))) (ja_cons (je_tup (ja_cons je_int (ja_cons je_int (ja_cons je_int (ja_cons je_int ja_nil))))) (ja_cons (je_tup (ja_cons je_int (ja_cons je_int (ja_cons je_int (ja_cons je_int ja_nil))))) (ja_cons (je_tup (ja_cons je_int (ja_cons je_int (ja_cons je_int (ja_cons je_int ja_nil))))) ja_nil)))))))) (jg_name (i := 6) sc_L_chain.nd) (jss_one (js_expr (je_bm PySem.F.plainAttrs_list PySem.F.slot_list_append PySem.F.type_list_append bm_append (je_v 3) (ja_cons (je_tup (ja_cons je_str (ja_cons (je_v 2) (ja_cons (je_v 6) ja_nil)))) ja_nil)))))) jss_nil)
      (jss_cons (js_set (i := 4) sc_L_chain.nd je_int)
      (jss_cons (js_if (jt_tru (je_v 1)) (jss_one (js_set (i := 4) sc_L_chain.nd je_int)) jss_nil)
      (jss_cons (js_for hp rfl (ji_rng1 T.z_range (ja_cons (je_v 4) ja_nil)) (jg_name (i := 5) sc_L_chain.nd) (jss_one (js_expr (je_bm PySem.F.plainAttrs_list PySem.F.slot_list_append PySem.F.type_list_append bm_append (je_v 3) (ja_cons (je_tup (ja_cons je_str (ja_cons (je_v 2) (ja_cons (je_tup (ja_cons (je_op of_sub (je_callB cb_len T.z_len (by decide +kernel) (ja_cons (je_v 3) ja_nil)) je_int) ja_nil)) ja_nil)))) ja_nil)))))
      (jss_one (js_ret (je_v 3)))))))))
theorem c_L_draw (T : Txt K mg) : Cal P w K mg base (T.ca w) 1 T.a_L_draw T.d_L_draw ["_law_cell", "_law_factor", "_law_many"] F_L_draw :=
  cal_mk (k := 0) (body := b_L_draw) T.h_L_draw sc_L_draw rfl fun cdv A outer s H E hr tk hp =>
    (jss_one (js_ret (je_op of_mod (je_op of_fdiv (je_op of_mod (je_op of_mul (je_op of_add (je_op of_mod (je_v 0) je_int) je_int) (je_v 1)) je_int) je_int) (je_v 2))))
theorem c_L_leaf_4 (T : Txt K mg) : Cal P w K mg base (T.ca w) 3 T.a_L_leaf_4 T.d_L_leaf_4 ["_law_script", "_law_cell"] F_L_leaf_4 :=
  cal_mk (k := 2) (body := b_L_leaf_4) T.h_L_leaf_4 sc_L_leaf_4 rfl fun cdv A outer s H E hr tk hp =>
    (jss_cons (js_set (i := 2) sc_L_leaf_4.nd (je_call tk (c_L_draw T) T.b_L_draw (hr.mono (by omega)) T.m_L_draw (ja_cons (je_v 1) (ja_cons je_int (ja_cons je_int ja_nil)))))
      (jss_cons (js_if (jt_cmp (of_eq (hu64 hr)) (je_v 2) je_int (nomark _)) (jss_one (js_ret (je_tup (ja_cons je_str (ja_cons (je_op of_sub (je_op of_mod (je_v 1) (je_op of_sub (je_op of_mul je_int (je_op of_pow je_int je_int)) je_int)) (je_op of_sub (je_op of_pow je_int je_int) je_int)) ja_nil))))) jss_nil)
      (jss_cons (js_if (jt_cmp (of_eq (hu64 hr)) (je_v 2) je_int (nomark _)) (jss_one (js_ret (je_tup (ja_cons je_str (ja_cons (je_op of_sub (je_call tk (c_L_draw T) T.b_L_draw (hr.mono (by omega)) T.m_L_draw (ja_cons (je_v 1) (ja_cons je_int (ja_cons je_int ja_nil)))) je_int) ja_nil))))) jss_nil)
      (jss_one (js_ret (je_tup (ja_cons je_str (ja_cons (je_call tk (c_L_word_3 T) T.b_L_word_3 (hr.mono (by omega)) T.m_L_word_3 (ja_cons (je_v 0) (ja_cons (je_call tk (c_L_draw T) T.b_L_draw (hr.mono (by omega)) T.m_L_draw (ja_cons (je_v 1) (ja_cons je_int (ja_cons je_int ja_nil)))) ja_nil))) ja_nil))))))))
theorem c_L_drawn (T : Txt K mg) : Cal P w K mg base (T.ca w) 4 T.a_L_drawn T.d_L_drawn ["_law_script"] F_L_drawn :=
  cal_mk (k := 3) (body := b_L_drawn) T.h_L_drawn sc_L_drawn rfl fun cdv A outer s H E hr tk hp =>
    (jss_cons (js_set (i := 1) sc_L_drawn.nd (je_lst ja_nil))
      (jss_cons (js_for hp rfl (ji_seq (je_sl (je_v 0) jo_none (jo_some je_int))) (jg_name (i := 2) sc_L_drawn.nd) (jss_cons (js_set (i := 3) sc_L_drawn.nd (je_call tk (c_L_leaf_4 T) T.b_L_leaf_4 (hr.mono (by omega)) T.m_L_leaf_4 (ja_cons (je_v 0) (ja_cons (je_v 2) ja_nil))))
      (jss_cons (js_if (JW.jt (jw_and (jt_cmp (of_ne (hu64 hr)) (je_v 1) (je_lst ja_nil) (nomark _)) (jw_and1 (jt_cmp of_gt (je_call tk (c_L_draw T) T.b_L_draw (hr.mono (by omega)) T.m_L_draw (ja_cons (je_v 2) (ja_cons je_int (ja_cons je_int ja_nil)))) je_int (nomark _))))) (jss_cons (js_set (i := 4) sc_L_drawn.nd (je_op of_add je_int (je_op of_fdiv (je_call tk (c_L_draw T) T.b_L_draw (hr.mono (by omega)) T.m_L_draw (ja_cons (je_v 2) (ja_cons je_int (ja_cons je_int ja_nil)))) je_int)))
      (jss_cons (js_set (i := 5) sc_L_drawn.nd (je_callB (cb_min rfl) T.z_min (by decide +kernel) (ja_cons (je_callB cb_len T.z_len (by decide +kernel) (ja_cons (je_v 1) ja_nil)) (ja_cons je_int ja_nil))))
      (jss_cons (js_lc (i := 6) (own := [(("_law_j" : Str), 7)]) rfl sc_L_drawn.nd rfl rfl (sw_true rfl rfl rfl (by decide +kernel)) (ji_rng1 T.z_range (ja_cons (je_v 4) ja_nil)) (blkOk_by (own := [(("_law_j" : Str), 7)]) (N := ["_law_script", "_law_rows", "_law_cell", "_law_term", "_law_size", "_law_near", "_law_arms", "_law_j"]) (sc := defScope s_L_drawn) (by decide +kernel)) (by decide) (fun _ _ _ _ _ => (jg_name (i := 7) sc_L_drawn.nd)) (fun _ _ _ _ _ => jts_nil) (fun _ _ _ _ _ => (je_op of_sub (je_op of_sub (je_callB cb_len T.z_len (by decide +kernel) (ja_cons (je_v 1) ja_nil)) je_int) (je_call takes0 (c_L_draw T) T.b_L_draw (hr.mono (by omega)) T.m_L_draw (ja_cons (je_v 2) (ja_cons (je_op of_mul (je_op of_add (je_v 7) je_int) je_int) (ja_cons (je_v 5) ja_nil)))))))
      (jss_one (js_set (i := 3) sc_L_drawn.nd (je_tup (ja_cons je_str (ja_cons (je_call tk (c_L_word_3 T) T.b_L_word_3 (hr.mono (by omega)) T.m_L_word_3 (ja_cons (je_v 0) (ja_cons (je_call tk (c_L_draw T) T.b_L_draw (hr.mono (by omega)) T.m_L_draw (ja_cons (je_v 2) (ja_cons je_int (ja_cons je_int ja_nil)))) ja_nil))) (ja_cons (je_callTy cb_tuple T.z_tuple (by decide +kernel) (ja_cons (je_v 6) ja_nil)) ja_nil))))))))) jss_nil)
      (jss_one (js_if (jt_cmp (of_nin (hu65 hr)) (je_v 3) (je_v 1) (by rfl)) (jss_one (js_expr (je_bm PySem.F.plainAttrs_list PySem.F.slot_list_append PySem.F.type_list_append bm_append (je_v 1) (ja_cons (je_v 3) ja_nil)))) jss_nil)))))
      (jss_one (js_ret (je_v 1)))))
theorem c_L_sums (T : Txt K mg) : Cal P w K mg base (T.ca w) 1 T.a_L_sums T.d_L_sums ["_law_rows"] F_L_sums :=
  cal_mk (k := 0) (body := b_L_sums) T.h_L_sums sc_L_sums rfl fun cdv A outer s H E hr tk hp =>
    (jss_cons (js_set (i := 1) sc_L_sums.nd (je_lst ja_nil))
      (jss_cons (js_for hp rfl (ji_seq (je_v 0)) (jg_name (i := 2) sc_L_sums.nd) (jss_one (js_if (jt_cmp (of_ne (hu64 hr)) (je_ix ix_any (je_v 2) je_int) je_str (nomark _)) (jss_one (js_expr (je_bm PySem.F.plainAttrs_list PySem.F.slot_list_append PySem.F.type_list_append bm_append (je_v 1) (ja_cons (je_tup (ja_cons je_int (ja_cons je_int ja_nil))) ja_nil)))) (jss_cons (js_set (i := 3) sc_L_sums.nd (je_op of_add je_int (je_callB (cb_sum rfl) T.z_sum (by decide +kernel) (ja_cons (je_lc (own := [(("_law_arm" : Str), 4)]) rfl sc_L_sums.nd (ji_seq (je_ix ix_any (je_v 2) je_int)) (blkOk_by (own := [(("_law_arm" : Str), 4)]) (N := ["_law_rows", "_law_told", "_law_row", "_law_many", "_law_arm"]) (sc := defScope s_L_sums) (by decide +kernel)) (by decide) (fun _ _ _ _ _ => (jg_name (i := 4) sc_L_sums.nd)) (fun _ _ _ _ _ => jts_nil) (fun _ _ _ _ _ => (je_ix ix_any (je_ix ix_any (je_v 1) (je_v 4)) je_int))) ja_nil))))
      (jss_one (js_expr (je_bm PySem.F.plainAttrs_list PySem.F.slot_list_append PySem.F.type_list_append bm_append (je_v 1) (ja_cons (je_tup (ja_cons (je_v 3) (ja_cons (je_op of_add je_int (je_callB (cb_max rfl) T.z_max (by decide +kernel) (ja_cons (je_lc (own := [(("_law_arm" : Str), 4)]) rfl sc_L_sums.nd (ji_seq (je_ix ix_any (je_v 2) je_int)) (blkOk_by (own := [(("_law_arm" : Str), 4)]) (N := ["_law_rows", "_law_told", "_law_row", "_law_many", "_law_arm"]) (sc := defScope s_L_sums) (by decide +kernel)) (by decide) (fun _ _ _ _ _ => (jg_name (i := 4) sc_L_sums.nd)) (fun _ _ _ _ _ => jts_nil) (fun _ _ _ _ _ => (je_ix ix_any (je_ix ix_any (je_v 1) (je_v 4)) je_int))) ja_nil))) ja_nil))) ja_nil))))))))
      (jss_one (js_ret (je_v 1)))))
theorem c_L_refusal (T : Txt K mg) : CalX P w K mg base (T.ca w) 1 T.a_L_refusal T.d_L_refusal ["_law_problem"] F_L_refusal :=
  cal_mkX (k := 0) (body := b_L_refusal) T.h_L_refusal sc_L_refusal rfl fun cdv A outer s H E p c hz hf hr tk =>
    (jss_cons (js_set (i := 1) sc_L_refusal.nd (je_callB (cb_isE (T.xf.at _ _) (Pinned.one List.mem_cons_self hz hf)) T.z_isinstance (by decide +kernel) (ja_cons (je_v 0) (ja_cons (je_tup (ja_cons (je_globC T.m_NoTree (T.ca_NoTree (w := w)) (by rfl)) (ja_cons (je_globC T.m_NoRule (T.ca_NoRule (w := w)) (by rfl)) (ja_cons (je_globC T.m_NoRow (T.ca_NoRow (w := w)) (by rfl)) (ja_cons (je_globC T.m_Apart (T.ca_Apart (w := w)) (by rfl)) (ja_cons (je_globC T.m_TooWide (T.ca_TooWide (w := w)) (by rfl)) ja_nil)))))) ja_nil))))
      (jss_one (js_ret (je_tup (ja_cons (je_callB (cb_isE (T.xf.at _ _) (Pinned.one List.mem_cons_self hz hf)) T.z_isinstance (by decide +kernel) (ja_cons (je_v 0) (ja_cons (je_globC T.m_Full (T.ca_Full (w := w)) (by rfl)) ja_nil))) (ja_cons (je_callB (cb_isE (T.xf.at _ _) (Pinned.one List.mem_cons_self hz hf)) T.z_isinstance (by decide +kernel) (ja_cons (je_v 0) (ja_cons (je_globC T.m_TooBig (T.ca_TooBig (w := w)) (by rfl)) ja_nil))) (ja_cons (je_callB (cb_isE (T.xf.at _ _) (Pinned.one List.mem_cons_self hz hf)) T.z_isinstance (by decide +kernel) (ja_cons (je_v 0) (ja_cons (je_ty (by rfl) T.z_ValueError (by decide +kernel)) ja_nil))) (ja_cons (je_v 1) ja_nil))))))))
theorem c_L_written (T : Txt K mg) : ∀ n, Cal P w K mg base (T.ca w) (0 + n) T.a_L_written T.d_L_written ["_law_rows", "_law_k"] (F_L_written n)
  | 0 => Cal.mono (cal_0 T.h_L_written.kp) (Nat.zero_le _)
  | n + 1 =>
    have C_L_written := c_L_written T n
    cal_mk (k := 0 + n) (body := b_L_written (F_L_written n)) T.h_L_written sc_L_written rfl fun cdv A outer s H E hr tk hp =>
    (jss_cons (js_if (jt_cmp (of_ne (hu64 hr)) (je_ix ix_any (je_ix ix_any (je_v 0) (je_v 1)) je_int) je_str (nomark _)) (jss_one (js_ret (je_ix ix_any (je_v 0) (je_v 1)))) jss_nil)
      (jss_one (js_ret (je_tup (ja_cons je_str (ja_cons (je_ix ix_any (je_ix ix_any (je_v 0) (je_v 1)) je_int) (ja_cons (je_callTy cb_tuple T.z_tuple (by decide +kernel) (ja_cons (je_lc (own := [(("_law_arm" : Str), 2)]) rfl sc_L_written.nd (ji_seq (je_ix ix_any (je_ix ix_any (je_v 0) (je_v 1)) je_int)) (blkOk_by (own := [(("_law_arm" : Str), 2)]) (N := ["_law_rows", "_law_k", "_law_arm"]) (sc := defScope s_L_written) (by decide +kernel)) (by decide) (fun _ _ _ _ _ => (jg_name (i := 2) sc_L_written.nd)) (fun _ _ _ _ _ => jts_nil) (fun _ _ _ _ _ => (je_call takes0 C_L_written T.b_L_written hr T.m_L_written (ja_cons (je_v 0) (ja_cons (je_v 2) ja_nil))))) ja_nil)) ja_nil)))))))
theorem c_size_of (T : Txt K mg) : Cal P w K mg base (T.ca w) 1 T.a_size_of T.d_size_of ["terms", "k"] F_size_of :=
  cal_mk (k := 0) (body := b_size_of) T.h_size_of sc_size_of rfl fun cdv A outer s H E hr tk hp =>
    (jss_cons (js_set (i := 2) sc_size_of.nd (je_lst ja_nil))
      (jss_cons (js_for hp rfl (ji_seq (je_sl (je_v 0) jo_none (jo_some (je_op of_add (je_v 1) je_int)))) (jg_name (i := 3) sc_size_of.nd) (jss_cons (js_set (i := 4) sc_size_of.nd je_int)
      (jss_cons (js_set (i := 5) sc_size_of.nd je_int)
      (jss_cons (js_if (jt_cmp (of_eq (hu64 hr)) (je_ix ix_any (je_v 3) je_int) je_str (nomark _)) (jss_one (js_for hp rfl (ji_seq (je_ix ix_any (je_v 3) je_int)) (jg_name (i := 6) sc_size_of.nd) (jss_cons (js_aug (i := 4) sc_size_of.nd of_iadd (je_ix ix_any (je_ix ix_any (je_v 2) (je_v 6)) je_int))
      (jss_one (js_set (i := 5) sc_size_of.nd (je_callB (cb_max rfl) T.z_max (by decide +kernel) (ja_cons (je_v 5) (ja_cons (je_ix ix_any (je_ix ix_any (je_v 2) (je_v 6)) je_int) ja_nil)))))))) jss_nil)
      (jss_one (js_expr (je_bm PySem.F.plainAttrs_list PySem.F.slot_list_append PySem.F.type_list_append bm_append (je_v 2) (ja_cons (je_tup (ja_cons (je_v 4) (ja_cons (je_op of_add (je_v 5) je_int) ja_nil))) ja_nil))))))))
      (jss_one (js_ret (je_ix ix_any (je_v 2) (je_v 1))))))
theorem c_tree_part (T : Txt K mg) : ∀ n, Cal P w K mg base (T.ca w) (0 + n) T.a_tree_part T.d_tree_part ["terms", "k"] (F_tree_part n)
  | 0 => Cal.mono (cal_0 T.h_tree_part.kp) (Nat.zero_le _)
  | n + 1 =>
    have C_tree_part := c_tree_part T n
    cal_mk (k := 0 + n) (body := b_tree_part (F_tree_part n)) T.h_tree_part sc_tree_part rfl fun cdv A outer s H E hr tk hp =>
    (jss_cons (js_set (i := 2) sc_tree_part.nd (je_ix ix_any (je_v 0) (je_v 1)))
      (jss_cons (js_if (jt_cmp (of_ne (hu64 hr)) (je_ix ix_any (je_v 2) je_int) je_str (nomark _)) (jss_one (js_ret (je_v 2))) jss_nil)
      (jss_one (js_ret (je_tup (ja_cons je_str (ja_cons (je_ix ix_any (je_v 2) je_int) (ja_cons (je_callTy cb_tuple T.z_tuple (by decide +kernel) (ja_cons (je_lc (own := [(("arm" : Str), 3)]) rfl sc_tree_part.nd (ji_seq (je_ix ix_any (je_v 2) je_int)) (blkOk_by (own := [(("arm" : Str), 3)]) (N := ["terms", "k", "term", "arm"]) (sc := defScope s_tree_part) (by decide +kernel)) (by decide) (fun _ _ _ _ _ => (jg_name (i := 3) sc_tree_part.nd)) (fun _ _ _ _ _ => jts_nil) (fun _ _ _ _ _ => (je_call takes0 C_tree_part T.b_tree_part hr T.m_tree_part (ja_cons (je_v 0) (ja_cons (je_v 3) ja_nil))))) ja_nil)) ja_nil))))))))
theorem c_tree_of (T : Txt K mg) : Cal P w K mg base (T.ca w) 65 T.a_tree_of T.d_tree_of ["terms", "k"] F_tree_of :=
  cal_mk (k := 64) (body := b_tree_of) T.h_tree_of sc_tree_of rfl fun cdv A outer s H E hr tk hp =>
    (jss_cons (js_set (i := 2) sc_tree_of.nd (je_call tk (c_size_of T) T.b_size_of (hr.mono (by omega)) T.m_size_of (ja_cons (je_v 0) (ja_cons (je_v 1) ja_nil))))
      (jss_cons (js_if (JW.jt (jw_or (jt_cmp of_gt (je_ix ix_any (je_v 2) je_int) je_int (nomark _)) (jw_or1 (jt_cmp of_gt (je_ix ix_any (je_v 2) je_int) je_int (nomark _))))) (jss_one (js_raise PySem.F.excBase_ValueError T.r1_TooBig T.mc_TooBig T.r2_TooBig T.r3_TooBig T.r4_TooBig tk)) jss_nil)
      (jss_one (js_ret (je_call tk (c_tree_part T 64) T.b_tree_part (hr.mono (by omega)) T.m_tree_part (ja_cons (je_v 0) (ja_cons (je_v 1) ja_nil)))))))
theorem c_L_tree_right (T : Txt K mg) : Cal P w K mg base (T.ca w) 66 T.a_L_tree_right T.d_L_tree_right ["_law_rows", "_law_k", "_law_due"] F_L_tree_right :=
  cal_mk (k := 65) (body := b_L_tree_right) T.h_L_tree_right sc_L_tree_right rfl fun cdv A outer s H E hr tk hp =>
    (jss_cons (js_set (i := 3) sc_L_tree_right.nd (je_callTy cb_list T.z_list (by decide +kernel) (ja_cons (je_v 0) ja_nil)))
      (jss_cons (js_tryAs T.xf (by decide) (by decide) rfl rfl sc_L_tree_right.nd T.mc_SameError tk (fun W pn xe tk hp =>
        (jss_one (js_set (i := 5) sc_L_tree_right.nd (je_call tk (c_tree_of T) T.b_tree_of (hr.mono (by omega)) T.m_tree_of (ja_cons (je_v 3) (ja_cons (je_v 1) ja_nil)))))) (fun a oe c pn hz hf => jss_one (js_set (i := 5) sc_L_tree_right.nd (je_callX takes0 (c_L_refusal T) T.b0_L_refusal (L2H.RoomH.mono (j := 1) (rh_mark hr _) (by omega)) T.m_L_refusal List.mem_cons_self hz hf (ja_cons (je_v 4) ja_nil)))))
      (jss_cons (js_if (jt_cmp (of_ne2 (hu190 hr)) (je_v 3) (je_v 0) (nomark _)) (jss_one (js_ret je_bl)) jss_nil)
      (jss_cons (js_if (JW.jt (jw_or (jt_cmp of_gt (je_ix ix_any (je_v 2) je_int) je_int (nomark _)) (jw_or1 (jt_cmp of_gt (je_ix ix_any (je_v 2) je_int) je_int (nomark _))))) (jss_one (js_ret (je_cmp (of_eq2 (hu190 hr)) (je_v 5) (je_tup (ja_cons je_bl (ja_cons je_bl (ja_cons je_bl (ja_cons je_bl ja_nil))))) (nomark _)))) jss_nil)
      (jss_one (js_ret (je_and (je_callB cb_isi T.z_isinstance (by decide +kernel) (ja_cons (je_v 5) (ja_cons (je_ty (by rfl) T.z_tuple (by decide +kernel)) ja_nil))) (je_one (je_cmp (of_eq2 (hu190 hr)) (je_v 5) (je_call tk (c_L_written T 64) T.b_L_written (hr.mono (by omega)) T.m_L_written (ja_cons (je_v 0) (ja_cons (je_v 1) ja_nil))) (nomark _))))))))))
theorem c_law_k14 (T : Txt K mg) : Cal P w K mg base (T.ca w) 67 T.a_law_k14 T.d_law_k14 ["_law_script"] F_law_k14 :=
  cal_mk (k := 66) (body := b_law_k14) T.h_law_k14 sc_law_k14 rfl fun cdv A outer s H E hr tk hp =>
    (jss_cons (js_set (i := 1) sc_law_k14.nd (je_call tk (c_L_drawn T) T.b_L_drawn (hr.mono (by omega)) T.m_L_drawn (ja_cons (je_v 0) ja_nil)))
      (jss_cons (js_if (jt_cmp of_gt (je_op of_mod (je_call tk (c_L_at T) T.b_L_at (hr.mono (by omega)) T.m_L_at (ja_cons (je_v 0) (ja_cons je_int ja_nil))) je_int) je_int (nomark _)) (jss_one (js_set (i := 1) sc_law_k14.nd (je_call tk (c_L_chain T) T.b_L_chain (hr.mono (by omega)) T.m_L_chain (ja_cons (je_v 0) (ja_cons (je_cmp (of_eq (hu64 hr)) (je_op of_mod (je_call tk (c_L_at T) T.b_L_at (hr.mono (by omega)) T.m_L_at (ja_cons (je_v 0) (ja_cons je_int ja_nil))) je_int) je_int (nomark _)) ja_nil))))) jss_nil)
      (jss_cons (js_set (i := 2) sc_law_k14.nd (je_call tk (c_L_sums T) T.b_L_sums (hr.mono (by omega)) T.m_L_sums (ja_cons (je_v 1) ja_nil)))
      (jss_cons (js_for hp rfl (ji_rng1 T.z_range (ja_cons (je_callB (cb_min rfl) T.z_min (by decide +kernel) (ja_cons je_int (ja_cons (je_callB cb_len T.z_len (by decide +kernel) (ja_cons (je_v 1) ja_nil)) ja_nil))) ja_nil)) (jg_name (i := 3) sc_law_k14.nd) (jss_cons (js_set (i := 4) sc_law_k14.nd (je_op of_sub (je_op of_sub (je_callB cb_len T.z_len (by decide +kernel) (ja_cons (je_v 1) ja_nil)) je_int) (je_v 3)))
      (jss_cons (js_if (jt_cmp (of_eq (hu64 hr)) (je_op of_mod (je_call tk (c_L_at T) T.b_L_at (hr.mono (by omega)) T.m_L_at (ja_cons (je_v 0) (ja_cons je_int ja_nil))) je_int) je_int (nomark _)) (jss_one (js_set (i := 4) sc_law_k14.nd (je_call tk (c_L_draw T) T.b_L_draw (hr.mono (by omega)) T.m_L_draw (ja_cons (je_call tk (c_L_at T) T.b_L_at (hr.mono (by omega)) T.m_L_at (ja_cons (je_v 0) (ja_cons (je_v 3) ja_nil))) (ja_cons je_int (ja_cons (je_callB cb_len T.z_len (by decide +kernel) (ja_cons (je_v 1) ja_nil)) ja_nil)))))) jss_nil)
      (jss_cons (js_set (i := 5) sc_law_k14.nd (je_call tk (c_size_of T) T.b_size_of (hr.mono (by omega)) T.m_size_of (ja_cons (je_callTy cb_list T.z_list (by decide +kernel) (ja_cons (je_v 1) ja_nil)) (ja_cons (je_v 4) ja_nil))))
      (jss_cons (js_if (JW.jt (jw_or (jt_not (jt_tru (je_callB cb_isi T.z_isinstance (by decide +kernel) (ja_cons (je_v 5) (ja_cons (je_ty (by rfl) T.z_tuple (by decide +kernel)) ja_nil))))) (jw_or (jt_cmp (of_ne (hu64 hr)) (je_callB cb_len T.z_len (by decide +kernel) (ja_cons (je_v 5) ja_nil)) je_int (nomark _)) (jw_or1 (jt_cmp (of_ne (hu64 hr)) (je_v 5) (je_ix ix_any (je_v 2) (je_v 4)) (nomark _)))))) (jss_one (js_ret je_bl)) jss_nil)
      (jss_cons (js_for hp rfl (ji_seq (je_v 5)) (jg_name (i := 6) sc_law_k14.nd) (jss_one (js_if (JW.jt (jw_or (jt_not (jt_tru (je_callB cb_isi T.z_isinstance (by decide +kernel) (ja_cons (je_v 6) (ja_cons (je_ty (by rfl) T.z_int (by decide +kernel)) ja_nil))))) (jw_or1 (jt_tru (je_callB cb_isi T.z_isinstance (by decide +kernel) (ja_cons (je_v 6) (ja_cons (je_ty (by rfl) T.z_bool (by decide +kernel)) ja_nil))))))) (jss_one (js_ret je_bl)) jss_nil)))
      (jss_one (js_if (jt_not (jt_tru (je_call tk (c_L_tree_right T) T.b_L_tree_right (hr.mono (by omega)) T.m_L_tree_right (ja_cons (je_v 1) (ja_cons (je_v 4) (ja_cons (je_ix ix_any (je_v 2) (je_v 4)) ja_nil)))))) (jss_one (js_ret je_bl)) jss_nil))))))))
      (jss_one (js_ret je_bl))))))
end
theorem all_mk {P : Program} {w : World} {K : PySem.W.Frag} {h : Heap} {mg : Str → Option Value} {fa : Addr} (main : ∀ ns : List Int, ns.length ≤ 63 → ∃ st, F_law_k14 [.frz (ns.map PV.int)] [] = .ok (.bl true) st) (X : K.In h) (G : h.Ns mainGlobals mg) (hfa : mg "law" = some (.ref fa))
    {f0 f1 f2 f3 f4 f5 f6 f7 f8 f9 f10 f11 f12 f13 uc_TooBig uc_Full uc_TooWide uc_Apart uc_NoRow uc_NoRule uc_NoTree uc_SameError : Addr} {od0 an0 od1 an1 od2 an2 od3 an3 od4 an4 od5 an5 od6 an6 od7 an7 od8 an8 od9 an9 od10 an10 od11 an11 od12 an12 od13 an13 : Option Addr} {sl0 sl1 sl2 sl3 sl4 sl5 sl6 sl7 sl8 sl9 sl10 sl11 sl12 sl13 : Array (Option Value)} {oc0 kV0 dc0 pm0 cd0 ct0 oc1 kV1 dc1 pm1 cd1 ct1 oc2 kV2 dc2 pm2 cd2 ct2 oc3 kV3 dc3 pm3 cd3 ct3 oc4 kV4 dc4 pm4 cd4 ct4 oc5 kV5 dc5 pm5 cd5 ct5 oc6 kV6 dc6 pm6 cd6 ct6 oc7 kV7 dc7 pm7 cd7 ct7 oc8 kV8 dc8 pm8 cd8 ct8 oc9 kV9 dc9 pm9 cd9 ct9 oc10 kV10 dc10 pm10 cd10 ct10 oc11 kV11 dc11 pm11 cd11 ct11 oc12 kV12 dc12 pm12 cd12 ct12 oc13 kV13 dc13 pm13 cd13 ct13 : Value}
    (u_TooBig : PySem.W.nsIn K mainGlobals "TooBig" = some (some (.ref uc_TooBig)))
    (u_Full : PySem.W.nsIn K mainGlobals "Full" = some (some (.ref uc_Full)))
    (u_TooWide : PySem.W.nsIn K mainGlobals "TooWide" = some (some (.ref uc_TooWide)))
    (u_Apart : PySem.W.nsIn K mainGlobals "Apart" = some (some (.ref uc_Apart)))
    (u_NoRow : PySem.W.nsIn K mainGlobals "NoRow" = some (some (.ref uc_NoRow)))
    (u_NoRule : PySem.W.nsIn K mainGlobals "NoRule" = some (some (.ref uc_NoRule)))
    (u_NoTree : PySem.W.nsIn K mainGlobals "NoTree" = some (some (.ref uc_NoTree)))
    (u_SameError : PySem.W.nsIn K mainGlobals "SameError" = some (some (.ref uc_SameError)))
    (a0 : PySem.W.nsIn K mainGlobals "_law_at" = some (some (.ref f0)))
    (l0 : K.lookup f0 = some ⟨oc0, od0, .func (PySem.W.fnOf "_law_at" "_law_at" (defArgs s_L_at) (defBody s_L_at) (defScope s_L_at) .none kV0 dc0 pm0 an0 cd0 ct0), sl0⟩)
    (c0 : PySem.W.codeIn K cd0 "_law_at" = true)
    (k0 : PySem.W.keepIn K (.ref f0) = true)
    (a1 : PySem.W.nsIn K mainGlobals "_law_word" = some (some (.ref f1)))
    (l1 : K.lookup f1 = some ⟨oc1, od1, .func (PySem.W.fnOf "_law_word" "_law_word" (defArgs s_L_word_3) (defBody s_L_word_3) (defScope s_L_word_3) .none kV1 dc1 pm1 an1 cd1 ct1), sl1⟩)
    (c1 : PySem.W.codeIn K cd1 "_law_word" = true)
    (k1 : PySem.W.keepIn K (.ref f1) = true)
    (a2 : PySem.W.nsIn K mainGlobals "_law_chain" = some (some (.ref f2)))
    (l2 : K.lookup f2 = some ⟨oc2, od2, .func (PySem.W.fnOf "_law_chain" "_law_chain" (defArgs s_L_chain) (defBody s_L_chain) (defScope s_L_chain) .none kV2 dc2 pm2 an2 cd2 ct2), sl2⟩)
    (c2 : PySem.W.codeIn K cd2 "_law_chain" = true)
    (k2 : PySem.W.keepIn K (.ref f2) = true)
    (a3 : PySem.W.nsIn K mainGlobals "_law_draw" = some (some (.ref f3)))
    (l3 : K.lookup f3 = some ⟨oc3, od3, .func (PySem.W.fnOf "_law_draw" "_law_draw" (defArgs s_L_draw) (defBody s_L_draw) (defScope s_L_draw) .none kV3 dc3 pm3 an3 cd3 ct3), sl3⟩)
    (c3 : PySem.W.codeIn K cd3 "_law_draw" = true)
    (k3 : PySem.W.keepIn K (.ref f3) = true)
    (a4 : PySem.W.nsIn K mainGlobals "_law_leaf" = some (some (.ref f4)))
    (l4 : K.lookup f4 = some ⟨oc4, od4, .func (PySem.W.fnOf "_law_leaf" "_law_leaf" (defArgs s_L_leaf_4) (defBody s_L_leaf_4) (defScope s_L_leaf_4) .none kV4 dc4 pm4 an4 cd4 ct4), sl4⟩)
    (c4 : PySem.W.codeIn K cd4 "_law_leaf" = true)
    (k4 : PySem.W.keepIn K (.ref f4) = true)
    (a5 : PySem.W.nsIn K mainGlobals "_law_drawn" = some (some (.ref f5)))
    (l5 : K.lookup f5 = some ⟨oc5, od5, .func (PySem.W.fnOf "_law_drawn" "_law_drawn" (defArgs s_L_drawn) (defBody s_L_drawn) (defScope s_L_drawn) .none kV5 dc5 pm5 an5 cd5 ct5), sl5⟩)
    (c5 : PySem.W.codeIn K cd5 "_law_drawn" = true)
    (k5 : PySem.W.keepIn K (.ref f5) = true)
    (a6 : PySem.W.nsIn K mainGlobals "_law_sums" = some (some (.ref f6)))
    (l6 : K.lookup f6 = some ⟨oc6, od6, .func (PySem.W.fnOf "_law_sums" "_law_sums" (defArgs s_L_sums) (defBody s_L_sums) (defScope s_L_sums) .none kV6 dc6 pm6 an6 cd6 ct6), sl6⟩)
    (c6 : PySem.W.codeIn K cd6 "_law_sums" = true)
    (k6 : PySem.W.keepIn K (.ref f6) = true)
    (a7 : PySem.W.nsIn K mainGlobals "_law_refusal" = some (some (.ref f7)))
    (l7 : K.lookup f7 = some ⟨oc7, od7, .func (PySem.W.fnOf "_law_refusal" "_law_refusal" (defArgs s_L_refusal) (defBody s_L_refusal) (defScope s_L_refusal) .none kV7 dc7 pm7 an7 cd7 ct7), sl7⟩)
    (c7 : PySem.W.codeIn K cd7 "_law_refusal" = true)
    (k7 : PySem.W.keepIn K (.ref f7) = true)
    (a8 : PySem.W.nsIn K mainGlobals "_law_written" = some (some (.ref f8)))
    (l8 : K.lookup f8 = some ⟨oc8, od8, .func (PySem.W.fnOf "_law_written" "_law_written" (defArgs s_L_written) (defBody s_L_written) (defScope s_L_written) .none kV8 dc8 pm8 an8 cd8 ct8), sl8⟩)
    (c8 : PySem.W.codeIn K cd8 "_law_written" = true)
    (k8 : PySem.W.keepIn K (.ref f8) = true)
    (a9 : PySem.W.nsIn K mainGlobals "size_of" = some (some (.ref f9)))
    (l9 : K.lookup f9 = some ⟨oc9, od9, .func (PySem.W.fnOf "size_of" "size_of" (defArgs s_size_of) (defBody s_size_of) (defScope s_size_of) .none kV9 dc9 pm9 an9 cd9 ct9), sl9⟩)
    (c9 : PySem.W.codeIn K cd9 "size_of" = true)
    (k9 : PySem.W.keepIn K (.ref f9) = true)
    (a10 : PySem.W.nsIn K mainGlobals "tree_part" = some (some (.ref f10)))
    (l10 : K.lookup f10 = some ⟨oc10, od10, .func (PySem.W.fnOf "tree_part" "tree_part" (defArgs s_tree_part) (defBody s_tree_part) (defScope s_tree_part) .none kV10 dc10 pm10 an10 cd10 ct10), sl10⟩)
    (c10 : PySem.W.codeIn K cd10 "tree_part" = true)
    (k10 : PySem.W.keepIn K (.ref f10) = true)
    (a11 : PySem.W.nsIn K mainGlobals "tree_of" = some (some (.ref f11)))
    (l11 : K.lookup f11 = some ⟨oc11, od11, .func (PySem.W.fnOf "tree_of" "tree_of" (defArgs s_tree_of) (defBody s_tree_of) (defScope s_tree_of) .none kV11 dc11 pm11 an11 cd11 ct11), sl11⟩)
    (c11 : PySem.W.codeIn K cd11 "tree_of" = true)
    (k11 : PySem.W.keepIn K (.ref f11) = true)
    (a12 : PySem.W.nsIn K mainGlobals "_law_tree_right" = some (some (.ref f12)))
    (l12 : K.lookup f12 = some ⟨oc12, od12, .func (PySem.W.fnOf "_law_tree_right" "_law_tree_right" (defArgs s_L_tree_right) (defBody s_L_tree_right) (defScope s_L_tree_right) .none kV12 dc12 pm12 an12 cd12 ct12), sl12⟩)
    (c12 : PySem.W.codeIn K cd12 "_law_tree_right" = true)
    (k12 : PySem.W.keepIn K (.ref f12) = true)
    (a13 : PySem.W.nsIn K mainGlobals "law" = some (some (.ref f13)))
    (l13 : K.lookup f13 = some ⟨oc13, od13, .func (PySem.W.fnOf "law" "law" (defArgs s_law_k14) (defBody s_law_k14) (defScope s_law_k14) .none kV13 dc13 pm13 an13 cd13 ct13), sl13⟩)
    (c13 : PySem.W.codeIn K cd13 "law" = true)
    (k13 : PySem.W.keepIn K (.ref f13) = true)
    (z_len : PySem.W.nsIn K mainGlobals "len" = some none)
    (z_range : PySem.W.nsIn K mainGlobals "range" = some none)
    (z_tuple : PySem.W.nsIn K mainGlobals "tuple" = some none)
    (z_min : PySem.W.nsIn K mainGlobals "min" = some none)
    (z_max : PySem.W.nsIn K mainGlobals "max" = some none)
    (z_sum : PySem.W.nsIn K mainGlobals "sum" = some none)
    (z_isinstance : PySem.W.nsIn K mainGlobals "isinstance" = some none)
    (z_ValueError : PySem.W.nsIn K mainGlobals "ValueError" = some none)
    (z_list : PySem.W.nsIn K mainGlobals "list" = some none)
    (z_int : PySem.W.nsIn K mainGlobals "int" = some none)
    (z_bool : PySem.W.nsIn K mainGlobals "bool" = some none)
    (xr1_TooBig : PySem.W.excIn K uc_TooBig veB "ValueError.__new__" = true)
    (xr2_TooBig : PySem.W.keepIn K (.ref uc_TooBig) = true)
    (xr3_TooBig : PySem.W.subIn K (.ref uc_TooBig) (.type "BaseException") = some true)
    (xr4_TooBig : PySem.W.typeIn K (.ref uc_TooBig) = some (.type "type"))
    (xa_TooBig : PySem.W.findIn K (.ref uc_TooBig) "__getattribute__" = some (some (.builtin "BaseException.__getattribute__")))
    (xb_TooBig : PySem.W.findIn K (.ref uc_TooBig) "__getattr__" = some none)
    (xc_TooBig : PySem.W.hasDictIn K uc_TooBig = true)
    (xd_TooBig : PySem.W.findIn K (.ref uc_TooBig) "__class__" = some (some (.builtin "object.__class__")))
    (xe_TooBig : PySem.W.specialIn K (.builtin "object.__class__") "__get__" = some (some (.builtin "getset_descriptor.__get__")))
    (xg_TooBig : PySem.W.takesIn K (.builtin "object.__class__") = some true)
    (xh_TooBig : PySem.W.mroIn K uc_TooBig (.type "object") = some true)
    (xv_TooBig : PySem.W.kitOne K (.ref uc_TooBig) (.type "ValueError") = some true)
    (xk_TooBig_SameError : PySem.W.kitOne K (.ref uc_TooBig) (.ref uc_SameError) = some true)
    (xm_TooBig_SameError : PySem.W.exmOne K (.ref uc_TooBig) (.ref uc_SameError) = some true)
    (xk_TooBig_NoTree : PySem.W.kitOne K (.ref uc_TooBig) (.ref uc_NoTree) = some false)
    (xm_TooBig_NoTree : PySem.W.exmOne K (.ref uc_TooBig) (.ref uc_NoTree) = some false)
    (xk_TooBig_NoRule : PySem.W.kitOne K (.ref uc_TooBig) (.ref uc_NoRule) = some false)
    (xm_TooBig_NoRule : PySem.W.exmOne K (.ref uc_TooBig) (.ref uc_NoRule) = some false)
    (xk_TooBig_NoRow : PySem.W.kitOne K (.ref uc_TooBig) (.ref uc_NoRow) = some false)
    (xm_TooBig_NoRow : PySem.W.exmOne K (.ref uc_TooBig) (.ref uc_NoRow) = some false)
    (xk_TooBig_Full : PySem.W.kitOne K (.ref uc_TooBig) (.ref uc_Full) = some false)
    (xm_TooBig_Full : PySem.W.exmOne K (.ref uc_TooBig) (.ref uc_Full) = some false)
    (xk_TooBig_Apart : PySem.W.kitOne K (.ref uc_TooBig) (.ref uc_Apart) = some false)
    (xm_TooBig_Apart : PySem.W.exmOne K (.ref uc_TooBig) (.ref uc_Apart) = some false)
    (xk_TooBig_TooBig : PySem.W.kitOne K (.ref uc_TooBig) (.ref uc_TooBig) = some true)
    (xm_TooBig_TooBig : PySem.W.exmOne K (.ref uc_TooBig) (.ref uc_TooBig) = some true)
    (xk_TooBig_TooWide : PySem.W.kitOne K (.ref uc_TooBig) (.ref uc_TooWide) = some false)
    (xm_TooBig_TooWide : PySem.W.exmOne K (.ref uc_TooBig) (.ref uc_TooWide) = some false) :
    ∃ fd : FuncData, (∀ (s : Shared) (v : Value), BindsTo s fd ⟨[v], []⟩ [("_law_script", v)]) ∧ ∀ base : Heap, K.In base → base.Ns mainGlobals mg → FnOk P w K mg base (L2.CX P w) 67 fa fd ["_law_script"] (spTop K) := by
  have e := hfa.symm.trans (PySem.W.mg_of X G a13)
  cases e
  have F0 := fun_mk (st := s_L_at) l0 c0 k0
  have b0 := F0.binds (ps := ["_law_script", "_law_k"]) fun _ _ _ _ _ _ us hl => match us, hl with | [_, _], _ => rfl
  have F1 := fun_mk (st := s_L_word_3) l1 c1 k1
  have b1 := F1.binds (ps := ["_law_script", "_law_which"]) fun _ _ _ _ _ _ us hl => match us, hl with | [_, _], _ => rfl
  have F2 := fun_mk (st := s_L_chain) l2 c2 k2
  have b2 := F2.binds (ps := ["_law_script", "_law_deep"]) fun _ _ _ _ _ _ us hl => match us, hl with | [_, _], _ => rfl
  have F3 := fun_mk (st := s_L_draw) l3 c3 k3
  have b3 := F3.binds (ps := ["_law_cell", "_law_factor", "_law_many"]) fun _ _ _ _ _ _ us hl => match us, hl with | [_, _, _], _ => rfl
  have F4 := fun_mk (st := s_L_leaf_4) l4 c4 k4
  have b4 := F4.binds (ps := ["_law_script", "_law_cell"]) fun _ _ _ _ _ _ us hl => match us, hl with | [_, _], _ => rfl
  have F5 := fun_mk (st := s_L_drawn) l5 c5 k5
  have b5 := F5.binds (ps := ["_law_script"]) fun _ _ _ _ _ _ us hl => match us, hl with | [_], _ => rfl
  have F6 := fun_mk (st := s_L_sums) l6 c6 k6
  have b6 := F6.binds (ps := ["_law_rows"]) fun _ _ _ _ _ _ us hl => match us, hl with | [_], _ => rfl
  have F7 := fun_mk (st := s_L_refusal) l7 c7 k7
  have b7 := F7.binds (ps := ["_law_problem"]) fun _ _ _ _ _ _ us hl => match us, hl with | [_], _ => rfl
  have F8 := fun_mk (st := s_L_written) l8 c8 k8
  have b8 := F8.binds (ps := ["_law_rows", "_law_k"]) fun _ _ _ _ _ _ us hl => match us, hl with | [_, _], _ => rfl
  have F9 := fun_mk (st := s_size_of) l9 c9 k9
  have b9 := F9.binds (ps := ["terms", "k"]) fun _ _ _ _ _ _ us hl => match us, hl with | [_, _], _ => rfl
  have F10 := fun_mk (st := s_tree_part) l10 c10 k10
  have b10 := F10.binds (ps := ["terms", "k"]) fun _ _ _ _ _ _ us hl => match us, hl with | [_, _], _ => rfl
  have F11 := fun_mk (st := s_tree_of) l11 c11 k11
  have b11 := F11.binds (ps := ["terms", "k"]) fun _ _ _ _ _ _ us hl => match us, hl with | [_, _], _ => rfl
  have F12 := fun_mk (st := s_L_tree_right) l12 c12 k12
  have b12 := F12.binds (ps := ["_law_rows", "_law_k", "_law_due"]) fun _ _ _ _ _ _ us hl => match us, hl with | [_, _, _], _ => rfl
  have F13 := fun_mk (st := s_law_k14) l13 c13 k13
  have b13 := F13.binds (ps := ["_law_script"]) fun _ _ _ _ _ _ us hl => match us, hl with | [_], _ => rfl
  let T : Txt K mg := { a_L_at := _, d_L_at := _, h_L_at := F0, b0_L_at := b0, m_L_at := PySem.W.mg_of X G a0, a_L_word_3 := _, d_L_word_3 := _, h_L_word_3 := F1, b0_L_word_3 := b1, m_L_word_3 := PySem.W.mg_of X G a1, a_L_chain := _, d_L_chain := _, h_L_chain := F2, b0_L_chain := b2, m_L_chain := PySem.W.mg_of X G a2, a_L_draw := _, d_L_draw := _, h_L_draw := F3, b0_L_draw := b3, m_L_draw := PySem.W.mg_of X G a3, a_L_leaf_4 := _, d_L_leaf_4 := _, h_L_leaf_4 := F4, b0_L_leaf_4 := b4, m_L_leaf_4 := PySem.W.mg_of X G a4, a_L_drawn := _, d_L_drawn := _, h_L_drawn := F5, b0_L_drawn := b5, m_L_drawn := PySem.W.mg_of X G a5, a_L_sums := _, d_L_sums := _, h_L_sums := F6, b0_L_sums := b6, m_L_sums := PySem.W.mg_of X G a6, a_L_refusal := _, d_L_refusal := _, h_L_refusal := F7, b0_L_refusal := b7, m_L_refusal := PySem.W.mg_of X G a7, a_L_written := _, d_L_written := _, h_L_written := F8, b0_L_written := b8, m_L_written := PySem.W.mg_of X G a8, a_size_of := _, d_size_of := _, h_size_of := F9, b0_size_of := b9, m_size_of := PySem.W.mg_of X G a9, a_tree_part := _, d_tree_part := _, h_tree_part := F10, b0_tree_part := b10, m_tree_part := PySem.W.mg_of X G a10, a_tree_of := _, d_tree_of := _, h_tree_of := F11, b0_tree_of := b11, m_tree_of := PySem.W.mg_of X G a11, a_L_tree_right := _, d_L_tree_right := _, h_L_tree_right := F12, b0_L_tree_right := b12, m_L_tree_right := PySem.W.mg_of X G a12, a_law_k14 := _, d_law_k14 := _, h_law_k14 := F13, b0_law_k14 := b13, m_law_k14 := PySem.W.mg_of X G a13, z_len := PySem.W.mg_none_of X G z_len, z_range := PySem.W.mg_none_of X G z_range, z_tuple := PySem.W.mg_none_of X G z_tuple, z_min := PySem.W.mg_none_of X G z_min, z_max := PySem.W.mg_none_of X G z_max, z_sum := PySem.W.mg_none_of X G z_sum, z_isinstance := PySem.W.mg_none_of X G z_isinstance, z_ValueError := PySem.W.mg_none_of X G z_ValueError, z_list := PySem.W.mg_none_of X G z_list, z_int := PySem.W.mg_none_of X G z_int, z_bool := PySem.W.mg_none_of X G z_bool, c_TooBig := _, m_TooBig := PySem.W.mg_of X G u_TooBig, c_Full := _, m_Full := PySem.W.mg_of X G u_Full, c_TooWide := _, m_TooWide := PySem.W.mg_of X G u_TooWide, c_Apart := _, m_Apart := PySem.W.mg_of X G u_Apart, c_NoRow := _, m_NoRow := PySem.W.mg_of X G u_NoRow, c_NoRule := _, m_NoRule := PySem.W.mg_of X G u_NoRule, c_NoTree := _, m_NoTree := PySem.W.mg_of X G u_NoTree, c_SameError := _, m_SameError := PySem.W.mg_of X G u_SameError, xr1_TooBig := xr1_TooBig, xr2_TooBig := xr2_TooBig, xr3_TooBig := xr3_TooBig, xr4_TooBig := xr4_TooBig, xv_TooBig := xv_TooBig, xx_TooBig := ⟨xa_TooBig, xb_TooBig, xr3_TooBig, xc_TooBig, xd_TooBig, xe_TooBig, xg_TooBig, xh_TooBig⟩, xk_TooBig_SameError := xk_TooBig_SameError, xm_TooBig_SameError := xm_TooBig_SameError, xk_TooBig_NoTree := xk_TooBig_NoTree, xm_TooBig_NoTree := xm_TooBig_NoTree, xk_TooBig_NoRule := xk_TooBig_NoRule, xm_TooBig_NoRule := xm_TooBig_NoRule, xk_TooBig_NoRow := xk_TooBig_NoRow, xm_TooBig_NoRow := xm_TooBig_NoRow, xk_TooBig_Full := xk_TooBig_Full, xm_TooBig_Full := xm_TooBig_Full, xk_TooBig_Apart := xk_TooBig_Apart, xm_TooBig_Apart := xm_TooBig_Apart, xk_TooBig_TooBig := xk_TooBig_TooBig, xm_TooBig_TooBig := xm_TooBig_TooBig, xk_TooBig_TooWide := xk_TooBig_TooWide, xm_TooBig_TooWide := xm_TooBig_TooWide }
  refine ⟨PySem.W.fnOf "law" "law" (defArgs s_law_k14) (defBody s_law_k14) (defScope s_law_k14) .none kV13 dc13 pm13 an13 cd13 ct13, fun s v => .of_eq rfl, fun base _ _ => ?_⟩
  exact top_ok (c_law_k14 T) main
end FL.Wk14
end
section
set_option linter.all false
set_option maxRecDepth 100000
namespace FL
open PySem PySem.Spec PyProof.Rows L2
noncomputable section
def b_parts_s1 (p_parts : Fn) : FS :=
    (augS 1 iaddV (callF 1 p_parts [] (consA (varF 2) nilA)))
def b_parts (p_parts : Fn) : FS :=
    (seqS (setS 1 (cstF (.int 1)))
    (seqS (ifS (isB (opF eqV (opF idxV (varF 0) (cstF (.int 0))) (cstF (.str ("of" : Str))))) (forS (seqI (opF idxV (varF 0) (cstF (.int 2)))) (nameG 2) (b_parts_s1 p_parts)) nxS)
    (retS (varF 1))))
def F_parts : Nat → Fn
  | 0 => fn0
  | n + 1 => runFn 3 (b_parts (F_parts n))
end
end FL
end
section
set_option linter.all false
set_option maxRecDepth 100000
namespace FL
open PySem PySem.Spec PyProof.Rows L2
noncomputable section
def b_depth_e1 (p_depth : Fn) : FE :=
    (callF 1 p_depth [] (consA (varF 1) nilA))
def b_depth (p_depth : Fn) : FS :=
    (seqS (ifS (isB (opF neV (opF idxV (varF 0) (cstF (.int 0))) (cstF (.str ("of" : Str))))) (retS (cstF (.int 1))) nxS)
    (retS (opF addV (cstF (.int 1)) (cbF maxV (consA (lcF (seqI (opF idxV (varF 0) (cstF (.int 2)))) [1] (nameG 1) yesT (b_depth_e1 p_depth)) nilA)))))
def F_depth : Nat → Fn
  | 0 => fn0
  | n + 1 => runFn 2 (b_depth (F_depth n))
end
end FL
end
section
set_option linter.all false
set_option maxRecDepth 100000
namespace FL
open PySem PySem.Spec PyProof.Rows L2
noncomputable section
def b_knots_e1 (p_knots : Fn) : FE :=
    (callF 1 p_knots [] (consA (varF 1) nilA))
def b_knots (p_knots : Fn) : FS :=
    (seqS (ifS (isB (opF neV (opF idxV (varF 0) (cstF (.int 0))) (cstF (.str ("of" : Str))))) (retS (cstF (.int 0))) nxS)
    (retS (opF addV (cstF (.int 1)) (cbF sumV (consA (lcF (seqI (opF idxV (varF 0) (cstF (.int 2)))) [1] (nameG 1) yesT (b_knots_e1 p_knots)) nilA)))))
def F_knots : Nat → Fn
  | 0 => fn0
  | n + 1 => runFn 2 (b_knots (F_knots n))
end
end FL
end
section
set_option linter.all false
set_option maxRecDepth 100000
namespace FL
open PySem PySem.Spec PyProof.Rows L2
noncomputable section
/-! ## trees and patterns -/
inductive Tr where
  | num (i : Int) | name (x : Str) | any (x : Str) | of (w : Str) (as : List Tr)
mutual
def Tr.pv : Tr → PV
  | .num i => .tup [.str "num", .int i]
  | .name x => .tup [.str "name", .str x]
  | .any x => .tup [.str "any", .str x]
  | .of w as => .tup [.str "of", .str w, .tup (pvs as)]
def pvs : List Tr → List PV
  | [] => []
  | t :: r => t.pv :: pvs r
end
mutual
def Tr.parts : Tr → Nat
  | .num _ => 1
  | .name _ => 1
  | .any _ => 1
  | .of _ as => 1 + partsL as
def partsL : List Tr → Nat
  | [] => 0
  | t :: r => t.parts + partsL r
end
mutual
def Tr.depth : Tr → Nat
  | .num _ => 1
  | .name _ => 1
  | .any _ => 1
  | .of _ as => 1 + depthL as
def depthL : List Tr → Nat
  | [] => 0
  | t :: r => max t.depth (depthL r)
end
mutual
def Tr.knots : Tr → Nat
  | .num _ => 0
  | .name _ => 0
  | .any _ => 0
  | .of _ as => 1 + knotsL as
def knotsL : List Tr → Nat
  | [] => 0
  | t :: r => t.knots + knotsL r
end
mutual
/-- each knot has arms -/
def Tr.ok : Tr → Bool
  | .of _ as => !as.isEmpty && decide (as.length ≤ 1000) && okL as
  | _ => true
def okL : List Tr → Bool
  | [] => true
  | t :: r => t.ok && okL r
end
theorem pvs_map (as : List Tr) : pvs as = as.map Tr.pv := by
  induction as with
  | nil => rfl
  | cons a r ih => rw [pvs, ih, List.map_cons]
theorem partsL_eq (as : List Tr) : partsL as = (as.map Tr.parts).sum := by
  induction as with
  | nil => rfl
  | cons a r ih => rw [partsL, ih, List.map_cons, List.sum_cons]
theorem knotsL_eq (as : List Tr) : knotsL as = (as.map Tr.knots).sum := by
  induction as with
  | nil => rfl
  | cons a r ih => rw [knotsL, ih, List.map_cons, List.sum_cons]
theorem depthL_le {as : List Tr} {a : Tr} (h : a ∈ as) : a.depth ≤ depthL as := by
  induction as with
  | nil => cases h
  | cons b r ih =>
    rw [depthL]
    rcases List.mem_cons.mp h with rfl | h
    · omega
    · have := ih h; omega
theorem depth_pos (t : Tr) : 1 ≤ t.depth := by cases t <;> simp only [Tr.depth] <;> omega
theorem okL_mem {as : List Tr} (h : okL as = true) {a : Tr} (ha : a ∈ as) : a.ok = true := by
  induction as with
  | nil => cases ha
  | cons b r ih =>
    rw [okL, Bool.and_eq_true] at h
    rcases List.mem_cons.mp ha with rfl | ha
    · exact h.1
    · exact ih h.2 ha
mutual
theorem pv_pure : ∀ t : Tr, pureP t.pv = true
  | .num _ => rfl
  | .name _ => rfl
  | .any _ => rfl
  | .of w as => by
    simp only [Tr.pv, pureP, puresP, Bool.and_true, Bool.true_and]
    exact pvs_pure as
theorem pvs_pure : ∀ as : List Tr, puresP (pvs as) = true
  | [] => rfl
  | t :: r => by rw [pvs, puresP, pv_pure t, pvs_pure r]; rfl
end
theorem sum_nat (l : List Nat) : (l.map fun n : Nat => (n : Int)).sum = ((l.sum : Nat) : Int) := by
  induction l with
  | nil => rfl
  | cons a r ih => rw [List.map_cons, List.sum_cons, ih, List.sum_cons]; simp
theorem F_parts_ok : ∀ (n : Nat) (t : Tr) (st : Store), t.depth ≤ n → F_parts n [t.pv] st = .ok (.int (t.parts : Nat)) st := by
  intro n
  induction n with
  | zero => intro t st h; have := depth_pos t; omega
  | succ n ih =>
    intro t st h
    unfold F_parts
    refine run_rt0 ?_ rfl
    cases t with
    | num i => simp only [b_parts, Tr.pv, seqS, ifS, setS, augS, dropS, retS, retN, nxS, bkS, ctS, asgS, subS, R.toS, R.bind, R.of, opF, unF, varF, cstF, chF, isB, asB, andT, orT, notT, andF, orF, notF, ifF, nilA, consA, tupF, lstF, cbF, callF, bmF', truT, truV, nameG, nilG, consG, tupG, List.set_cons_zero, List.set_cons_succ, List.getElem?_cons_zero, List.getElem?_cons_succ, Option.bind_some, Option.bind_none, Option.map_some, Option.map_none, List.length_cons, List.length_nil, List.cons_append, List.nil_append, List.append_nil, if_true, if_false, ite_true, ite_false, Bool.false_eq_true, reduceIte, reduceCtorEq, List.map_cons, List.map_nil, Nat.sub_self, List.replicate_succ, List.replicate_zero, Nat.reduceSub, Nat.reduceAdd, Nat.reduceLT, Nat.reduceLeDiff, Nat.reduceEqDiff, Nat.reduceMul, Nat.reducePow, Int.reduceLT, Int.reduceLE, Int.reduceAdd, Int.reduceMul, Int.reduceSub, Int.reduceNeg, Int.reduceEq, Int.reducePow, Int.reduceMod, Int.reduceDiv, Int.reduceToNat, decide_true, decide_false, and_true, true_and, and_self, Option.some.injEq, addV, iaddV, subV, mulV, fdivV, modV, powV, negV, cmpV, isNonV, notNonV, eqV, neV, eqB, scEq, t1, t2, t3, t4, t5, t6, t7, t8, t9, t10, t11, t12, t13, t14, t15, t16, idxV, at0, at1, at2, at3, at4, at5, seqAt, lstAt, lenV, isiV, typV, kb1, kb2, kb3, kb4, kb5, kb6, kb7, kb8, kb9, kb10, kb11, Tr.parts]; rfl
    | name i => simp only [b_parts, Tr.pv, seqS, ifS, setS, augS, dropS, retS, retN, nxS, bkS, ctS, asgS, subS, R.toS, R.bind, R.of, opF, unF, varF, cstF, chF, isB, asB, andT, orT, notT, andF, orF, notF, ifF, nilA, consA, tupF, lstF, cbF, callF, bmF', truT, truV, nameG, nilG, consG, tupG, List.set_cons_zero, List.set_cons_succ, List.getElem?_cons_zero, List.getElem?_cons_succ, Option.bind_some, Option.bind_none, Option.map_some, Option.map_none, List.length_cons, List.length_nil, List.cons_append, List.nil_append, List.append_nil, if_true, if_false, ite_true, ite_false, Bool.false_eq_true, reduceIte, reduceCtorEq, List.map_cons, List.map_nil, Nat.sub_self, List.replicate_succ, List.replicate_zero, Nat.reduceSub, Nat.reduceAdd, Nat.reduceLT, Nat.reduceLeDiff, Nat.reduceEqDiff, Nat.reduceMul, Nat.reducePow, Int.reduceLT, Int.reduceLE, Int.reduceAdd, Int.reduceMul, Int.reduceSub, Int.reduceNeg, Int.reduceEq, Int.reducePow, Int.reduceMod, Int.reduceDiv, Int.reduceToNat, decide_true, decide_false, and_true, true_and, and_self, Option.some.injEq, addV, iaddV, subV, mulV, fdivV, modV, powV, negV, cmpV, isNonV, notNonV, eqV, neV, eqB, scEq, t1, t2, t3, t4, t5, t6, t7, t8, t9, t10, t11, t12, t13, t14, t15, t16, idxV, at0, at1, at2, at3, at4, at5, seqAt, lstAt, lenV, isiV, typV, kb1, kb2, kb3, kb4, kb5, kb6, kb7, kb8, kb9, kb10, kb11, Tr.parts]; rfl
    | any i => simp only [b_parts, Tr.pv, seqS, ifS, setS, augS, dropS, retS, retN, nxS, bkS, ctS, asgS, subS, R.toS, R.bind, R.of, opF, unF, varF, cstF, chF, isB, asB, andT, orT, notT, andF, orF, notF, ifF, nilA, consA, tupF, lstF, cbF, callF, bmF', truT, truV, nameG, nilG, consG, tupG, List.set_cons_zero, List.set_cons_succ, List.getElem?_cons_zero, List.getElem?_cons_succ, Option.bind_some, Option.bind_none, Option.map_some, Option.map_none, List.length_cons, List.length_nil, List.cons_append, List.nil_append, List.append_nil, if_true, if_false, ite_true, ite_false, Bool.false_eq_true, reduceIte, reduceCtorEq, List.map_cons, List.map_nil, Nat.sub_self, List.replicate_succ, List.replicate_zero, Nat.reduceSub, Nat.reduceAdd, Nat.reduceLT, Nat.reduceLeDiff, Nat.reduceEqDiff, Nat.reduceMul, Nat.reducePow, Int.reduceLT, Int.reduceLE, Int.reduceAdd, Int.reduceMul, Int.reduceSub, Int.reduceNeg, Int.reduceEq, Int.reducePow, Int.reduceMod, Int.reduceDiv, Int.reduceToNat, decide_true, decide_false, and_true, true_and, and_self, Option.some.injEq, addV, iaddV, subV, mulV, fdivV, modV, powV, negV, cmpV, isNonV, notNonV, eqV, neV, eqB, scEq, t1, t2, t3, t4, t5, t6, t7, t8, t9, t10, t11, t12, t13, t14, t15, t16, idxV, at0, at1, at2, at3, at4, at5, seqAt, lstAt, lenV, isiV, typV, kb1, kb2, kb3, kb4, kb5, kb6, kb7, kb8, kb9, kb10, kb11, Tr.parts]; rfl
    | of w as =>
      simp only [Tr.depth] at h
      obtain ⟨e', st', h1, h2⟩ := forL_inv (gd := []) (g := nameG 2) (b := b_parts_s1 (F_parts n)) (xs := pvs as)
        (fun i e s => s = st ∧ ∃ v, e = [some (Tr.of w as).pv, some (.int ((1 + ((as.take i).map Tr.parts).sum : Nat) : Int)), v]) (e := [some (Tr.of w as).pv, some (.int 1), none]) (st := st) ⟨rfl, none, rfl⟩ (fun i x e s hx hP => by
          obtain ⟨rfl, v, rfl⟩ := hP
          rw [pvs_map, List.getElem?_map] at hx
          obtain ⟨a, ha, rfl⟩ := Option.map_eq_some_iff.mp hx
          have hd := depthL_le (List.mem_of_getElem? ha)
          refine ⟨gd_nil _, _, rfl, _, _, ?_, rfl, some a.pv, rfl⟩
          simp only [b_parts_s1, seqS, ifS, setS, augS, dropS, retS, retN, nxS, bkS, ctS, asgS, subS, R.toS, R.bind, R.of, opF, unF, varF, cstF, chF, isB, asB, andT, orT, notT, andF, orF, notF, ifF, nilA, consA, tupF, lstF, cbF, callF, bmF', truT, truV, nameG, nilG, consG, tupG, List.set_cons_zero, List.set_cons_succ, List.getElem?_cons_zero, List.getElem?_cons_succ, Option.bind_some, Option.bind_none, Option.map_some, Option.map_none, List.length_cons, List.length_nil, List.cons_append, List.nil_append, List.append_nil, if_true, if_false, ite_true, ite_false, Bool.false_eq_true, reduceIte, reduceCtorEq, List.map_cons, List.map_nil, Nat.sub_self, List.replicate_succ, List.replicate_zero, Nat.reduceSub, Nat.reduceAdd, Nat.reduceLT, Nat.reduceLeDiff, Nat.reduceEqDiff, Nat.reduceMul, Nat.reducePow, Int.reduceLT, Int.reduceLE, Int.reduceAdd, Int.reduceMul, Int.reduceSub, Int.reduceNeg, Int.reduceEq, Int.reducePow, Int.reduceMod, Int.reduceDiv, Int.reduceToNat, decide_true, decide_false, and_true, true_and, and_self, Option.some.injEq, addV, iaddV, subV, mulV, fdivV, modV, powV, negV, cmpV, isNonV, notNonV, ih a s (by omega)]
          rw [List.take_add_one, ha]
          simp only [Option.toList_some, List.map_append, List.sum_append, List.map_cons, List.map_nil, List.sum_cons, List.sum_nil]
          congr 5
          omega) (fun e s _ => gd_nil _)
      obtain ⟨rfl, v, rfl⟩ := h2
      rw [pvs_map, List.length_map, List.take_length, ← partsL_eq] at h1
      rw [← pvs_map] at h1
      simp only [Tr.pv] at h1
      simp only [b_parts, Tr.pv, seqS, ifS, setS, augS, dropS, retS, retN, nxS, bkS, ctS, asgS, subS, R.toS, R.bind, R.of, opF, unF, varF, cstF, chF, isB, asB, andT, orT, notT, andF, orF, notF, ifF, nilA, consA, tupF, lstF, cbF, callF, bmF', truT, truV, nameG, nilG, consG, tupG, List.set_cons_zero, List.set_cons_succ, List.getElem?_cons_zero, List.getElem?_cons_succ, Option.bind_some, Option.bind_none, Option.map_some, Option.map_none, List.length_cons, List.length_nil, List.cons_append, List.nil_append, List.append_nil, if_true, if_false, ite_true, ite_false, Bool.false_eq_true, reduceIte, reduceCtorEq, List.map_cons, List.map_nil, Nat.sub_self, List.replicate_succ, List.replicate_zero, Nat.reduceSub, Nat.reduceAdd, Nat.reduceLT, Nat.reduceLeDiff, Nat.reduceEqDiff, Nat.reduceMul, Nat.reducePow, Int.reduceLT, Int.reduceLE, Int.reduceAdd, Int.reduceMul, Int.reduceSub, Int.reduceNeg, Int.reduceEq, Int.reducePow, Int.reduceMod, Int.reduceDiv, Int.reduceToNat, decide_true, decide_false, and_true, true_and, and_self, Option.some.injEq, addV, iaddV, subV, mulV, fdivV, modV, powV, negV, cmpV, isNonV, notNonV, eqV, neV, eqB, scEq, t1, t2, t3, t4, t5, t6, t7, t8, t9, t10, t11, t12, t13, t14, t15, t16, idxV, at0, at1, at2, at3, at4, at5, seqAt, lstAt, lenV, isiV, typV, kb1, kb2, kb3, kb4, kb5, kb6, kb7, kb8, kb9, kb10, kb11, Tr.parts, forS, seqI, gdOf, h1]
theorem foldl_max (l : List Nat) (a : Nat) : (l.map fun n : Nat => (n : Int)).foldl max (a : Int) = ((l.foldl max a : Nat) : Int) := by
  induction l generalizing a with
  | nil => rfl
  | cons b r ih =>
    rw [List.map_cons, List.foldl_cons, List.foldl_cons, ← ih]
    congr 1
    omega
theorem depthL_fold (as : List Tr) (a : Nat) : (as.map Tr.depth).foldl max a = max a (depthL as) := by
  induction as generalizing a with
  | nil => simp [depthL]
  | cons b r ih => rw [List.map_cons, List.foldl_cons, ih, depthL]; omega
theorem maxL_depth {as : List Tr} (h : as ≠ []) : maxL (as.map fun a => ((a.depth : Nat) : Int)) = ((depthL as : Nat) : Int) := by
  cases as with
  | nil => exact absurd rfl h
  | cons b r =>
    have e : ((b :: r).map fun a => ((a.depth : Nat) : Int)) = ((b :: r).map Tr.depth).map fun n : Nat => (n : Int) := by rw [List.map_map]; rfl
    unfold maxL
    rw [e]
    show List.foldl max ((b.depth : Nat) : Int) _ = _
    rw [foldl_max, depthL_fold, depthL]
    congr 1
    omega
theorem intsOf_mapf {α : Type} (xs : List α) (f : α → Int) : intsOf (xs.map fun a => PV.int (f a)) = some (xs.map f) := by
  have := intsOf_map (xs.map f)
  rwa [List.map_map] at this
theorem gd_one {s : Store} {r : Nat} {o : PO} (h : s[r]? = some o) : GdOk [(r, o)] s := fun p hp => by
  rw [List.mem_singleton] at hp
  subst hp
  exact h
theorem lcE {α : Type} {i k : Nat} {fe : FE} {e : Env} {s : Store} (r : Nat) (as : List α) (f φ : α → PV) (hv : e[i]? = some (some (.ref r))) (hs : s[r]? = some (.lst (as.map f))) (hl : as.length ≤ 1000000)
    (hx : ∀ a ∈ as, ∀ acc, fe ((wipeE e [k]).set k (some (f a))) (s ++ [.lst acc]) = .ok (φ a) (s ++ [.lst acc])) :
    lcF (seqI (varF i)) [k] (nameG k) yesT fe e s = .ok (.ref s.length) (s ++ [.lst (as.map φ)]) :=
  lcF_map (gd := [(r, .lst (as.map f))]) as f φ (by simp only [seqI, varF, hv, R.bind, seqAt, lstAt, hs, gdOf]) (fun acc => gd_one (getOld hs)) (by rw [sizeLine_eq]; omega) fun a ha => ⟨_, rfl, hx a ha⟩
theorem lcT {α : Type} {i k : Nat} {fi : FE} {fe : FE} {e : Env} {s : Store} (as : List α) (f φ : α → PV) (hv : fi e s = .ok (.tup (as.map f)) s) (hl : as.length ≤ 1000000)
    (hx : ∀ a ∈ as, ∀ acc, fe ((wipeE e [k]).set k (some (f a))) (s ++ [.lst acc]) = .ok (φ a) (s ++ [.lst acc])) :
    lcF (seqI fi) [k] (nameG k) yesT fe e s = .ok (.ref s.length) (s ++ [.lst (as.map φ)]) :=
  lcF_map (gd := []) as f φ (by simp only [seqI, hv, R.bind, seqAt, gdOf]) (fun acc => gd_nil _) (by rw [sizeLine_eq]; omega) fun a ha => ⟨_, rfl, hx a ha⟩
theorem okL_ne {as : List Tr} {w : Str} (h : (Tr.of w as).ok = true) : as ≠ [] ∧ as.length ≤ 1000 ∧ okL as = true := by
  simp only [Tr.ok, Bool.and_eq_true, decide_eq_true_eq, Bool.not_eq_true', List.isEmpty_eq_false_iff] at h
  exact ⟨h.1.1, h.1.2, h.2⟩
theorem F_depth_ok : ∀ (n : Nat) (t : Tr) (st : Store), t.depth ≤ n → t.ok = true → F_depth n [t.pv] st = .ok (.int (t.depth : Nat)) st := by
  intro n
  induction n with
  | zero => intro t st h; have := depth_pos t; omega
  | succ n ih =>
    intro t st h hok
    unfold F_depth
    cases t with
    | num i => refine run_rt0 ?_ rfl; simp only [b_depth, Tr.pv, seqS, ifS, setS, augS, dropS, retS, retN, nxS, bkS, ctS, asgS, subS, R.toS, R.bind, R.of, opF, unF, varF, cstF, chF, isB, asB, andT, orT, notT, andF, orF, notF, ifF, nilA, consA, tupF, lstF, cbF, callF, bmF', truT, truV, nameG, nilG, consG, tupG, List.set_cons_zero, List.set_cons_succ, List.getElem?_cons_zero, List.getElem?_cons_succ, Option.bind_some, Option.bind_none, Option.map_some, Option.map_none, List.length_cons, List.length_nil, List.cons_append, List.nil_append, List.append_nil, if_true, if_false, ite_true, ite_false, Bool.false_eq_true, reduceIte, reduceCtorEq, List.map_cons, List.map_nil, Nat.sub_self, List.replicate_succ, List.replicate_zero, Nat.reduceSub, Nat.reduceAdd, Nat.reduceLT, Nat.reduceLeDiff, Nat.reduceEqDiff, Nat.reduceMul, Nat.reducePow, Int.reduceLT, Int.reduceLE, Int.reduceAdd, Int.reduceMul, Int.reduceSub, Int.reduceNeg, Int.reduceEq, Int.reducePow, Int.reduceMod, Int.reduceDiv, Int.reduceToNat, decide_true, decide_false, and_true, true_and, and_self, Option.some.injEq, addV, iaddV, subV, mulV, fdivV, modV, powV, negV, cmpV, isNonV, notNonV, eqV, neV, eqB, scEq, t1, t2, t3, t4, t5, t6, t7, t8, t9, t10, t11, t12, t13, t14, t15, t16, idxV, at0, at1, at2, at3, at4, at5, seqAt, lstAt, lenV, isiV, typV, kb1, kb2, kb3, kb4, kb5, kb6, kb7, kb8, kb9, kb10, kb11, Tr.depth, Bool.not_false]; rfl
    | name i => refine run_rt0 ?_ rfl; simp only [b_depth, Tr.pv, seqS, ifS, setS, augS, dropS, retS, retN, nxS, bkS, ctS, asgS, subS, R.toS, R.bind, R.of, opF, unF, varF, cstF, chF, isB, asB, andT, orT, notT, andF, orF, notF, ifF, nilA, consA, tupF, lstF, cbF, callF, bmF', truT, truV, nameG, nilG, consG, tupG, List.set_cons_zero, List.set_cons_succ, List.getElem?_cons_zero, List.getElem?_cons_succ, Option.bind_some, Option.bind_none, Option.map_some, Option.map_none, List.length_cons, List.length_nil, List.cons_append, List.nil_append, List.append_nil, if_true, if_false, ite_true, ite_false, Bool.false_eq_true, reduceIte, reduceCtorEq, List.map_cons, List.map_nil, Nat.sub_self, List.replicate_succ, List.replicate_zero, Nat.reduceSub, Nat.reduceAdd, Nat.reduceLT, Nat.reduceLeDiff, Nat.reduceEqDiff, Nat.reduceMul, Nat.reducePow, Int.reduceLT, Int.reduceLE, Int.reduceAdd, Int.reduceMul, Int.reduceSub, Int.reduceNeg, Int.reduceEq, Int.reducePow, Int.reduceMod, Int.reduceDiv, Int.reduceToNat, decide_true, decide_false, and_true, true_and, and_self, Option.some.injEq, addV, iaddV, subV, mulV, fdivV, modV, powV, negV, cmpV, isNonV, notNonV, eqV, neV, eqB, scEq, t1, t2, t3, t4, t5, t6, t7, t8, t9, t10, t11, t12, t13, t14, t15, t16, idxV, at0, at1, at2, at3, at4, at5, seqAt, lstAt, lenV, isiV, typV, kb1, kb2, kb3, kb4, kb5, kb6, kb7, kb8, kb9, kb10, kb11, Tr.depth, Bool.not_false]; rfl
    | any i => refine run_rt0 ?_ rfl; simp only [b_depth, Tr.pv, seqS, ifS, setS, augS, dropS, retS, retN, nxS, bkS, ctS, asgS, subS, R.toS, R.bind, R.of, opF, unF, varF, cstF, chF, isB, asB, andT, orT, notT, andF, orF, notF, ifF, nilA, consA, tupF, lstF, cbF, callF, bmF', truT, truV, nameG, nilG, consG, tupG, List.set_cons_zero, List.set_cons_succ, List.getElem?_cons_zero, List.getElem?_cons_succ, Option.bind_some, Option.bind_none, Option.map_some, Option.map_none, List.length_cons, List.length_nil, List.cons_append, List.nil_append, List.append_nil, if_true, if_false, ite_true, ite_false, Bool.false_eq_true, reduceIte, reduceCtorEq, List.map_cons, List.map_nil, Nat.sub_self, List.replicate_succ, List.replicate_zero, Nat.reduceSub, Nat.reduceAdd, Nat.reduceLT, Nat.reduceLeDiff, Nat.reduceEqDiff, Nat.reduceMul, Nat.reducePow, Int.reduceLT, Int.reduceLE, Int.reduceAdd, Int.reduceMul, Int.reduceSub, Int.reduceNeg, Int.reduceEq, Int.reducePow, Int.reduceMod, Int.reduceDiv, Int.reduceToNat, decide_true, decide_false, and_true, true_and, and_self, Option.some.injEq, addV, iaddV, subV, mulV, fdivV, modV, powV, negV, cmpV, isNonV, notNonV, eqV, neV, eqB, scEq, t1, t2, t3, t4, t5, t6, t7, t8, t9, t10, t11, t12, t13, t14, t15, t16, idxV, at0, at1, at2, at3, at4, at5, seqAt, lstAt, lenV, isiV, typV, kb1, kb2, kb3, kb4, kb5, kb6, kb7, kb8, kb9, kb10, kb11, Tr.depth, Bool.not_false]; rfl
    | of w as =>
      obtain ⟨o1, o2, o3⟩ := okL_ne hok
      simp only [Tr.depth] at h
      refine run_rt (g := [.lst (as.map fun a => .int (a.depth : Nat))]) ?_ rfl
      have hl := lcT (i := 0) (k := 1) (fi := opF idxV (varF 0) (cstF (.int 2))) (fe := b_depth_e1 (F_depth n)) (e := [some (Tr.of w as).pv, none]) (s := st) as Tr.pv (fun a => .int (a.depth : Nat)) (by simp only [Tr.pv, pvs_map, seqS, ifS, setS, augS, dropS, retS, retN, nxS, bkS, ctS, asgS, subS, R.toS, R.bind, R.of, opF, unF, varF, cstF, chF, isB, asB, andT, orT, notT, andF, orF, notF, ifF, nilA, consA, tupF, lstF, cbF, callF, bmF', truT, truV, nameG, nilG, consG, tupG, List.set_cons_zero, List.set_cons_succ, List.getElem?_cons_zero, List.getElem?_cons_succ, Option.bind_some, Option.bind_none, Option.map_some, Option.map_none, List.length_cons, List.length_nil, List.cons_append, List.nil_append, List.append_nil, if_true, if_false, ite_true, ite_false, Bool.false_eq_true, reduceIte, reduceCtorEq, List.map_cons, List.map_nil, Nat.sub_self, List.replicate_succ, List.replicate_zero, Nat.reduceSub, Nat.reduceAdd, Nat.reduceLT, Nat.reduceLeDiff, Nat.reduceEqDiff, Nat.reduceMul, Nat.reducePow, Int.reduceLT, Int.reduceLE, Int.reduceAdd, Int.reduceMul, Int.reduceSub, Int.reduceNeg, Int.reduceEq, Int.reducePow, Int.reduceMod, Int.reduceDiv, Int.reduceToNat, decide_true, decide_false, and_true, true_and, and_self, Option.some.injEq, idxV, at0, at1, at2, at3, at4, at5, seqAt, lstAt, lenV, isiV, typV, kb1, kb2, kb3, kb4, kb5, kb6, kb7, kb8, kb9, kb10, kb11]) (by omega) (fun a ha acc => by
        simp only [b_depth_e1, wipeE, seqS, ifS, setS, augS, dropS, retS, retN, nxS, bkS, ctS, asgS, subS, R.toS, R.bind, R.of, opF, unF, varF, cstF, chF, isB, asB, andT, orT, notT, andF, orF, notF, ifF, nilA, consA, tupF, lstF, cbF, callF, bmF', truT, truV, nameG, nilG, consG, tupG, List.set_cons_zero, List.set_cons_succ, List.getElem?_cons_zero, List.getElem?_cons_succ, Option.bind_some, Option.bind_none, Option.map_some, Option.map_none, List.length_cons, List.length_nil, List.cons_append, List.nil_append, List.append_nil, if_true, if_false, ite_true, ite_false, Bool.false_eq_true, reduceIte, reduceCtorEq, List.map_cons, List.map_nil, Nat.sub_self, List.replicate_succ, List.replicate_zero, Nat.reduceSub, Nat.reduceAdd, Nat.reduceLT, Nat.reduceLeDiff, Nat.reduceEqDiff, Nat.reduceMul, Nat.reducePow, Int.reduceLT, Int.reduceLE, Int.reduceAdd, Int.reduceMul, Int.reduceSub, Int.reduceNeg, Int.reduceEq, Int.reducePow, Int.reduceMod, Int.reduceDiv, Int.reduceToNat, decide_true, decide_false, and_true, true_and, and_self, Option.some.injEq, ih a _ (Nat.le_trans (depthL_le ha) (by omega)) (okL_mem o3 ha)])
      simp only [Tr.pv] at hl
      have hne : (as.map fun a => ((a.depth : Nat) : Int)) ≠ [] := by simpa using o1
      simp only [b_depth, Tr.pv, seqS, ifS, setS, augS, dropS, retS, retN, nxS, bkS, ctS, asgS, subS, R.toS, R.bind, R.of, opF, unF, varF, cstF, chF, isB, asB, andT, orT, notT, andF, orF, notF, ifF, nilA, consA, tupF, lstF, cbF, callF, bmF', truT, truV, nameG, nilG, consG, tupG, List.set_cons_zero, List.set_cons_succ, List.getElem?_cons_zero, List.getElem?_cons_succ, Option.bind_some, Option.bind_none, Option.map_some, Option.map_none, List.length_cons, List.length_nil, List.cons_append, List.nil_append, List.append_nil, if_true, if_false, ite_true, ite_false, Bool.false_eq_true, reduceIte, reduceCtorEq, List.map_cons, List.map_nil, Nat.sub_self, List.replicate_succ, List.replicate_zero, Nat.reduceSub, Nat.reduceAdd, Nat.reduceLT, Nat.reduceLeDiff, Nat.reduceEqDiff, Nat.reduceMul, Nat.reducePow, Int.reduceLT, Int.reduceLE, Int.reduceAdd, Int.reduceMul, Int.reduceSub, Int.reduceNeg, Int.reduceEq, Int.reducePow, Int.reduceMod, Int.reduceDiv, Int.reduceToNat, decide_true, decide_false, and_true, true_and, and_self, Option.some.injEq, addV, iaddV, subV, mulV, fdivV, modV, powV, negV, cmpV, isNonV, notNonV, eqV, neV, eqB, scEq, t1, t2, t3, t4, t5, t6, t7, t8, t9, t10, t11, t12, t13, t14, t15, t16, idxV, at0, at1, at2, at3, at4, at5, seqAt, lstAt, lenV, isiV, typV, kb1, kb2, kb3, kb4, kb5, kb6, kb7, kb8, kb9, kb10, kb11, Tr.depth, Bool.not_true, hl, maxV, getS0, intsOf_mapf as (fun a => ((a.depth : Nat) : Int)), hne, maxL_depth o1]
      simp
theorem F_knots_ok : ∀ (n : Nat) (t : Tr) (st : Store), t.depth ≤ n → t.ok = true → F_knots n [t.pv] st = .ok (.int (t.knots : Nat)) st := by
  intro n
  induction n with
  | zero => intro t st h; have := depth_pos t; omega
  | succ n ih =>
    intro t st h hok
    unfold F_knots
    cases t with
    | num i => refine run_rt0 ?_ rfl; simp only [b_knots, Tr.pv, seqS, ifS, setS, augS, dropS, retS, retN, nxS, bkS, ctS, asgS, subS, R.toS, R.bind, R.of, opF, unF, varF, cstF, chF, isB, asB, andT, orT, notT, andF, orF, notF, ifF, nilA, consA, tupF, lstF, cbF, callF, bmF', truT, truV, nameG, nilG, consG, tupG, List.set_cons_zero, List.set_cons_succ, List.getElem?_cons_zero, List.getElem?_cons_succ, Option.bind_some, Option.bind_none, Option.map_some, Option.map_none, List.length_cons, List.length_nil, List.cons_append, List.nil_append, List.append_nil, if_true, if_false, ite_true, ite_false, Bool.false_eq_true, reduceIte, reduceCtorEq, List.map_cons, List.map_nil, Nat.sub_self, List.replicate_succ, List.replicate_zero, Nat.reduceSub, Nat.reduceAdd, Nat.reduceLT, Nat.reduceLeDiff, Nat.reduceEqDiff, Nat.reduceMul, Nat.reducePow, Int.reduceLT, Int.reduceLE, Int.reduceAdd, Int.reduceMul, Int.reduceSub, Int.reduceNeg, Int.reduceEq, Int.reducePow, Int.reduceMod, Int.reduceDiv, Int.reduceToNat, decide_true, decide_false, and_true, true_and, and_self, Option.some.injEq, addV, iaddV, subV, mulV, fdivV, modV, powV, negV, cmpV, isNonV, notNonV, eqV, neV, eqB, scEq, t1, t2, t3, t4, t5, t6, t7, t8, t9, t10, t11, t12, t13, t14, t15, t16, idxV, at0, at1, at2, at3, at4, at5, seqAt, lstAt, lenV, isiV, typV, kb1, kb2, kb3, kb4, kb5, kb6, kb7, kb8, kb9, kb10, kb11, Tr.knots, Bool.not_false]; rfl
    | name i => refine run_rt0 ?_ rfl; simp only [b_knots, Tr.pv, seqS, ifS, setS, augS, dropS, retS, retN, nxS, bkS, ctS, asgS, subS, R.toS, R.bind, R.of, opF, unF, varF, cstF, chF, isB, asB, andT, orT, notT, andF, orF, notF, ifF, nilA, consA, tupF, lstF, cbF, callF, bmF', truT, truV, nameG, nilG, consG, tupG, List.set_cons_zero, List.set_cons_succ, List.getElem?_cons_zero, List.getElem?_cons_succ, Option.bind_some, Option.bind_none, Option.map_some, Option.map_none, List.length_cons, List.length_nil, List.cons_append, List.nil_append, List.append_nil, if_true, if_false, ite_true, ite_false, Bool.false_eq_true, reduceIte, reduceCtorEq, List.map_cons, List.map_nil, Nat.sub_self, List.replicate_succ, List.replicate_zero, Nat.reduceSub, Nat.reduceAdd, Nat.reduceLT, Nat.reduceLeDiff, Nat.reduceEqDiff, Nat.reduceMul, Nat.reducePow, Int.reduceLT, Int.reduceLE, Int.reduceAdd, Int.reduceMul, Int.reduceSub, Int.reduceNeg, Int.reduceEq, Int.reducePow, Int.reduceMod, Int.reduceDiv, Int.reduceToNat, decide_true, decide_false, and_true, true_and, and_self, Option.some.injEq, addV, iaddV, subV, mulV, fdivV, modV, powV, negV, cmpV, isNonV, notNonV, eqV, neV, eqB, scEq, t1, t2, t3, t4, t5, t6, t7, t8, t9, t10, t11, t12, t13, t14, t15, t16, idxV, at0, at1, at2, at3, at4, at5, seqAt, lstAt, lenV, isiV, typV, kb1, kb2, kb3, kb4, kb5, kb6, kb7, kb8, kb9, kb10, kb11, Tr.knots, Bool.not_false]; rfl
    | any i => refine run_rt0 ?_ rfl; simp only [b_knots, Tr.pv, seqS, ifS, setS, augS, dropS, retS, retN, nxS, bkS, ctS, asgS, subS, R.toS, R.bind, R.of, opF, unF, varF, cstF, chF, isB, asB, andT, orT, notT, andF, orF, notF, ifF, nilA, consA, tupF, lstF, cbF, callF, bmF', truT, truV, nameG, nilG, consG, tupG, List.set_cons_zero, List.set_cons_succ, List.getElem?_cons_zero, List.getElem?_cons_succ, Option.bind_some, Option.bind_none, Option.map_some, Option.map_none, List.length_cons, List.length_nil, List.cons_append, List.nil_append, List.append_nil, if_true, if_false, ite_true, ite_false, Bool.false_eq_true, reduceIte, reduceCtorEq, List.map_cons, List.map_nil, Nat.sub_self, List.replicate_succ, List.replicate_zero, Nat.reduceSub, Nat.reduceAdd, Nat.reduceLT, Nat.reduceLeDiff, Nat.reduceEqDiff, Nat.reduceMul, Nat.reducePow, Int.reduceLT, Int.reduceLE, Int.reduceAdd, Int.reduceMul, Int.reduceSub, Int.reduceNeg, Int.reduceEq, Int.reducePow, Int.reduceMod, Int.reduceDiv, Int.reduceToNat, decide_true, decide_false, and_true, true_and, and_self, Option.some.injEq, addV, iaddV, subV, mulV, fdivV, modV, powV, negV, cmpV, isNonV, notNonV, eqV, neV, eqB, scEq, t1, t2, t3, t4, t5, t6, t7, t8, t9, t10, t11, t12, t13, t14, t15, t16, idxV, at0, at1, at2, at3, at4, at5, seqAt, lstAt, lenV, isiV, typV, kb1, kb2, kb3, kb4, kb5, kb6, kb7, kb8, kb9, kb10, kb11, Tr.knots, Bool.not_false]; rfl
    | of w as =>
      obtain ⟨o1, o2, o3⟩ := okL_ne hok
      simp only [Tr.depth] at h
      refine run_rt (g := [.lst (as.map fun a => .int (a.knots : Nat))]) ?_ rfl
      have hl := lcT (i := 0) (k := 1) (fi := opF idxV (varF 0) (cstF (.int 2))) (fe := b_knots_e1 (F_knots n)) (e := [some (Tr.of w as).pv, none]) (s := st) as Tr.pv (fun a => .int (a.knots : Nat)) (by simp only [Tr.pv, pvs_map, seqS, ifS, setS, augS, dropS, retS, retN, nxS, bkS, ctS, asgS, subS, R.toS, R.bind, R.of, opF, unF, varF, cstF, chF, isB, asB, andT, orT, notT, andF, orF, notF, ifF, nilA, consA, tupF, lstF, cbF, callF, bmF', truT, truV, nameG, nilG, consG, tupG, List.set_cons_zero, List.set_cons_succ, List.getElem?_cons_zero, List.getElem?_cons_succ, Option.bind_some, Option.bind_none, Option.map_some, Option.map_none, List.length_cons, List.length_nil, List.cons_append, List.nil_append, List.append_nil, if_true, if_false, ite_true, ite_false, Bool.false_eq_true, reduceIte, reduceCtorEq, List.map_cons, List.map_nil, Nat.sub_self, List.replicate_succ, List.replicate_zero, Nat.reduceSub, Nat.reduceAdd, Nat.reduceLT, Nat.reduceLeDiff, Nat.reduceEqDiff, Nat.reduceMul, Nat.reducePow, Int.reduceLT, Int.reduceLE, Int.reduceAdd, Int.reduceMul, Int.reduceSub, Int.reduceNeg, Int.reduceEq, Int.reducePow, Int.reduceMod, Int.reduceDiv, Int.reduceToNat, decide_true, decide_false, and_true, true_and, and_self, Option.some.injEq, idxV, at0, at1, at2, at3, at4, at5, seqAt, lstAt, lenV, isiV, typV, kb1, kb2, kb3, kb4, kb5, kb6, kb7, kb8, kb9, kb10, kb11]) (by omega) (fun a ha acc => by
        simp only [b_knots_e1, wipeE, seqS, ifS, setS, augS, dropS, retS, retN, nxS, bkS, ctS, asgS, subS, R.toS, R.bind, R.of, opF, unF, varF, cstF, chF, isB, asB, andT, orT, notT, andF, orF, notF, ifF, nilA, consA, tupF, lstF, cbF, callF, bmF', truT, truV, nameG, nilG, consG, tupG, List.set_cons_zero, List.set_cons_succ, List.getElem?_cons_zero, List.getElem?_cons_succ, Option.bind_some, Option.bind_none, Option.map_some, Option.map_none, List.length_cons, List.length_nil, List.cons_append, List.nil_append, List.append_nil, if_true, if_false, ite_true, ite_false, Bool.false_eq_true, reduceIte, reduceCtorEq, List.map_cons, List.map_nil, Nat.sub_self, List.replicate_succ, List.replicate_zero, Nat.reduceSub, Nat.reduceAdd, Nat.reduceLT, Nat.reduceLeDiff, Nat.reduceEqDiff, Nat.reduceMul, Nat.reducePow, Int.reduceLT, Int.reduceLE, Int.reduceAdd, Int.reduceMul, Int.reduceSub, Int.reduceNeg, Int.reduceEq, Int.reducePow, Int.reduceMod, Int.reduceDiv, Int.reduceToNat, decide_true, decide_false, and_true, true_and, and_self, Option.some.injEq, ih a _ (Nat.le_trans (depthL_le ha) (by omega)) (okL_mem o3 ha)])
      simp only [Tr.pv] at hl
      have e : (as.map fun a => ((a.knots : Nat) : Int)).sum = ((knotsL as : Nat) : Int) := by rw [knotsL_eq, ← sum_nat, List.map_map]; rfl
      simp only [b_knots, Tr.pv, seqS, ifS, setS, augS, dropS, retS, retN, nxS, bkS, ctS, asgS, subS, R.toS, R.bind, R.of, opF, unF, varF, cstF, chF, isB, asB, andT, orT, notT, andF, orF, notF, ifF, nilA, consA, tupF, lstF, cbF, callF, bmF', truT, truV, nameG, nilG, consG, tupG, List.set_cons_zero, List.set_cons_succ, List.getElem?_cons_zero, List.getElem?_cons_succ, Option.bind_some, Option.bind_none, Option.map_some, Option.map_none, List.length_cons, List.length_nil, List.cons_append, List.nil_append, List.append_nil, if_true, if_false, ite_true, ite_false, Bool.false_eq_true, reduceIte, reduceCtorEq, List.map_cons, List.map_nil, Nat.sub_self, List.replicate_succ, List.replicate_zero, Nat.reduceSub, Nat.reduceAdd, Nat.reduceLT, Nat.reduceLeDiff, Nat.reduceEqDiff, Nat.reduceMul, Nat.reducePow, Int.reduceLT, Int.reduceLE, Int.reduceAdd, Int.reduceMul, Int.reduceSub, Int.reduceNeg, Int.reduceEq, Int.reducePow, Int.reduceMod, Int.reduceDiv, Int.reduceToNat, decide_true, decide_false, and_true, true_and, and_self, Option.some.injEq, addV, iaddV, subV, mulV, fdivV, modV, powV, negV, cmpV, isNonV, notNonV, eqV, neV, eqB, scEq, t1, t2, t3, t4, t5, t6, t7, t8, t9, t10, t11, t12, t13, t14, t15, t16, idxV, at0, at1, at2, at3, at4, at5, seqAt, lstAt, lenV, isiV, typV, kb1, kb2, kb3, kb4, kb5, kb6, kb7, kb8, kb9, kb10, kb11, Tr.knots, Bool.not_true, hl, sumV, getS0, intsOf_mapf as (fun a => ((a.knots : Nat) : Int)), e]
      simp
end
end FL
end
section
set_option linter.all false
set_option maxRecDepth 100000
namespace FL
open PySem PySem.Spec PyProof.Rows L2
noncomputable section
def b_L_cell_at : FS :=
    (seqS (ifS (isB (opF ltV (varF 1) (cbF lenV (consA (varF 0) nilA)))) (retS (opF idxV (varF 0) (varF 1))) nxS)
    (retS (cstF (.int 0))))
def F_L_cell_at : Fn := runFn 2 b_L_cell_at
end
end FL
end
section
set_option linter.all false
set_option maxRecDepth 100000
namespace FL
open PySem PySem.Spec PyProof.Rows L2
noncomputable section
def b_L_mixed : FS :=
    (seqS (setS 2 (opF modV (opF mulV (opF addV (opF modV (varF 0) (cstF (.int 2147483647))) (cstF (.int 1))) (opF addV (cstF (.int 48271)) (opF mulV (opF mulV (cstF (.int 2)) (varF 1)) (varF 1)))) (cstF (.int 2147483647))))
    (retS (opF modV (opF mulV (varF 2) (varF 2)) (cstF (.int 2147483629)))))
def F_L_mixed : Fn := runFn 3 b_L_mixed
end
end FL
end
section
set_option linter.all false
set_option maxRecDepth 100000
namespace FL
open PySem PySem.Spec PyProof.Rows L2
noncomputable section
def b_L_word : FS :=
    (seqS (setS 1 (cstF (.str ("abcdefghijklmnopqrstuvwxyz" : Str))))
    (seqS (setS 2 (opF addV (cstF (.int 1)) (opF modV (varF 0) (cstF (.int 8)))))
    (seqS (setS 3 (opF modV (opF fdivV (varF 0) (cstF (.int 8))) (varF 2)))
    (seqS (setS 4 (opF mulV (opF idxV (varF 1) (opF modV (opF fdivV (varF 0) (cstF (.int 1664))) (cstF (.int 26)))) (varF 2)))
    (retS (opF addV (opF addV (sliF (varF 4) noO (someO (varF 3))) (opF idxV (varF 1) (opF modV (opF fdivV (varF 0) (cstF (.int 64))) (cstF (.int 26))))) (sliF (varF 4) (someO (opF addV (varF 3) (cstF (.int 1)))) noO)))))))
def F_L_word : Fn := runFn 5 b_L_word
end
end FL
end
section
set_option linter.all false
set_option maxRecDepth 100000
namespace FL
open PySem PySem.Spec PyProof.Rows L2
noncomputable section
def b_L_number : FS :=
    (seqS (setS 2 (opF subV (opF powV (cstF (.int 10)) (cstF (.int 60))) (cstF (.int 1))))
    (seqS (ifS (isB (opF eqV (opF modV (varF 1) (cstF (.int 4))) (cstF (.int 0)))) (retS (opF subV (opF modV (varF 0) (cstF (.int 19))) (cstF (.int 9)))) nxS)
    (seqS (ifS (isB (opF eqV (opF modV (varF 1) (cstF (.int 4))) (cstF (.int 1)))) (retS (opF subV (opF modV (opF powV (varF 1) (cstF (.int 11))) (opF addV (opF mulV (cstF (.int 2)) (varF 2)) (cstF (.int 1)))) (varF 2))) nxS)
    (seqS (ifS (isB (opF eqV (opF modV (varF 1) (cstF (.int 4))) (cstF (.int 2)))) (retS (opF subV (opF modV (varF 0) (opF addV (opF mulV (cstF (.int 2)) (varF 2)) (cstF (.int 1)))) (varF 2))) nxS)
    (retS (opF idxV (lstF (consA (varF 2) (consA (unF negV (varF 2)) (consA (opF powV (cstF (.int 10)) (cstF (.int 59))) (consA (unF negV (opF powV (cstF (.int 10)) (cstF (.int 59)))) (consA (cstF (.int 10)) (consA (cstF (.int 0)) nilA))))))) (opF modV (opF fdivV (varF 1) (cstF (.int 4))) (cstF (.int 6)))))))))
def F_L_number : Fn := runFn 3 b_L_number
end
end FL
end
section
set_option linter.all false
set_option maxRecDepth 100000
namespace FL
open PySem PySem.Spec PyProof.Rows L2
noncomputable section
def b_L_whole : FS :=
    (retS (andF (cbF isiV (consA (varF 0) (consA (cstF (.ty "int")) nilA))) (andF (notF (cbF isiV (consA (varF 0) (consA (cstF (.ty "bool")) nilA)))) (opF eqV (varF 0) (varF 1)))))
def F_L_whole : Fn := runFn 2 b_L_whole
end
end FL
end
section
set_option linter.all false
set_option maxRecDepth 100000
namespace FL
open PySem PySem.Spec PyProof.Rows L2
noncomputable section
/-! ## what the laws draw by -/
def mixed1 (c k : Int) : Int := (c % 2147483647 + 1) * (48271 + 2 * k * k) % 2147483647
def mixed (c k : Int) : Int := mixed1 c k * mixed1 c k % 2147483629
theorem mixed1_lt (c k : Int) : 0 ≤ mixed1 c k ∧ mixed1 c k < 2147483647 := by
  unfold mixed1
  exact ⟨Int.emod_nonneg _ (by decide), Int.emod_lt_of_pos _ (by decide)⟩
theorem mixed_lt (c k : Int) : 0 ≤ mixed c k ∧ mixed c k < 2147483629 := by
  unfold mixed
  exact ⟨Int.emod_nonneg _ (by decide), Int.emod_lt_of_pos _ (by decide)⟩
theorem mul_nb {i j : Int} {a b : Nat} (hi : i.natAbs ≤ a) (hj : j.natAbs ≤ b) : (i * j).natAbs ≤ a * b := by
  rw [Int.natAbs_mul]
  exact Nat.mul_le_mul hi hj
theorem mulOk_le {i j : Int} (a b : Nat) (hi : i.natAbs ≤ a) (hj : j.natAbs ≤ b) (ha : a < 2 ^ 250) (hb : b < 2 ^ 250) : mulOk i j = true := mulOk_of (Nat.lt_of_le_of_lt hi ha) (Nat.lt_of_le_of_lt hj hb)
theorem F_mixed {c k : Int} {st : Store} (h0 : 0 ≤ k) (h1 : k ≤ 1000000) : F_L_mixed [.int c, .int k] st = .ok (.int (mixed c k)) st := by
  have m1 : mulOk 2 k = true := mulOk_le 2 1000000 (by decide) (by omega) (by decide) (by decide)
  have m2 : mulOk (2 * k) k = true := mulOk_le 2000000 1000000 (by omega) (by omega) (by decide) (by decide)
  have b3 : (2 * k * k).natAbs ≤ 2000000 * 1000000 := mul_nb (by omega) (by omega)
  have m3 : mulOk (c % 2147483647 + 1) (48271 + 2 * k * k) = true := mulOk_le 2147483647 (48271 + 2000000 * 1000000) (by omega) (by omega) (by decide) (by decide)
  have q := mixed1_lt c k
  have m4 : mulOk (mixed1 c k) (mixed1 c k) = true := mulOk_le 2147483647 2147483647 (by omega) (by omega) (by decide) (by decide)
  unfold mixed1 at m4
  unfold F_L_mixed
  refine run_rt0 ?_ rfl
  simp only [b_L_mixed, seqS, ifS, setS, augS, dropS, retS, retN, nxS, bkS, ctS, asgS, subS, R.toS, R.bind, R.of, opF, unF, varF, cstF, chF, isB, asB, andT, orT, notT, andF, orF, notF, ifF, nilA, consA, tupF, lstF, cbF, callF, bmF', truT, truV, nameG, nilG, consG, tupG, List.set_cons_zero, List.set_cons_succ, List.getElem?_cons_zero, List.getElem?_cons_succ, Option.bind_some, Option.bind_none, Option.map_some, Option.map_none, List.length_cons, List.length_nil, List.cons_append, List.nil_append, List.append_nil, if_true, if_false, ite_true, ite_false, Bool.false_eq_true, reduceIte, reduceCtorEq, List.map_cons, List.map_nil, Nat.sub_self, List.replicate_succ, List.replicate_zero, Nat.reduceSub, Nat.reduceAdd, Nat.reduceLT, Nat.reduceLeDiff, Nat.reduceEqDiff, Nat.reduceMul, Nat.reducePow, Int.reduceLT, Int.reduceLE, Int.reduceAdd, Int.reduceMul, Int.reduceSub, Int.reduceNeg, Int.reduceEq, Int.reducePow, Int.reduceMod, Int.reduceDiv, Int.reduceToNat, decide_true, decide_false, and_true, true_and, and_self, Option.some.injEq, addV, iaddV, subV, mulV, fdivV, modV, powV, negV, cmpV, isNonV, notNonV, m1, m2, m3, m4]
  rfl
def cellAt (ns : List Int) (k : Nat) : Int := ns.getD k 0
theorem F_cell {ns : List Int} {k : Nat} {st : Store} : F_L_cell_at [.frz (ns.map PV.int), .int k] st = .ok (.int (cellAt ns k)) st := by
  unfold F_L_cell_at
  refine run_rt0 ?_ rfl
  by_cases h : k < ns.length
  · have e : decide ((k : Int) < ((ns.map PV.int).length : Nat)) = true := by simp; exact h
    simp only [b_L_cell_at, seqS, ifS, setS, augS, dropS, retS, retN, nxS, bkS, ctS, asgS, subS, R.toS, R.bind, R.of, opF, unF, varF, cstF, chF, isB, asB, andT, orT, notT, andF, orF, notF, ifF, nilA, consA, tupF, lstF, cbF, callF, bmF', truT, truV, nameG, nilG, consG, tupG, List.set_cons_zero, List.set_cons_succ, List.getElem?_cons_zero, List.getElem?_cons_succ, Option.bind_some, Option.bind_none, Option.map_some, Option.map_none, List.length_cons, List.length_nil, List.cons_append, List.nil_append, List.append_nil, if_true, if_false, ite_true, ite_false, Bool.false_eq_true, reduceIte, reduceCtorEq, List.map_cons, List.map_nil, Nat.sub_self, List.replicate_succ, List.replicate_zero, Nat.reduceSub, Nat.reduceAdd, Nat.reduceLT, Nat.reduceLeDiff, Nat.reduceEqDiff, Nat.reduceMul, Nat.reducePow, Int.reduceLT, Int.reduceLE, Int.reduceAdd, Int.reduceMul, Int.reduceSub, Int.reduceNeg, Int.reduceEq, Int.reducePow, Int.reduceMod, Int.reduceDiv, Int.reduceToNat, decide_true, decide_false, and_true, true_and, and_self, Option.some.injEq, addV, iaddV, subV, mulV, fdivV, modV, powV, negV, cmpV, isNonV, notNonV, idxV, at0, at1, at2, at3, at4, at5, seqAt, lstAt, lenV, isiV, typV, kb1, kb2, kb3, kb4, kb5, kb6, kb7, kb8, kb9, kb10, kb11, e, atI_lt (xs := ns.map PV.int) (i := (k : Int)) (by omega) (by simpa using h)]
    simp [cellAt, List.getD_eq_getElem?_getD, List.getElem?_eq_getElem h]
  · have e : decide ((k : Int) < ((ns.map PV.int).length : Nat)) = false := by simp; omega
    simp only [b_L_cell_at, seqS, ifS, setS, augS, dropS, retS, retN, nxS, bkS, ctS, asgS, subS, R.toS, R.bind, R.of, opF, unF, varF, cstF, chF, isB, asB, andT, orT, notT, andF, orF, notF, ifF, nilA, consA, tupF, lstF, cbF, callF, bmF', truT, truV, nameG, nilG, consG, tupG, List.set_cons_zero, List.set_cons_succ, List.getElem?_cons_zero, List.getElem?_cons_succ, Option.bind_some, Option.bind_none, Option.map_some, Option.map_none, List.length_cons, List.length_nil, List.cons_append, List.nil_append, List.append_nil, if_true, if_false, ite_true, ite_false, Bool.false_eq_true, reduceIte, reduceCtorEq, List.map_cons, List.map_nil, Nat.sub_self, List.replicate_succ, List.replicate_zero, Nat.reduceSub, Nat.reduceAdd, Nat.reduceLT, Nat.reduceLeDiff, Nat.reduceEqDiff, Nat.reduceMul, Nat.reducePow, Int.reduceLT, Int.reduceLE, Int.reduceAdd, Int.reduceMul, Int.reduceSub, Int.reduceNeg, Int.reduceEq, Int.reducePow, Int.reduceMod, Int.reduceDiv, Int.reduceToNat, decide_true, decide_false, and_true, true_and, and_self, Option.some.injEq, addV, iaddV, subV, mulV, fdivV, modV, powV, negV, cmpV, isNonV, notNonV, idxV, at0, at1, at2, at3, at4, at5, seqAt, lstAt, lenV, isiV, typV, kb1, kb2, kb3, kb4, kb5, kb6, kb7, kb8, kb9, kb10, kb11, e]
    simp [cellAt, List.getD_eq_getElem?_getD, List.getElem?_eq_none (by omega : ns.length ≤ k)]
/-- a word of 1 to 8 signs -/
def wordL (m : Int) : List Nat :=
  let n := (1 + m % 8).toNat
  let a := (m / 8 % (1 + m % 8)).toNat
  List.replicate a (97 + (m / 1664 % 26).toNat) ++ [97 + (m / 64 % 26).toNat] ++ List.replicate (n - (a + 1)) (97 + (m / 1664 % 26).toNat)
def wordS (m : Int) : Str := S (wordL m)
theorem wordL_len (m : Int) : 1 ≤ (wordL m).length ∧ (wordL m).length ≤ 8 ∧ (wordL m).length = (1 + m % 8).toNat := by
  have h1 : 0 ≤ m % 8 ∧ m % 8 < 8 := ⟨Int.emod_nonneg _ (by decide), Int.emod_lt_of_pos _ (by decide)⟩
  have h2 : 0 ≤ m / 8 % (1 + m % 8) ∧ m / 8 % (1 + m % 8) < 1 + m % 8 := ⟨Int.emod_nonneg _ (by omega), Int.emod_lt_of_pos _ (by omega)⟩
  simp only [wordL, List.length_append, List.length_replicate, List.length_cons, List.length_nil]
  omega
theorem wordL_az (m : Int) : ∀ c ∈ wordL m, 97 ≤ c ∧ c < 123 := by
  have h1 : 0 ≤ m / 1664 % 26 ∧ m / 1664 % 26 < 26 := ⟨Int.emod_nonneg _ (by decide), Int.emod_lt_of_pos _ (by decide)⟩
  have h2 : 0 ≤ m / 64 % 26 ∧ m / 64 % 26 < 26 := ⟨Int.emod_nonneg _ (by decide), Int.emod_lt_of_pos _ (by decide)⟩
  intro c hc
  simp only [wordL, List.mem_append, List.mem_replicate, List.mem_singleton] at hc
  omega
theorem flat_one (n c : Nat) : (List.replicate n [c]).flatten = List.replicate n c := by
  induction n with
  | zero => rfl
  | succ n ih => rw [List.replicate_succ, List.flatten_cons, ih, List.replicate_succ]; rfl
theorem F_word {m : Int} {st : Store} (h0 : 0 ≤ m) : F_L_word [.int m] st = .ok (.str (wordS m)) st := by
  have h1 : 0 ≤ m % 8 ∧ m % 8 < 8 := ⟨Int.emod_nonneg _ (by decide), Int.emod_lt_of_pos _ (by decide)⟩
  have h2 : 0 ≤ m / 8 % (1 + m % 8) ∧ m / 8 % (1 + m % 8) < 1 + m % 8 := ⟨Int.emod_nonneg _ (by omega), Int.emod_lt_of_pos _ (by omega)⟩
  have h3 : 0 ≤ m / 1664 % 26 ∧ m / 1664 % 26 < 26 := ⟨Int.emod_nonneg _ (by decide), Int.emod_lt_of_pos _ (by decide)⟩
  have h4 : 0 ≤ m / 64 % 26 ∧ m / 64 % 26 < 26 := ⟨Int.emod_nonneg _ (by decide), Int.emod_lt_of_pos _ (by decide)⟩
  have l8 : Nat.log2 8 < 9000 := by decide
  have c1 : (0 < (8 : Int) ∧ (8 : Int).natAbs.log2 < 9000) := ⟨by decide, by decide⟩
  have c2 : (0 < (1664 : Int) ∧ (1664 : Int).natAbs.log2 < 9000) := ⟨by decide, by decide⟩
  have c3 : (0 < (64 : Int) ∧ (64 : Int).natAbs.log2 < 9000) := ⟨by decide, by decide⟩
  have c4 : (0 < 1 + m % 8) := by omega
  have c5 : 0 ≤ 1 + m % 8 ∧ 1 + m % 8 ≤ 1000 ∧ (S [97 + (m / 1664 % 26).toNat]).length ≤ 1000 := ⟨by omega, by omega, by rw [S_len]; simp⟩
  unfold F_L_word
  refine run_rt0 ?_ rfl
  have c6 : 0 ≤ 1 + m % 8 := by omega
  have c7 : (97 + (m / 1664 % 26).toNat) = 97 + (m / 1664 % 26).toNat := rfl
  have n1 : ¬ m / 8 % (1 + m % 8) < 0 := by omega
  simp only [b_L_word, seqS, ifS, setS, augS, dropS, retS, retN, nxS, bkS, ctS, asgS, subS, R.toS, R.bind, R.of, opF, unF, varF, cstF, chF, isB, asB, andT, orT, notT, andF, orF, notF, ifF, nilA, consA, tupF, lstF, cbF, callF, bmF', truT, truV, nameG, nilG, consG, tupG, List.set_cons_zero, List.set_cons_succ, List.getElem?_cons_zero, List.getElem?_cons_succ, Option.bind_some, Option.bind_none, Option.map_some, Option.map_none, List.length_cons, List.length_nil, List.cons_append, List.nil_append, List.append_nil, if_true, if_false, ite_true, ite_false, Bool.false_eq_true, reduceIte, reduceCtorEq, List.map_cons, List.map_nil, Nat.sub_self, List.replicate_succ, List.replicate_zero, Nat.reduceSub, Nat.reduceAdd, Nat.reduceLT, Nat.reduceLeDiff, Nat.reduceEqDiff, Nat.reduceMul, Nat.reducePow, Int.reduceLT, Int.reduceLE, Int.reduceAdd, Int.reduceMul, Int.reduceSub, Int.reduceNeg, Int.reduceEq, Int.reducePow, Int.reduceMod, Int.reduceDiv, Int.reduceToNat, decide_true, decide_false, and_true, true_and, and_self, Option.some.injEq, addV, iaddV, subV, mulV, fdivV, modV, powV, negV, cmpV, isNonV, notNonV, idxV, at0, at1, at2, at3, at4, at5, seqAt, lstAt, lenV, isiV, typV, kb1, kb2, kb3, kb4, kb5, kb6, kb7, kb8, kb9, kb10, kb11, sliF, noO, someO, asI, slV, cutP, c1, c2, c3, c4, letters_eq, S_cps, S_len, List.length_map, List.length_range, sizeLine_eq, letters_at h3.1 h3.2, letters_at h4.1 h4.2, S_one, S_mul _ _ c6, flat_one, List.length_replicate, S_cut, HT.sIx_none, sIx_some h2.1, sIx_some (show 0 ≤ m / 8 % (1 + m % 8) + 1 by omega), S_app, List.length_append, List.length_take, List.length_drop, c5, if_pos (show (1 + m % 8).toNat ≤ 16777216 by omega), List.drop_zero, List.take_replicate, List.drop_replicate]
  rw [if_pos (by omega)]
  simp only [S_app, S_len, List.length_append, List.length_replicate, List.length_cons, List.length_nil]
  rw [if_pos (by omega)]
  simp only [S_app]
  congr 3
  unfold wordL
  congr 2
  · congr 1
    omega
  · congr 1
    omega
/-- a number -/
def MOST : Int := 10 ^ 60 - 1
def numberI (c m : Int) : Int :=
  if m % 4 = 0 then c % 19 - 9
  else if m % 4 = 1 then m ^ 11 % (2 * MOST + 1) - MOST
  else if m % 4 = 2 then c % (2 * MOST + 1) - MOST
  else [MOST, -MOST, 10 ^ 59, -10 ^ 59, 10, 0].getD (m / 4 % 6).toNat 0
theorem F_number {c m : Int} {st : Store} (h0 : 0 ≤ m) (h1 : m < 2 ^ 64) : F_L_number [.int c, .int m] st = .ok (.int (numberI c m)) st := by
  have h2 : 0 ≤ m % 4 ∧ m % 4 < 4 := ⟨Int.emod_nonneg _ (by decide), Int.emod_lt_of_pos _ (by decide)⟩
  have h3 : 0 ≤ m / 4 % 6 ∧ m / 4 % 6 < 6 := ⟨Int.emod_nonneg _ (by decide), Int.emod_lt_of_pos _ (by decide)⟩
  have c1 : ((0 : Int) ≤ 60 ∧ (60 : Int) ≤ 1000000 ∧ (10 : Int).natAbs < 2 ^ 64) := by decide
  have c2 : ((0 : Int) ≤ 59 ∧ (59 : Int) ≤ 1000000 ∧ (10 : Int).natAbs < 2 ^ 64) := by decide
  have c3 : ((0 : Int) ≤ 11 ∧ (11 : Int) ≤ 1000000 ∧ m.natAbs < 2 ^ 64) := ⟨by decide, by decide, by omega⟩
  have c4 : mulOk 2 (10 ^ (60 : Int).toNat - 1) = true := by decide +kernel
  have c5 : (0 < (4 : Int) ∧ (4 : Int).natAbs.log2 < 9000) := by decide
  have c6 : (0 : Int) < 2 * (10 ^ (60 : Int).toNat - 1) + 1 := by decide
  unfold F_L_number numberI
  by_cases e0 : m % 4 = 0
  · refine run_rt0 ?_ rfl
    simp only [b_L_number, seqS, ifS, setS, augS, dropS, retS, retN, nxS, bkS, ctS, asgS, subS, R.toS, R.bind, R.of, opF, unF, varF, cstF, chF, isB, asB, andT, orT, notT, andF, orF, notF, ifF, nilA, consA, tupF, lstF, cbF, callF, bmF', truT, truV, nameG, nilG, consG, tupG, List.set_cons_zero, List.set_cons_succ, List.getElem?_cons_zero, List.getElem?_cons_succ, Option.bind_some, Option.bind_none, Option.map_some, Option.map_none, List.length_cons, List.length_nil, List.cons_append, List.nil_append, List.append_nil, if_true, if_false, ite_true, ite_false, Bool.false_eq_true, reduceIte, reduceCtorEq, List.map_cons, List.map_nil, Nat.sub_self, List.replicate_succ, List.replicate_zero, Nat.reduceSub, Nat.reduceAdd, Nat.reduceLT, Nat.reduceLeDiff, Nat.reduceEqDiff, Nat.reduceMul, Nat.reducePow, Int.reduceLT, Int.reduceLE, Int.reduceAdd, Int.reduceMul, Int.reduceSub, Int.reduceNeg, Int.reduceEq, Int.reducePow, Int.reduceMod, Int.reduceDiv, Int.reduceToNat, decide_true, decide_false, and_true, true_and, and_self, Option.some.injEq, addV, iaddV, subV, mulV, fdivV, modV, powV, negV, cmpV, isNonV, notNonV, eqV, neV, eqB, scEq, t1, t2, t3, t4, t5, t6, t7, t8, t9, t10, t11, t12, t13, t14, t15, t16, c1, e0]
  by_cases e1 : m % 4 = 1
  · refine run_rt0 ?_ rfl
    simp only [b_L_number, seqS, ifS, setS, augS, dropS, retS, retN, nxS, bkS, ctS, asgS, subS, R.toS, R.bind, R.of, opF, unF, varF, cstF, chF, isB, asB, andT, orT, notT, andF, orF, notF, ifF, nilA, consA, tupF, lstF, cbF, callF, bmF', truT, truV, nameG, nilG, consG, tupG, List.set_cons_zero, List.set_cons_succ, List.getElem?_cons_zero, List.getElem?_cons_succ, Option.bind_some, Option.bind_none, Option.map_some, Option.map_none, List.length_cons, List.length_nil, List.cons_append, List.nil_append, List.append_nil, if_true, if_false, ite_true, ite_false, Bool.false_eq_true, reduceIte, reduceCtorEq, List.map_cons, List.map_nil, Nat.sub_self, List.replicate_succ, List.replicate_zero, Nat.reduceSub, Nat.reduceAdd, Nat.reduceLT, Nat.reduceLeDiff, Nat.reduceEqDiff, Nat.reduceMul, Nat.reducePow, Int.reduceLT, Int.reduceLE, Int.reduceAdd, Int.reduceMul, Int.reduceSub, Int.reduceNeg, Int.reduceEq, Int.reducePow, Int.reduceMod, Int.reduceDiv, Int.reduceToNat, decide_true, decide_false, and_true, true_and, and_self, Option.some.injEq, addV, iaddV, subV, mulV, fdivV, modV, powV, negV, cmpV, isNonV, notNonV, eqV, neV, eqB, scEq, t1, t2, t3, t4, t5, t6, t7, t8, t9, t10, t11, t12, t13, t14, t15, t16, c1, e1, c3, c4, c6]
    rfl
  by_cases e2 : m % 4 = 2
  · refine run_rt0 ?_ rfl
    simp only [b_L_number, seqS, ifS, setS, augS, dropS, retS, retN, nxS, bkS, ctS, asgS, subS, R.toS, R.bind, R.of, opF, unF, varF, cstF, chF, isB, asB, andT, orT, notT, andF, orF, notF, ifF, nilA, consA, tupF, lstF, cbF, callF, bmF', truT, truV, nameG, nilG, consG, tupG, List.set_cons_zero, List.set_cons_succ, List.getElem?_cons_zero, List.getElem?_cons_succ, Option.bind_some, Option.bind_none, Option.map_some, Option.map_none, List.length_cons, List.length_nil, List.cons_append, List.nil_append, List.append_nil, if_true, if_false, ite_true, ite_false, Bool.false_eq_true, reduceIte, reduceCtorEq, List.map_cons, List.map_nil, Nat.sub_self, List.replicate_succ, List.replicate_zero, Nat.reduceSub, Nat.reduceAdd, Nat.reduceLT, Nat.reduceLeDiff, Nat.reduceEqDiff, Nat.reduceMul, Nat.reducePow, Int.reduceLT, Int.reduceLE, Int.reduceAdd, Int.reduceMul, Int.reduceSub, Int.reduceNeg, Int.reduceEq, Int.reducePow, Int.reduceMod, Int.reduceDiv, Int.reduceToNat, decide_true, decide_false, and_true, true_and, and_self, Option.some.injEq, addV, iaddV, subV, mulV, fdivV, modV, powV, negV, cmpV, isNonV, notNonV, eqV, neV, eqB, scEq, t1, t2, t3, t4, t5, t6, t7, t8, t9, t10, t11, t12, t13, t14, t15, t16, c1, e2, c4, c6]
    rfl
  · have e3 : m % 4 = 3 := by omega
    refine run_rt (g := [.lst [.int MOST, .int (-MOST), .int (10 ^ 59), .int (-10 ^ 59), .int 10, .int 0]]) ?_ rfl
    have e6 : m / 4 % 6 = 0 ∨ m / 4 % 6 = 1 ∨ m / 4 % 6 = 2 ∨ m / 4 % 6 = 3 ∨ m / 4 % 6 = 4 ∨ m / 4 % 6 = 5 := by omega
    rcases e6 with e | e | e | e | e | e <;>
      (simp only [b_L_number, seqS, ifS, setS, augS, dropS, retS, retN, nxS, bkS, ctS, asgS, subS, R.toS, R.bind, R.of, opF, unF, varF, cstF, chF, isB, asB, andT, orT, notT, andF, orF, notF, ifF, nilA, consA, tupF, lstF, cbF, callF, bmF', truT, truV, nameG, nilG, consG, tupG, List.set_cons_zero, List.set_cons_succ, List.getElem?_cons_zero, List.getElem?_cons_succ, Option.bind_some, Option.bind_none, Option.map_some, Option.map_none, List.length_cons, List.length_nil, List.cons_append, List.nil_append, List.append_nil, if_true, if_false, ite_true, ite_false, Bool.false_eq_true, reduceIte, reduceCtorEq, List.map_cons, List.map_nil, Nat.sub_self, List.replicate_succ, List.replicate_zero, Nat.reduceSub, Nat.reduceAdd, Nat.reduceLT, Nat.reduceLeDiff, Nat.reduceEqDiff, Nat.reduceMul, Nat.reducePow, Int.reduceLT, Int.reduceLE, Int.reduceAdd, Int.reduceMul, Int.reduceSub, Int.reduceNeg, Int.reduceEq, Int.reducePow, Int.reduceMod, Int.reduceDiv, Int.reduceToNat, decide_true, decide_false, and_true, true_and, and_self, Option.some.injEq, addV, iaddV, subV, mulV, fdivV, modV, powV, negV, cmpV, isNonV, notNonV, eqV, neV, eqB, scEq, t1, t2, t3, t4, t5, t6, t7, t8, t9, t10, t11, t12, t13, t14, t15, t16, idxV, at0, at1, at2, at3, at4, at5, seqAt, lstAt, lenV, isiV, typV, kb1, kb2, kb3, kb4, kb5, kb6, kb7, kb8, kb9, kb10, kb11, c1, c2, e3, c4, c5, c6, sizeLine_eq, getS0, e]; rfl)
/-- the whole numbers' look -/
theorem F_whole {a b : Int} {st : Store} : F_L_whole [.int a, .int b] st = .ok (.bl (decide (a = b))) st := by
  unfold F_L_whole
  refine run_rt0 ?_ rfl
  simp only [b_L_whole, seqS, ifS, setS, augS, dropS, retS, retN, nxS, bkS, ctS, asgS, subS, R.toS, R.bind, R.of, opF, unF, varF, cstF, chF, isB, asB, andT, orT, notT, andF, orF, notF, ifF, nilA, consA, tupF, lstF, cbF, callF, bmF', truT, truV, nameG, nilG, consG, tupG, List.set_cons_zero, List.set_cons_succ, List.getElem?_cons_zero, List.getElem?_cons_succ, Option.bind_some, Option.bind_none, Option.map_some, Option.map_none, List.length_cons, List.length_nil, List.cons_append, List.nil_append, List.append_nil, if_true, if_false, ite_true, ite_false, Bool.false_eq_true, reduceIte, reduceCtorEq, List.map_cons, List.map_nil, Nat.sub_self, List.replicate_succ, List.replicate_zero, Nat.reduceSub, Nat.reduceAdd, Nat.reduceLT, Nat.reduceLeDiff, Nat.reduceEqDiff, Nat.reduceMul, Nat.reducePow, Int.reduceLT, Int.reduceLE, Int.reduceAdd, Int.reduceMul, Int.reduceSub, Int.reduceNeg, Int.reduceEq, Int.reducePow, Int.reduceMod, Int.reduceDiv, Int.reduceToNat, decide_true, decide_false, and_true, true_and, and_self, Option.some.injEq, addV, iaddV, subV, mulV, fdivV, modV, powV, negV, cmpV, isNonV, notNonV, eqV, neV, eqB, scEq, t1, t2, t3, t4, t5, t6, t7, t8, t9, t10, t11, t12, t13, t14, t15, t16, idxV, at0, at1, at2, at3, at4, at5, seqAt, lstAt, lenV, isiV, typV, kb1, kb2, kb3, kb4, kb5, kb6, kb7, kb8, kb9, kb10, kb11, Bool.not_false]
theorem numberI_lt (c m : Int) (h0 : 0 ≤ m) : -(10 ^ 60) < numberI c m ∧ numberI c m < 10 ^ 60 := by
  have hM : MOST = 10 ^ 60 - 1 := rfl
  have h3 : 0 ≤ m / 4 % 6 ∧ m / 4 % 6 < 6 := ⟨Int.emod_nonneg _ (by decide), Int.emod_lt_of_pos _ (by decide)⟩
  unfold numberI
  split
  · have : 0 ≤ c % 19 ∧ c % 19 < 19 := ⟨Int.emod_nonneg _ (by decide), Int.emod_lt_of_pos _ (by decide)⟩
    omega
  split
  · have : 0 ≤ m ^ 11 % (2 * MOST + 1) ∧ m ^ 11 % (2 * MOST + 1) < 2 * MOST + 1 := ⟨Int.emod_nonneg _ (by decide), Int.emod_lt_of_pos _ (by decide)⟩
    omega
  split
  · have : 0 ≤ c % (2 * MOST + 1) ∧ c % (2 * MOST + 1) < 2 * MOST + 1 := ⟨Int.emod_nonneg _ (by decide), Int.emod_lt_of_pos _ (by decide)⟩
    omega
  · have e6 : m / 4 % 6 = 0 ∨ m / 4 % 6 = 1 ∨ m / 4 % 6 = 2 ∨ m / 4 % 6 = 3 ∨ m / 4 % 6 = 4 ∨ m / 4 % 6 = 5 := by omega
    rcases e6 with e | e | e | e | e | e <;> rw [e] <;> decide
end
end FL
end
section
set_option linter.all false
set_option maxRecDepth 100000
namespace FL
open PySem PySem.Spec PyProof.Rows L2
noncomputable section
def b_L_number_2 : FS :=
    (seqS (setS 1 (opF modV (opF mulV (varF 0) (cstF (.int 40014))) (cstF (.int 2147483563))))
    (seqS (ifS (isB (opF eqV (opF modV (varF 1) (cstF (.int 3))) (cstF (.int 0)))) (retS (opF subV (opF modV (opF mulV (varF 0) (opF addV (opF mulV (cstF (.int 7)) (opF powV (cstF (.int 10)) (cstF (.int 59)))) (cstF (.int 3)))) (opF subV (opF mulV (cstF (.int 2)) (opF powV (cstF (.int 10)) (cstF (.int 60)))) (cstF (.int 1)))) (opF subV (opF powV (cstF (.int 10)) (cstF (.int 60))) (cstF (.int 1))))) nxS)
    (retS (opF subV (opF modV (opF fdivV (varF 1) (cstF (.int 3))) (cstF (.int 7))) (cstF (.int 3))))))
def F_L_number_2 : Fn := runFn 2 b_L_number_2
end
end FL
end
section
set_option linter.all false
set_option maxRecDepth 100000
namespace FL
open PySem PySem.Spec PyProof.Rows L2
noncomputable section
def b_L_word_2 : FS :=
    (seqS (setS 2 (cstF (.str ("abcdefghijklmnopqrstuvwxyz" : Str))))
    (seqS (setS 3 (opF modV (opF mulV (varF 0) (cstF (.int 69621))) (cstF (.int 2147483587))))
    (seqS (setS 4 (opF addV (cstF (.int 1)) (opF modV (varF 3) (cstF (.int 8)))))
    (seqS (ifS (isB (opF eqV (opF modV (varF 1) (cstF (.int 2))) (cstF (.int 0)))) (setS 4 (opF addV (cstF (.int 1)) (opF modV (opF fdivV (varF 1) (cstF (.int 2))) (cstF (.int 8))))) nxS)
    (seqS (setS 5 (opF modV (opF fdivV (varF 3) (cstF (.int 8))) (varF 4)))
    (seqS (setS 6 (opF idxV (varF 2) (opF modV (opF fdivV (varF 1) (cstF (.int 16))) (cstF (.int 26)))))
    (retS (opF addV (opF addV (opF mulV (varF 6) (varF 5)) (opF idxV (varF 2) (opF modV (opF fdivV (varF 3) (cstF (.int 64))) (cstF (.int 26))))) (opF mulV (varF 6) (opF subV (opF subV (varF 4) (cstF (.int 1))) (varF 5)))))))))))
def F_L_word_2 : Fn := runFn 7 b_L_word_2
end
end FL
end
section
set_option linter.all false
set_option maxRecDepth 100000
namespace FL
open PySem PySem.Spec PyProof.Rows L2
noncomputable section
def b_L_knot_e1 : FE :=
    (opF modV (opF modV (opF mulV (varF 0) (varF 7)) (cstF (.int 2147483549))) (varF 1))
def b_L_knot : FS :=
    (seqS (setS 3 (opF modV (opF mulV (varF 0) (cstF (.int 16807))) (cstF (.int 2147483629))))
    (seqS (setS 4 (opF idxV (lstF (consA (cstF (.str ("plus" : Str))) (consA (cstF (.str ("times" : Str))) (consA (cstF (.str ("neg" : Str))) (consA (cstF (.str ("bind" : Str))) (consA (cstF (.str ("plus" : Str))) (consA (cstF (.str ("bind" : Str))) nilA))))))) (opF modV (varF 3) (cstF (.int 6)))))
    (seqS (setS 5 (opF subV (cstF (.int 2)) (cbF intV (consA (opF eqV (varF 4) (cstF (.str ("neg" : Str)))) nilA))))
    (seqS (ifS (isB (opF gtV (opF modV (opF fdivV (varF 3) (cstF (.int 6))) (cstF (.int 4))) (cstF (.int 1)))) (setS 5 (opF addV (cstF (.int 1)) (opF modV (opF fdivV (varF 3) (cstF (.int 24))) (cstF (.int 4))))) nxS)
    (seqS (ifS (isB (opF eqV (opF modV (opF fdivV (varF 3) (cstF (.int 6))) (cstF (.int 4))) (cstF (.int 2)))) (setS 4 (callF 2 F_L_word_2 [] (consA (opF modV (opF fdivV (varF 3) (cstF (.int 96))) (cstF (.int 3))) (consA (varF 2) nilA)))) nxS)
    (seqS (setS 6 (sliF (lstF (consA (cstF (.int 40692)) (consA (cstF (.int 39373)) (consA (cstF (.int 69069)) (consA (cstF (.int 30323)) nilA))))) noO (someO (varF 5))))
    (retS (tupF (consA (cstF (.str ("of" : Str))) (consA (varF 4) (consA (cbF tupleV (consA (lcF (seqI (varF 6)) [7] (nameG 7) yesT b_L_knot_e1) nilA)) nilA)))))))))))
def F_L_knot : Fn := runFn 8 b_L_knot
end
end FL
end
section
set_option linter.all false
set_option maxRecDepth 100000
namespace FL
open PySem PySem.Spec PyProof.Rows L2
noncomputable section
def b_L_term : FS :=
    (seqS (setS 3 (opF modV (opF mulV (varF 0) (cstF (.int 48271))) (cstF (.int 2147483647))))
    (seqS (ifS (isB (opF ltV (opF modV (varF 3) (cstF (.int 10))) (cstF (.int 2)))) (retS (tupF (consA (cstF (.str ("num" : Str))) (consA (callF 1 F_L_number_2 [] (consA (varF 0) nilA)) nilA)))) nxS)
    (seqS (ifS (orT (isB (opF ltV (opF modV (varF 3) (cstF (.int 10))) (cstF (.int 4)))) (isB (opF eqV (varF 1) (cstF (.int 0))))) (seqS (ifS (isB (opF eqV (opF modV (opF fdivV (varF 3) (cstF (.int 10))) (cstF (.int 5))) (cstF (.int 0)))) (retS (tupF (consA (cstF (.str ("name" : Str))) (consA (callF 2 F_L_word_2 [] (consA (opF modV (opF fdivV (varF 3) (cstF (.int 50))) (cstF (.int 3))) (consA (varF 2) nilA))) nilA)))) nxS)
    (seqS (ifS (isB (opF eqV (opF modV (opF fdivV (varF 3) (cstF (.int 10))) (cstF (.int 5))) (cstF (.int 1)))) (retS (tupF (consA (cstF (.str ("name" : Str))) (consA (opF idxV (lstF (consA (cstF (.str ("plus" : Str))) (consA (cstF (.str ("times" : Str))) (consA (cstF (.str ("neg" : Str))) (consA (cstF (.str ("bind" : Str))) nilA))))) (opF modV (opF fdivV (varF 3) (cstF (.int 50))) (cstF (.int 4)))) nilA)))) nxS)
    (retS (tupF (consA (cstF (.str ("name" : Str))) (consA (callF 2 F_L_word_2 [] (consA (varF 0) (consA (varF 2) nilA))) nilA)))))) nxS)
    (retS (callF 3 F_L_knot [] (consA (varF 0) (consA (varF 1) (consA (varF 2) nilA))))))))
def F_L_term : Fn := runFn 4 b_L_term
end
end FL
end
section
set_option linter.all false
set_option maxRecDepth 100000
namespace FL
open PySem PySem.Spec PyProof.Rows L2
noncomputable section
def b_L_made_s1 : FS :=
    (seqS (ifS (isB (opF ltV (cbF lenV (consA (varF 3) nilA)) (cstF (.int 24)))) (seqS (setS 7 (callF 3 F_L_term [] (consA (varF 5) (consA (cbF lenV (consA (varF 3) nilA)) (consA (varF 1) nilA)))))
    (ifS (isB (opF ninV (varF 7) (varF 3))) (dropS (bmF' "list" appendV (varF 3) (consA (varF 7) nilA))) nxS)) nxS)
    (seqS (setS 6 (opF modV (opF mulV (varF 5) (cstF (.int 45991))) (cstF (.int 2147483543))))
    (ifS (isB (opF eqV (opF modV (varF 6) (varF 2)) (cstF (.int 0)))) (seqS (setS 8 (opF modV (opF fdivV (varF 6) (cstF (.int 60))) (cbF lenV (consA (varF 3) nilA))))
    (seqS (setS 9 (opF modV (opF modV (opF mulV (varF 5) (cstF (.int 62089911))) (cstF (.int 4294967291))) (cbF lenV (consA (varF 3) nilA))))
    (dropS (bmF' "list" appendV (varF 4) (consA (tupF (consA (varF 8) (consA (varF 9) (consA (opF addV (cstF (.int 1)) (opF modV (varF 5) (opF powV (cstF (.int 10)) (cstF (.int 12))))) (consA (tupF (consA (cstF (.str ("told" : Str))) nilA)) nilA))))) nilA))))) nxS)))
def b_L_made : FS :=
    (seqS (setS 1 (cstF (.int 0)))
    (seqS (ifS (isB (opF gtV (cbF lenV (consA (varF 0) nilA)) (cstF (.int 0)))) (setS 1 (opF modV (opF idxV (varF 0) (cstF (.int 0))) (cstF (.int 10007)))) nxS)
    (seqS (setS 2 (opF idxV (lstF (consA (cstF (.int 3)) (consA (cstF (.int 7)) (consA (cstF (.int 20)) nilA)))) (opF modV (varF 1) (cstF (.int 3)))))
    (seqS (setS 3 (lstF nilA))
    (seqS (setS 4 (lstF nilA))
    (seqS (forS (seqI (sliF (varF 0) noO (someO (cstF (.int 90))))) (nameG 5) b_L_made_s1)
    (retS (tupF (consA (varF 3) (consA (varF 4) nilA))))))))))
def F_L_made : Fn := runFn 10 b_L_made
end
end FL
end
section
set_option linter.all false
set_option maxRecDepth 100000
namespace FL
open PySem PySem.Spec PyProof.Rows L2
noncomputable section
namespace Tm
/-! ## numbered terms, as laws k31 and later draw them -/
inductive Tm where
  | num (i : Int) | name (x : Str) | of (w : Str) (as : List Int)
def Tm.pv : Tm → PV
  | .num i => .tup [.str "num", .int i]
  | .name x => .tup [.str "name", .str x]
  | .of w as => .tup [.str "of", .str w, .tup (as.map PV.int)]
/-- a text of plain signs -/
abbrev Az (x : Str) : Prop := PyData.strOk x = true
def Tm.Good (n : Nat) : Tm → Prop
  | .num _ => True
  | .name x => Az x
  | .of w as => Az w ∧ as.length ≤ 4 ∧ ∀ a ∈ as, 0 ≤ a ∧ a < n
theorem Good.up {n m : Nat} (h : n ≤ m) : ∀ {t : Tm}, t.Good n → t.Good m
  | .num _, _ => trivial
  | .name _, q => q
  | .of _ _, ⟨a, b, c⟩ => ⟨a, b, fun z hz => ⟨(c z hz).1, by have := (c z hz).2; omega⟩⟩
theorem pv_pure (t : Tm) : pureP t.pv = true := by
  cases t with
  | num i => rfl
  | name x => rfl
  | of w as =>
    have : puresP (as.map PV.int) = true := pures_iff.mpr fun x hx => by
      obtain ⟨z, _, rfl⟩ := List.mem_map.mp hx
      rfl
    simp [Tm.pv, pureP, puresP, this]
def Bits (c : Int) : Prop := Builtin.Int.intBits c ≤ 1048576
theorem mb {c : Int} (h : Bits c) (j : Int) (hj : j.natAbs < 2 ^ 250) : mulOk c j = true := mulOk_b (a := 250) h hj (by decide)
theorem md (i n : Int) (h : 0 < n) : 0 ≤ i % n ∧ i % n < n := ⟨Int.emod_nonneg _ (by omega), Int.emod_lt_of_pos _ h⟩
theorem dv (i n : Int) (h : 0 ≤ i) (hn : 0 < n) : 0 ≤ i / n ∧ i / n ≤ i := ⟨Int.ediv_nonneg h (by omega), Int.ediv_le_self _ h⟩
theorem F_number {c : Int} {st : Store} (hc : Bits c) : ∃ i, F_L_number_2 [.int c] st = .ok (.int i) st := by
  have m1 := mb hc 40014 (by decide)
  have m2 := mb hc 700000000000000000000000000000000000000000000000000000000003 (by decide)
  have m3 : mulOk 7 100000000000000000000000000000000000000000000000000000000000 = true := by decide +kernel
  have m4 : mulOk 2 1000000000000000000000000000000000000000000000000000000000000 = true := by decide +kernel
  have c1 : ((0 : Int) ≤ 60 ∧ (60 : Int) ≤ 1000000 ∧ (10 : Int).natAbs < 2 ^ 64) := by decide
  have c2 : ((0 : Int) ≤ 59 ∧ (59 : Int) ≤ 1000000 ∧ (10 : Int).natAbs < 2 ^ 64) := by decide
  have c3 : (0 < (3 : Int) ∧ (3 : Int).natAbs.log2 < 9000) := by decide
  have h : ∃ i, b_L_number_2 [some (.int c), none] st = .rt (.int i) st := by
    by_cases e : c * 40014 % 2147483563 % 3 = 0
    · simp only [b_L_number_2, seqS, ifS, setS, augS, dropS, retS, retN, nxS, bkS, ctS, asgS, subS, R.toS, R.bind, R.of, opF, unF, varF, cstF, chF, isB, asB, andT, orT, notT, andF, orF, notF, ifF, nilA, consA, tupF, lstF, cbF, callF, bmF', truT, truV, nameG, nilG, consG, tupG, List.set_cons_zero, List.set_cons_succ, List.getElem?_cons_zero, List.getElem?_cons_succ, Option.bind_some, Option.bind_none, Option.map_some, Option.map_none, List.length_cons, List.length_nil, List.cons_append, List.nil_append, List.append_nil, if_true, if_false, ite_true, ite_false, Bool.false_eq_true, reduceIte, reduceCtorEq, List.map_cons, List.map_nil, Nat.sub_self, List.replicate_succ, List.replicate_zero, Nat.reduceSub, Nat.reduceAdd, Nat.reduceLT, Nat.reduceLeDiff, Nat.reduceEqDiff, Nat.reduceMul, Nat.reducePow, Int.reduceLT, Int.reduceLE, Int.reduceAdd, Int.reduceMul, Int.reduceSub, Int.reduceNeg, Int.reduceEq, Int.reducePow, Int.reduceMod, Int.reduceDiv, Int.reduceToNat, decide_true, decide_false, and_true, true_and, and_self, Option.some.injEq, addV, iaddV, subV, mulV, fdivV, modV, powV, negV, cmpV, isNonV, notNonV, eqV, neV, eqB, scEq, t1, t2, t3, t4, t5, t6, t7, t8, t9, t10, t11, t12, t13, t14, t15, t16, m1, m2, m3, m4, c1, c2, c3, e]
      exact ⟨_, rfl⟩
    · simp only [b_L_number_2, seqS, ifS, setS, augS, dropS, retS, retN, nxS, bkS, ctS, asgS, subS, R.toS, R.bind, R.of, opF, unF, varF, cstF, chF, isB, asB, andT, orT, notT, andF, orF, notF, ifF, nilA, consA, tupF, lstF, cbF, callF, bmF', truT, truV, nameG, nilG, consG, tupG, List.set_cons_zero, List.set_cons_succ, List.getElem?_cons_zero, List.getElem?_cons_succ, Option.bind_some, Option.bind_none, Option.map_some, Option.map_none, List.length_cons, List.length_nil, List.cons_append, List.nil_append, List.append_nil, if_true, if_false, ite_true, ite_false, Bool.false_eq_true, reduceIte, reduceCtorEq, List.map_cons, List.map_nil, Nat.sub_self, List.replicate_succ, List.replicate_zero, Nat.reduceSub, Nat.reduceAdd, Nat.reduceLT, Nat.reduceLeDiff, Nat.reduceEqDiff, Nat.reduceMul, Nat.reducePow, Int.reduceLT, Int.reduceLE, Int.reduceAdd, Int.reduceMul, Int.reduceSub, Int.reduceNeg, Int.reduceEq, Int.reducePow, Int.reduceMod, Int.reduceDiv, Int.reduceToNat, decide_true, decide_false, and_true, true_and, and_self, Option.some.injEq, addV, iaddV, subV, mulV, fdivV, modV, powV, negV, cmpV, isNonV, notNonV, eqV, neV, eqB, scEq, t1, t2, t3, t4, t5, t6, t7, t8, t9, t10, t11, t12, t13, t14, t15, t16, m1, m2, m3, m4, c1, c2, c3, e]
      exact ⟨_, rfl⟩
  obtain ⟨i, h⟩ := h
  exact ⟨i, run_rt0 h rfl⟩
theorem az_S {l : List Nat} (h : ∀ c ∈ l, c < 123) : Az (S l) := by
  unfold Az PyData.strOk
  rw [← Array.all_toList, S_cps, List.all_eq_true]
  intro x hx
  have := h x hx
  exact decide_eq_true (by omega)
theorem rep_one (n c : Nat) : (List.replicate n [c]).flatten = List.replicate n c := flat_one n c
theorem F_word {c h : Int} {st : Store} (hc : Bits c) (h0 : 0 ≤ h) : ∃ x, F_L_word_2 [.int c, .int h] st = .ok (.str x) st ∧ Az x := by
  have m1 := mb hc 69621 (by decide)
  obtain ⟨m, hm⟩ : ∃ m, m = c * 69621 % 2147483587 := ⟨_, rfl⟩
  have qm : 0 ≤ m ∧ m < 2147483587 := by rw [hm]; exact md _ _ (by decide)
  have z1 := md m 8 (by decide)
  have z2 := md (h / 2) 8 (by decide)
  have z3 := md (h / 16) 26 (by decide)
  have z4 := md (m / 64) 26 (by decide)
  have c8 : (0 < (8 : Int) ∧ (8 : Int).natAbs.log2 < 9000) := by decide
  have c2 : (0 < (2 : Int) ∧ (2 : Int).natAbs.log2 < 9000) := by decide
  have c16 : (0 < (16 : Int) ∧ (16 : Int).natAbs.log2 < 9000) := by decide
  have c64 : (0 < (64 : Int) ∧ (64 : Int).natAbs.log2 < 9000) := by decide
  have fin : ∀ n : Int, 1 ≤ n → n ≤ 8 → ∃ l : List Nat, (seqS (setS 5 (opF modV (opF fdivV (varF 3) (cstF (.int 8))) (varF 4)))
    (seqS (setS 6 (opF idxV (varF 2) (opF modV (opF fdivV (varF 1) (cstF (.int 16))) (cstF (.int 26)))))
    (retS (opF addV (opF addV (opF mulV (varF 6) (varF 5)) (opF idxV (varF 2) (opF modV (opF fdivV (varF 3) (cstF (.int 64))) (cstF (.int 26))))) (opF mulV (varF 6) (opF subV (opF subV (varF 4) (cstF (.int 1))) (varF 5)))))))
      [some (.int c), some (.int h), some (.str ("abcdefghijklmnopqrstuvwxyz" : Str)), some (.int m), some (.int n), none, none] st = .rt (.str (S l)) st ∧ ∀ c ∈ l, c < 123 := fun n n1 n8 => by
    have a := md (m / 8) n (by omega)
    have np : 0 < n := by omega
    have r1 : 0 ≤ m / 8 % n ∧ m / 8 % n ≤ 1000 ∧ (1 : Nat) ≤ 1000 := by omega
    have r2 : 0 ≤ n - 1 - m / 8 % n ∧ n - 1 - m / 8 % n ≤ 1000 ∧ (1 : Nat) ≤ 1000 := by omega
    refine ⟨List.replicate (m / 8 % n).toNat (97 + (h / 16 % 26).toNat) ++ [97 + (m / 64 % 26).toNat] ++ List.replicate (n - 1 - m / 8 % n).toNat (97 + (h / 16 % 26).toNat), ?_, fun x hx => ?_⟩
    · simp only [seqS, ifS, setS, augS, dropS, retS, retN, nxS, bkS, ctS, asgS, subS, R.toS, R.bind, R.of, opF, unF, varF, cstF, chF, isB, asB, andT, orT, notT, andF, orF, notF, ifF, nilA, consA, tupF, lstF, cbF, callF, bmF', truT, truV, nameG, nilG, consG, tupG, List.set_cons_zero, List.set_cons_succ, List.getElem?_cons_zero, List.getElem?_cons_succ, Option.bind_some, Option.bind_none, Option.map_some, Option.map_none, List.length_cons, List.length_nil, List.cons_append, List.nil_append, List.append_nil, if_true, if_false, ite_true, ite_false, Bool.false_eq_true, reduceIte, reduceCtorEq, List.map_cons, List.map_nil, Nat.sub_self, List.replicate_succ, List.replicate_zero, Nat.reduceSub, Nat.reduceAdd, Nat.reduceLT, Nat.reduceLeDiff, Nat.reduceEqDiff, Nat.reduceMul, Nat.reducePow, Int.reduceLT, Int.reduceLE, Int.reduceAdd, Int.reduceMul, Int.reduceSub, Int.reduceNeg, Int.reduceEq, Int.reducePow, Int.reduceMod, Int.reduceDiv, Int.reduceToNat, decide_true, decide_false, and_true, true_and, and_self, Option.some.injEq, addV, iaddV, subV, mulV, fdivV, modV, powV, negV, cmpV, isNonV, notNonV, idxV, at0, at1, at2, at3, at4, at5, seqAt, lstAt, lenV, isiV, typV, kb1, kb2, kb3, kb4, kb5, kb6, kb7, kb8, kb9, kb10, kb11, c8, c16, c64, np, letters_eq, S_cps, S_len, List.length_map, List.length_range, sizeLine_eq, letters_at z3.1 z3.2, letters_at z4.1 z4.2, S_one, r1, r2, S_mul _ _ a.1, S_mul _ _ r2.1, rep_one, List.length_replicate, S_app, List.length_append]
      rw [if_pos (by omega)]
      simp only [S_len, S_app, List.length_append, List.length_replicate, List.length_cons, List.length_nil]
      rw [if_pos (by omega)]
    · simp only [List.mem_append, List.mem_replicate, List.mem_singleton] at hx
      omega
  have key : ∃ l : List Nat, b_L_word_2 [some (.int c), some (.int h), none, none, none, none, none] st = .rt (.str (S l)) st ∧ ∀ c ∈ l, c < 123 := by
    unfold b_L_word_2
    by_cases e : h % 2 = 0
    · obtain ⟨l, f1, f2⟩ := fin (1 + h / 2 % 8) (by omega) (by omega)
      refine ⟨l, ?_, f2⟩
      refine (seqS_nx (e1 := [some (.int c), some (.int h), some (.str ("abcdefghijklmnopqrstuvwxyz" : Str)), none, none, none, none]) (s1 := st) rfl).trans ?_
      refine (seqS_nx (e1 := [some (.int c), some (.int h), some (.str ("abcdefghijklmnopqrstuvwxyz" : Str)), some (.int m), none, none, none]) (s1 := st) (by simp only [seqS, ifS, setS, augS, dropS, retS, retN, nxS, bkS, ctS, asgS, subS, R.toS, R.bind, R.of, opF, unF, varF, cstF, chF, isB, asB, andT, orT, notT, andF, orF, notF, ifF, nilA, consA, tupF, lstF, cbF, callF, bmF', truT, truV, nameG, nilG, consG, tupG, List.set_cons_zero, List.set_cons_succ, List.getElem?_cons_zero, List.getElem?_cons_succ, Option.bind_some, Option.bind_none, Option.map_some, Option.map_none, List.length_cons, List.length_nil, List.cons_append, List.nil_append, List.append_nil, if_true, if_false, ite_true, ite_false, Bool.false_eq_true, reduceIte, reduceCtorEq, List.map_cons, List.map_nil, Nat.sub_self, List.replicate_succ, List.replicate_zero, Nat.reduceSub, Nat.reduceAdd, Nat.reduceLT, Nat.reduceLeDiff, Nat.reduceEqDiff, Nat.reduceMul, Nat.reducePow, Int.reduceLT, Int.reduceLE, Int.reduceAdd, Int.reduceMul, Int.reduceSub, Int.reduceNeg, Int.reduceEq, Int.reducePow, Int.reduceMod, Int.reduceDiv, Int.reduceToNat, decide_true, decide_false, and_true, true_and, and_self, Option.some.injEq, addV, iaddV, subV, mulV, fdivV, modV, powV, negV, cmpV, isNonV, notNonV, m1, ← hm])).trans ?_
      refine (seqS_nx (e1 := [some (.int c), some (.int h), some (.str ("abcdefghijklmnopqrstuvwxyz" : Str)), some (.int m), some (.int (1 + m % 8)), none, none]) (s1 := st) (by simp only [seqS, ifS, setS, augS, dropS, retS, retN, nxS, bkS, ctS, asgS, subS, R.toS, R.bind, R.of, opF, unF, varF, cstF, chF, isB, asB, andT, orT, notT, andF, orF, notF, ifF, nilA, consA, tupF, lstF, cbF, callF, bmF', truT, truV, nameG, nilG, consG, tupG, List.set_cons_zero, List.set_cons_succ, List.getElem?_cons_zero, List.getElem?_cons_succ, Option.bind_some, Option.bind_none, Option.map_some, Option.map_none, List.length_cons, List.length_nil, List.cons_append, List.nil_append, List.append_nil, if_true, if_false, ite_true, ite_false, Bool.false_eq_true, reduceIte, reduceCtorEq, List.map_cons, List.map_nil, Nat.sub_self, List.replicate_succ, List.replicate_zero, Nat.reduceSub, Nat.reduceAdd, Nat.reduceLT, Nat.reduceLeDiff, Nat.reduceEqDiff, Nat.reduceMul, Nat.reducePow, Int.reduceLT, Int.reduceLE, Int.reduceAdd, Int.reduceMul, Int.reduceSub, Int.reduceNeg, Int.reduceEq, Int.reducePow, Int.reduceMod, Int.reduceDiv, Int.reduceToNat, decide_true, decide_false, and_true, true_and, and_self, Option.some.injEq, addV, iaddV, subV, mulV, fdivV, modV, powV, negV, cmpV, isNonV, notNonV])).trans ?_
      refine (seqS_nx (e1 := [some (.int c), some (.int h), some (.str ("abcdefghijklmnopqrstuvwxyz" : Str)), some (.int m), some (.int (1 + h / 2 % 8)), none, none]) (s1 := st) (by simp only [seqS, ifS, setS, augS, dropS, retS, retN, nxS, bkS, ctS, asgS, subS, R.toS, R.bind, R.of, opF, unF, varF, cstF, chF, isB, asB, andT, orT, notT, andF, orF, notF, ifF, nilA, consA, tupF, lstF, cbF, callF, bmF', truT, truV, nameG, nilG, consG, tupG, List.set_cons_zero, List.set_cons_succ, List.getElem?_cons_zero, List.getElem?_cons_succ, Option.bind_some, Option.bind_none, Option.map_some, Option.map_none, List.length_cons, List.length_nil, List.cons_append, List.nil_append, List.append_nil, if_true, if_false, ite_true, ite_false, Bool.false_eq_true, reduceIte, reduceCtorEq, List.map_cons, List.map_nil, Nat.sub_self, List.replicate_succ, List.replicate_zero, Nat.reduceSub, Nat.reduceAdd, Nat.reduceLT, Nat.reduceLeDiff, Nat.reduceEqDiff, Nat.reduceMul, Nat.reducePow, Int.reduceLT, Int.reduceLE, Int.reduceAdd, Int.reduceMul, Int.reduceSub, Int.reduceNeg, Int.reduceEq, Int.reducePow, Int.reduceMod, Int.reduceDiv, Int.reduceToNat, decide_true, decide_false, and_true, true_and, and_self, Option.some.injEq, addV, iaddV, subV, mulV, fdivV, modV, powV, negV, cmpV, isNonV, notNonV, eqV, neV, eqB, scEq, t1, t2, t3, t4, t5, t6, t7, t8, t9, t10, t11, t12, t13, t14, t15, t16, e, c2])).trans f1
    · obtain ⟨l, f1, f2⟩ := fin (1 + m % 8) (by omega) (by omega)
      refine ⟨l, ?_, f2⟩
      refine (seqS_nx (e1 := [some (.int c), some (.int h), some (.str ("abcdefghijklmnopqrstuvwxyz" : Str)), none, none, none, none]) (s1 := st) rfl).trans ?_
      refine (seqS_nx (e1 := [some (.int c), some (.int h), some (.str ("abcdefghijklmnopqrstuvwxyz" : Str)), some (.int m), none, none, none]) (s1 := st) (by simp only [seqS, ifS, setS, augS, dropS, retS, retN, nxS, bkS, ctS, asgS, subS, R.toS, R.bind, R.of, opF, unF, varF, cstF, chF, isB, asB, andT, orT, notT, andF, orF, notF, ifF, nilA, consA, tupF, lstF, cbF, callF, bmF', truT, truV, nameG, nilG, consG, tupG, List.set_cons_zero, List.set_cons_succ, List.getElem?_cons_zero, List.getElem?_cons_succ, Option.bind_some, Option.bind_none, Option.map_some, Option.map_none, List.length_cons, List.length_nil, List.cons_append, List.nil_append, List.append_nil, if_true, if_false, ite_true, ite_false, Bool.false_eq_true, reduceIte, reduceCtorEq, List.map_cons, List.map_nil, Nat.sub_self, List.replicate_succ, List.replicate_zero, Nat.reduceSub, Nat.reduceAdd, Nat.reduceLT, Nat.reduceLeDiff, Nat.reduceEqDiff, Nat.reduceMul, Nat.reducePow, Int.reduceLT, Int.reduceLE, Int.reduceAdd, Int.reduceMul, Int.reduceSub, Int.reduceNeg, Int.reduceEq, Int.reducePow, Int.reduceMod, Int.reduceDiv, Int.reduceToNat, decide_true, decide_false, and_true, true_and, and_self, Option.some.injEq, addV, iaddV, subV, mulV, fdivV, modV, powV, negV, cmpV, isNonV, notNonV, m1, ← hm])).trans ?_
      refine (seqS_nx (e1 := [some (.int c), some (.int h), some (.str ("abcdefghijklmnopqrstuvwxyz" : Str)), some (.int m), some (.int (1 + m % 8)), none, none]) (s1 := st) (by simp only [seqS, ifS, setS, augS, dropS, retS, retN, nxS, bkS, ctS, asgS, subS, R.toS, R.bind, R.of, opF, unF, varF, cstF, chF, isB, asB, andT, orT, notT, andF, orF, notF, ifF, nilA, consA, tupF, lstF, cbF, callF, bmF', truT, truV, nameG, nilG, consG, tupG, List.set_cons_zero, List.set_cons_succ, List.getElem?_cons_zero, List.getElem?_cons_succ, Option.bind_some, Option.bind_none, Option.map_some, Option.map_none, List.length_cons, List.length_nil, List.cons_append, List.nil_append, List.append_nil, if_true, if_false, ite_true, ite_false, Bool.false_eq_true, reduceIte, reduceCtorEq, List.map_cons, List.map_nil, Nat.sub_self, List.replicate_succ, List.replicate_zero, Nat.reduceSub, Nat.reduceAdd, Nat.reduceLT, Nat.reduceLeDiff, Nat.reduceEqDiff, Nat.reduceMul, Nat.reducePow, Int.reduceLT, Int.reduceLE, Int.reduceAdd, Int.reduceMul, Int.reduceSub, Int.reduceNeg, Int.reduceEq, Int.reducePow, Int.reduceMod, Int.reduceDiv, Int.reduceToNat, decide_true, decide_false, and_true, true_and, and_self, Option.some.injEq, addV, iaddV, subV, mulV, fdivV, modV, powV, negV, cmpV, isNonV, notNonV])).trans ?_
      refine (seqS_nx (e1 := [some (.int c), some (.int h), some (.str ("abcdefghijklmnopqrstuvwxyz" : Str)), some (.int m), some (.int (1 + m % 8)), none, none]) (s1 := st) (by simp only [seqS, ifS, setS, augS, dropS, retS, retN, nxS, bkS, ctS, asgS, subS, R.toS, R.bind, R.of, opF, unF, varF, cstF, chF, isB, asB, andT, orT, notT, andF, orF, notF, ifF, nilA, consA, tupF, lstF, cbF, callF, bmF', truT, truV, nameG, nilG, consG, tupG, List.set_cons_zero, List.set_cons_succ, List.getElem?_cons_zero, List.getElem?_cons_succ, Option.bind_some, Option.bind_none, Option.map_some, Option.map_none, List.length_cons, List.length_nil, List.cons_append, List.nil_append, List.append_nil, if_true, if_false, ite_true, ite_false, Bool.false_eq_true, reduceIte, reduceCtorEq, List.map_cons, List.map_nil, Nat.sub_self, List.replicate_succ, List.replicate_zero, Nat.reduceSub, Nat.reduceAdd, Nat.reduceLT, Nat.reduceLeDiff, Nat.reduceEqDiff, Nat.reduceMul, Nat.reducePow, Int.reduceLT, Int.reduceLE, Int.reduceAdd, Int.reduceMul, Int.reduceSub, Int.reduceNeg, Int.reduceEq, Int.reducePow, Int.reduceMod, Int.reduceDiv, Int.reduceToNat, decide_true, decide_false, and_true, true_and, and_self, Option.some.injEq, addV, iaddV, subV, mulV, fdivV, modV, powV, negV, cmpV, isNonV, notNonV, eqV, neV, eqB, scEq, t1, t2, t3, t4, t5, t6, t7, t8, t9, t10, t11, t12, t13, t14, t15, t16, e])).trans f1
  obtain ⟨l, f1, f2⟩ := key
  exact ⟨S l, run_rt0 f1 rfl, az_S f2⟩
theorem bits_small {c : Int} (h0 : 0 ≤ c) (h : c < 2 ^ 64) : Bits c := by
  have : c.natAbs < 2 ^ 64 := by omega
  have := PyProof.Rows.intBits_le this
  unfold Bits
  omega
theorem az_lit : Az "plus" ∧ Az "times" ∧ Az "neg" ∧ Az "bind" := ⟨by decide +kernel, by decide +kernel, by decide +kernel, by decide +kernel⟩
theorem six (m : Int) (h : 0 ≤ m ∧ m < 6) : ∃ w, Az w ∧ atI [PV.str "plus", .str "times", .str "neg", .str "bind", .str "plus", .str "bind"] m = some (.str w) := by
  obtain ⟨a1, a2, a3, a4⟩ := az_lit
  have : m = 0 ∨ m = 1 ∨ m = 2 ∨ m = 3 ∨ m = 4 ∨ m = 5 := by omega
  rcases this with e | e | e | e | e | e <;> subst e
  · exact ⟨_, a1, at0⟩
  · exact ⟨_, a2, at1⟩
  · exact ⟨_, a3, at2⟩
  · exact ⟨_, a4, at3⟩
  · exact ⟨_, a1, at4⟩
  · exact ⟨_, a4, at5⟩
theorem four (m : Int) (h : 0 ≤ m ∧ m < 4) : ∃ w, Az w ∧ atI [PV.str "plus", .str "times", .str "neg", .str "bind"] m = some (.str w) := by
  obtain ⟨a1, a2, a3, a4⟩ := az_lit
  have : m = 0 ∨ m = 1 ∨ m = 2 ∨ m = 3 := by omega
  rcases this with e | e | e | e <;> subst e
  · exact ⟨_, a1, at0⟩
  · exact ⟨_, a2, at1⟩
  · exact ⟨_, a3, at2⟩
  · exact ⟨_, a4, at3⟩
theorem ex_rt {f g : FS} {e e1 : Env} {s s1 : Store} {P : PV → Store → Prop} (h : f e s = .nx e1 s1) (k : ∃ v z, g e1 s1 = .rt v z ∧ P v z) : ∃ v z, seqS f g e s = .rt v z ∧ P v z := by
  obtain ⟨v, z, hz, p⟩ := k
  exact ⟨v, z, (seqS_nx h).trans hz, p⟩
/-- a good term comes out, with some garbage -/
def Out (n : Nat) (st : Store) : PV → Store → Prop := fun v z => ∃ t g, v = Tm.pv t ∧ t.Good n ∧ z = st ++ g
theorem out_run {n k : Nat} {body : FS} {args : List PV} {st : Store} (h : ∃ v z, body (args.map some ++ List.replicate (k - args.length) none) st = .rt v z ∧ Out n st v z) : ∃ t, runFn k body args st = .ok (Tm.pv t) st ∧ t.Good n := by
  obtain ⟨v, z, h, t, g, rfl, gd, rfl⟩ := h
  exact ⟨t, run_rt h (pv_pure t), gd⟩
theorem F_knot {c h : Int} {n : Nat} {st : Store} (hc : Bits c) (h0 : 0 ≤ h) (hn : 0 < n) : ∃ t, F_L_knot [.int c, .int (n : Int), .int h] st = .ok (Tm.pv t) st ∧ t.Good n := by
  have m1 := mb hc 16807 (by decide)
  obtain ⟨m, hm⟩ : ∃ m, m = c * 16807 % 2147483629 := ⟨_, rfl⟩
  have qm : 0 ≤ m ∧ m < 2147483629 := by rw [hm]; exact md _ _ (by decide)
  have c6 : (0 < (6 : Int) ∧ (6 : Int).natAbs.log2 < 9000) := by decide
  have c24 : (0 < (24 : Int) ∧ (24 : Int).natAbs.log2 < 9000) := by decide
  have c96 : (0 < (96 : Int) ∧ (96 : Int).natAbs.log2 < 9000) := by decide
  have z6 := md m 6 (by decide)
  have z24 := md (m / 24) 4 (by decide)
  have z96 := md (m / 96) 3 (by decide)
  have np : (0 : Int) < (n : Int) := by omega
  unfold F_L_knot
  apply out_run
  have fin : ∀ (w : Str) (k : Int) (g : Store), Az w → 1 ≤ k → k ≤ 4 → ∃ v z, (seqS (setS 6 (sliF (lstF (consA (cstF (.int 40692)) (consA (cstF (.int 39373)) (consA (cstF (.int 69069)) (consA (cstF (.int 30323)) nilA))))) noO (someO (varF 5))))
    (retS (tupF (consA (cstF (.str ("of" : Str))) (consA (varF 4) (consA (cbF tupleV (consA (lcF (seqI (varF 6)) [7] (nameG 7) yesT b_L_knot_e1) nilA)) nilA)))))) [some (.int c), some (.int (n : Int)), some (.int h), some (.int m), some (.str w), some (.int k), none, none] (st ++ g) = .rt v z ∧ Out n st v z := fun w k g hw k1 k4 => by
    obtain ⟨fl, hfl⟩ : ∃ fl : List Int, fl = [40692, 39373, 69069, 30323].take k.toNat := ⟨_, rfl⟩
    have cut : cutP [PV.int 40692, .int 39373, .int 69069, .int 30323] none (some k) = fl.map PV.int := by
      have : k = 1 ∨ k = 2 ∨ k = 3 ∨ k = 4 := by omega
      rcases this with e | e | e | e <;> subst e <;> rw [hfl] <;> rfl
    have fm : ∀ f ∈ fl, f.natAbs < 2 ^ 250 := fun f hf => by
      rw [hfl] at hf
      have := List.mem_of_mem_take hf
      simp only [List.mem_cons, List.not_mem_nil, or_false] at this
      rcases this with e | e | e | e <;> subst e <;> decide
    have ll : fl.length ≤ 4 := by rw [hfl, List.length_take]; simp only [List.length_cons, List.length_nil]; omega
    have lc := lcE (i := 6) (k := 7) (fe := b_L_knot_e1) (e := [some (.int c), some (.int (n : Int)), some (.int h), some (.int m), some (.str w), some (.int k), some (.ref (st ++ (g ++ [PO.lst [PV.int 40692, .int 39373, .int 69069, .int 30323]])).length), none]) (s := st ++ (g ++ [PO.lst [PV.int 40692, .int 39373, .int 69069, .int 30323], .lst (fl.map PV.int)]))
      (st ++ (g ++ [PO.lst [PV.int 40692, .int 39373, .int 69069, .int 30323]])).length fl PV.int (fun f => .int (c * f % 2147483549 % (n : Int))) rfl (by
        have : (st ++ (g ++ [PO.lst [PV.int 40692, .int 39373, .int 69069, .int 30323], .lst (fl.map PV.int)]) : Store) = (st ++ (g ++ [PO.lst [PV.int 40692, .int 39373, .int 69069, .int 30323]])) ++ [.lst (fl.map PV.int)] := by simp
        rw [this, getS0]; rfl) (by omega) fun f hf acc => by
        have mf := mb hc f (fm f hf)
        simp only [b_L_knot_e1, wipeE, seqS, ifS, setS, augS, dropS, retS, retN, nxS, bkS, ctS, asgS, subS, R.toS, R.bind, R.of, opF, unF, varF, cstF, chF, isB, asB, andT, orT, notT, andF, orF, notF, ifF, nilA, consA, tupF, lstF, cbF, callF, bmF', truT, truV, nameG, nilG, consG, tupG, List.set_cons_zero, List.set_cons_succ, List.getElem?_cons_zero, List.getElem?_cons_succ, Option.bind_some, Option.bind_none, Option.map_some, Option.map_none, List.length_cons, List.length_nil, List.cons_append, List.nil_append, List.append_nil, if_true, if_false, ite_true, ite_false, Bool.false_eq_true, reduceIte, reduceCtorEq, List.map_cons, List.map_nil, Nat.sub_self, List.replicate_succ, List.replicate_zero, Nat.reduceSub, Nat.reduceAdd, Nat.reduceLT, Nat.reduceLeDiff, Nat.reduceEqDiff, Nat.reduceMul, Nat.reducePow, Int.reduceLT, Int.reduceLE, Int.reduceAdd, Int.reduceMul, Int.reduceSub, Int.reduceNeg, Int.reduceEq, Int.reducePow, Int.reduceMod, Int.reduceDiv, Int.reduceToNat, decide_true, decide_false, and_true, true_and, and_self, Option.some.injEq, addV, iaddV, subV, mulV, fdivV, modV, powV, negV, cmpV, isNonV, notNonV, mf, np]
    refine ⟨(Tm.of w (fl.map fun f => c * f % 2147483549 % (n : Int))).pv, st ++ (g ++ [PO.lst [PV.int 40692, .int 39373, .int 69069, .int 30323], .lst (fl.map PV.int), .lst (fl.map fun f => .int (c * f % 2147483549 % (n : Int)))]), ?_, _, g ++ [PO.lst [PV.int 40692, .int 39373, .int 69069, .int 30323], .lst (fl.map PV.int), .lst (fl.map fun f => .int (c * f % 2147483549 % (n : Int)))], rfl, ⟨hw, by rw [List.length_map]; omega, fun a ha => ?_⟩, rfl⟩
    · have g0 : ∀ k, (st ++ (g ++ k))[(st ++ g).length]? = k[0]? := fun k => by rw [← appS]; exact getS0
      have g2 : ∀ a b k, (st ++ (g ++ a :: b :: k))[(st ++ (g ++ [a, b])).length]? = k[0]? := fun a b k => by
        have : (st ++ (g ++ a :: b :: k)) = (st ++ (g ++ [a, b])) ++ k := by simp
        rw [this]
        exact getS0
      simp only [seqS, ifS, setS, augS, dropS, retS, retN, nxS, bkS, ctS, asgS, subS, R.toS, R.bind, R.of, opF, unF, varF, cstF, chF, isB, asB, andT, orT, notT, andF, orF, notF, ifF, nilA, consA, tupF, lstF, cbF, callF, bmF', truT, truV, nameG, nilG, consG, tupG, List.set_cons_zero, List.set_cons_succ, List.getElem?_cons_zero, List.getElem?_cons_succ, Option.bind_some, Option.bind_none, Option.map_some, Option.map_none, List.length_cons, List.length_nil, List.cons_append, List.nil_append, List.append_nil, if_true, if_false, ite_true, ite_false, Bool.false_eq_true, reduceIte, reduceCtorEq, List.map_cons, List.map_nil, Nat.sub_self, List.replicate_succ, List.replicate_zero, Nat.reduceSub, Nat.reduceAdd, Nat.reduceLT, Nat.reduceLeDiff, Nat.reduceEqDiff, Nat.reduceMul, Nat.reducePow, Int.reduceLT, Int.reduceLE, Int.reduceAdd, Int.reduceMul, Int.reduceSub, Int.reduceNeg, Int.reduceEq, Int.reducePow, Int.reduceMod, Int.reduceDiv, Int.reduceToNat, decide_true, decide_false, and_true, true_and, and_self, Option.some.injEq, sliF, noO, someO, asI, slV, idxV, at0, at1, at2, at3, at4, at5, seqAt, lstAt, lenV, isiV, typV, kb1, kb2, kb3, kb4, kb5, kb6, kb7, kb8, kb9, kb10, kb11, sizeLine_eq, appS, g0, cut, lc, tupleV, g2]
      simp only [Tm.pv, List.map_map]
      rfl
    · obtain ⟨f, _, rfl⟩ := List.mem_map.mp ha
      exact md _ _ np
  obtain ⟨w0, a0, hw0⟩ := six (m % 6) z6
  obtain ⟨x, hx, ax⟩ := F_word (c := m / 96 % 3) (h := h) (st := st ++ [PO.lst [PV.str "plus", .str "times", .str "neg", .str "bind", .str "plus", .str "bind"]]) (bits_small (by omega) (by omega)) h0
  unfold b_L_knot
  refine ex_rt (e1 := [some (.int c), some (.int (n : Int)), some (.int h), some (.int m), none, none, none, none]) (s1 := st) (by simp only [seqS, ifS, setS, augS, dropS, retS, retN, nxS, bkS, ctS, asgS, subS, R.toS, R.bind, R.of, opF, unF, varF, cstF, chF, isB, asB, andT, orT, notT, andF, orF, notF, ifF, nilA, consA, tupF, lstF, cbF, callF, bmF', truT, truV, nameG, nilG, consG, tupG, List.set_cons_zero, List.set_cons_succ, List.getElem?_cons_zero, List.getElem?_cons_succ, Option.bind_some, Option.bind_none, Option.map_some, Option.map_none, List.length_cons, List.length_nil, List.cons_append, List.nil_append, List.append_nil, if_true, if_false, ite_true, ite_false, Bool.false_eq_true, reduceIte, reduceCtorEq, List.map_cons, List.map_nil, Nat.sub_self, List.replicate_succ, List.replicate_zero, Nat.reduceSub, Nat.reduceAdd, Nat.reduceLT, Nat.reduceLeDiff, Nat.reduceEqDiff, Nat.reduceMul, Nat.reducePow, Int.reduceLT, Int.reduceLE, Int.reduceAdd, Int.reduceMul, Int.reduceSub, Int.reduceNeg, Int.reduceEq, Int.reducePow, Int.reduceMod, Int.reduceDiv, Int.reduceToNat, decide_true, decide_false, and_true, true_and, and_self, Option.some.injEq, addV, iaddV, subV, mulV, fdivV, modV, powV, negV, cmpV, isNonV, notNonV, m1, ← hm]) ?_
  refine ex_rt (e1 := [some (.int c), some (.int (n : Int)), some (.int h), some (.int m), some (.str w0), none, none, none]) (s1 := st ++ [PO.lst [PV.str "plus", .str "times", .str "neg", .str "bind", .str "plus", .str "bind"]]) ?_ ?_
  · have hw0' := hw0
    simp only [seqS, ifS, setS, augS, dropS, retS, retN, nxS, bkS, ctS, asgS, subS, R.toS, R.bind, R.of, opF, unF, varF, cstF, chF, isB, asB, andT, orT, notT, andF, orF, notF, ifF, nilA, consA, tupF, lstF, cbF, callF, bmF', truT, truV, nameG, nilG, consG, tupG, List.set_cons_zero, List.set_cons_succ, List.getElem?_cons_zero, List.getElem?_cons_succ, Option.bind_some, Option.bind_none, Option.map_some, Option.map_none, List.length_cons, List.length_nil, List.cons_append, List.nil_append, List.append_nil, if_true, if_false, ite_true, ite_false, Bool.false_eq_true, reduceIte, reduceCtorEq, List.map_cons, List.map_nil, Nat.sub_self, List.replicate_succ, List.replicate_zero, Nat.reduceSub, Nat.reduceAdd, Nat.reduceLT, Nat.reduceLeDiff, Nat.reduceEqDiff, Nat.reduceMul, Nat.reducePow, Int.reduceLT, Int.reduceLE, Int.reduceAdd, Int.reduceMul, Int.reduceSub, Int.reduceNeg, Int.reduceEq, Int.reducePow, Int.reduceMod, Int.reduceDiv, Int.reduceToNat, decide_true, decide_false, and_true, true_and, and_self, Option.some.injEq, addV, iaddV, subV, mulV, fdivV, modV, powV, negV, cmpV, isNonV, notNonV, idxV, at0, at1, at2, at3, at4, at5, seqAt, lstAt, lenV, isiV, typV, kb1, kb2, kb3, kb4, kb5, kb6, kb7, kb8, kb9, kb10, kb11, sizeLine_eq, getS0, hw0]
  generalize ([PO.lst [PV.str "plus", .str "times", .str "neg", .str "bind", .str "plus", .str "bind"]] : Store) = g at hx ⊢
  have two : ∀ (k : Int), 1 ≤ k → k ≤ 4 → ∃ v z, (seqS (ifS (isB (opF eqV (opF modV (opF fdivV (varF 3) (cstF (.int 6))) (cstF (.int 4))) (cstF (.int 2)))) (setS 4 (callF 2 F_L_word_2 [] (consA (opF modV (opF fdivV (varF 3) (cstF (.int 96))) (cstF (.int 3))) (consA (varF 2) nilA)))) nxS)
    (seqS (setS 6 (sliF (lstF (consA (cstF (.int 40692)) (consA (cstF (.int 39373)) (consA (cstF (.int 69069)) (consA (cstF (.int 30323)) nilA))))) noO (someO (varF 5))))
    (retS (tupF (consA (cstF (.str ("of" : Str))) (consA (varF 4) (consA (cbF tupleV (consA (lcF (seqI (varF 6)) [7] (nameG 7) yesT b_L_knot_e1) nilA)) nilA))))))) [some (.int c), some (.int (n : Int)), some (.int h), some (.int m), some (.str w0), some (.int k), none, none] (st ++ g) = .rt v z ∧ Out n st v z := fun k k1 k4 => by
    by_cases e : m / 6 % 4 = 2
    · refine ex_rt (e1 := [some (.int c), some (.int (n : Int)), some (.int h), some (.int m), some (.str x), some (.int k), none, none]) (s1 := st ++ g) ?_ (fin x k g ax k1 k4)
      simp only [seqS, ifS, setS, augS, dropS, retS, retN, nxS, bkS, ctS, asgS, subS, R.toS, R.bind, R.of, opF, unF, varF, cstF, chF, isB, asB, andT, orT, notT, andF, orF, notF, ifF, nilA, consA, tupF, lstF, cbF, callF, bmF', truT, truV, nameG, nilG, consG, tupG, List.set_cons_zero, List.set_cons_succ, List.getElem?_cons_zero, List.getElem?_cons_succ, Option.bind_some, Option.bind_none, Option.map_some, Option.map_none, List.length_cons, List.length_nil, List.cons_append, List.nil_append, List.append_nil, if_true, if_false, ite_true, ite_false, Bool.false_eq_true, reduceIte, reduceCtorEq, List.map_cons, List.map_nil, Nat.sub_self, List.replicate_succ, List.replicate_zero, Nat.reduceSub, Nat.reduceAdd, Nat.reduceLT, Nat.reduceLeDiff, Nat.reduceEqDiff, Nat.reduceMul, Nat.reducePow, Int.reduceLT, Int.reduceLE, Int.reduceAdd, Int.reduceMul, Int.reduceSub, Int.reduceNeg, Int.reduceEq, Int.reducePow, Int.reduceMod, Int.reduceDiv, Int.reduceToNat, decide_true, decide_false, and_true, true_and, and_self, Option.some.injEq, addV, iaddV, subV, mulV, fdivV, modV, powV, negV, cmpV, isNonV, notNonV, eqV, neV, eqB, scEq, t1, t2, t3, t4, t5, t6, t7, t8, t9, t10, t11, t12, t13, t14, t15, t16, c6, c96, e, hx]
    · refine ex_rt (e1 := [some (.int c), some (.int (n : Int)), some (.int h), some (.int m), some (.str w0), some (.int k), none, none]) (s1 := st ++ g) ?_ (fin w0 k g a0 k1 k4)
      simp only [seqS, ifS, setS, augS, dropS, retS, retN, nxS, bkS, ctS, asgS, subS, R.toS, R.bind, R.of, opF, unF, varF, cstF, chF, isB, asB, andT, orT, notT, andF, orF, notF, ifF, nilA, consA, tupF, lstF, cbF, callF, bmF', truT, truV, nameG, nilG, consG, tupG, List.set_cons_zero, List.set_cons_succ, List.getElem?_cons_zero, List.getElem?_cons_succ, Option.bind_some, Option.bind_none, Option.map_some, Option.map_none, List.length_cons, List.length_nil, List.cons_append, List.nil_append, List.append_nil, if_true, if_false, ite_true, ite_false, Bool.false_eq_true, reduceIte, reduceCtorEq, List.map_cons, List.map_nil, Nat.sub_self, List.replicate_succ, List.replicate_zero, Nat.reduceSub, Nat.reduceAdd, Nat.reduceLT, Nat.reduceLeDiff, Nat.reduceEqDiff, Nat.reduceMul, Nat.reducePow, Int.reduceLT, Int.reduceLE, Int.reduceAdd, Int.reduceMul, Int.reduceSub, Int.reduceNeg, Int.reduceEq, Int.reducePow, Int.reduceMod, Int.reduceDiv, Int.reduceToNat, decide_true, decide_false, and_true, true_and, and_self, Option.some.injEq, addV, iaddV, subV, mulV, fdivV, modV, powV, negV, cmpV, isNonV, notNonV, eqV, neV, eqB, scEq, t1, t2, t3, t4, t5, t6, t7, t8, t9, t10, t11, t12, t13, t14, t15, t16, c6, e]
  obtain ⟨k0, hk0, k1, k2⟩ : ∃ k0, k0 = 2 - (if decide (w0 = "neg") = true then 1 else 0 : Int) ∧ 1 ≤ k0 ∧ k0 ≤ 2 := ⟨_, rfl, by split <;> omega, by split <;> omega⟩
  refine ex_rt (e1 := [some (.int c), some (.int (n : Int)), some (.int h), some (.int m), some (.str w0), some (.int k0), none, none]) (s1 := st ++ g) ?_ ?_
  · rw [hk0]
    by_cases e : w0 = "neg"
    · simp only [seqS, ifS, setS, augS, dropS, retS, retN, nxS, bkS, ctS, asgS, subS, R.toS, R.bind, R.of, opF, unF, varF, cstF, chF, isB, asB, andT, orT, notT, andF, orF, notF, ifF, nilA, consA, tupF, lstF, cbF, callF, bmF', truT, truV, nameG, nilG, consG, tupG, List.set_cons_zero, List.set_cons_succ, List.getElem?_cons_zero, List.getElem?_cons_succ, Option.bind_some, Option.bind_none, Option.map_some, Option.map_none, List.length_cons, List.length_nil, List.cons_append, List.nil_append, List.append_nil, if_true, if_false, ite_true, ite_false, Bool.false_eq_true, reduceIte, reduceCtorEq, List.map_cons, List.map_nil, Nat.sub_self, List.replicate_succ, List.replicate_zero, Nat.reduceSub, Nat.reduceAdd, Nat.reduceLT, Nat.reduceLeDiff, Nat.reduceEqDiff, Nat.reduceMul, Nat.reducePow, Int.reduceLT, Int.reduceLE, Int.reduceAdd, Int.reduceMul, Int.reduceSub, Int.reduceNeg, Int.reduceEq, Int.reducePow, Int.reduceMod, Int.reduceDiv, Int.reduceToNat, decide_true, decide_false, and_true, true_and, and_self, Option.some.injEq, addV, iaddV, subV, mulV, fdivV, modV, powV, negV, cmpV, isNonV, notNonV, eqV, eqB, scEq, intV, e]
    · simp only [seqS, ifS, setS, augS, dropS, retS, retN, nxS, bkS, ctS, asgS, subS, R.toS, R.bind, R.of, opF, unF, varF, cstF, chF, isB, asB, andT, orT, notT, andF, orF, notF, ifF, nilA, consA, tupF, lstF, cbF, callF, bmF', truT, truV, nameG, nilG, consG, tupG, List.set_cons_zero, List.set_cons_succ, List.getElem?_cons_zero, List.getElem?_cons_succ, Option.bind_some, Option.bind_none, Option.map_some, Option.map_none, List.length_cons, List.length_nil, List.cons_append, List.nil_append, List.append_nil, if_true, if_false, ite_true, ite_false, Bool.false_eq_true, reduceIte, reduceCtorEq, List.map_cons, List.map_nil, Nat.sub_self, List.replicate_succ, List.replicate_zero, Nat.reduceSub, Nat.reduceAdd, Nat.reduceLT, Nat.reduceLeDiff, Nat.reduceEqDiff, Nat.reduceMul, Nat.reducePow, Int.reduceLT, Int.reduceLE, Int.reduceAdd, Int.reduceMul, Int.reduceSub, Int.reduceNeg, Int.reduceEq, Int.reducePow, Int.reduceMod, Int.reduceDiv, Int.reduceToNat, decide_true, decide_false, and_true, true_and, and_self, Option.some.injEq, addV, iaddV, subV, mulV, fdivV, modV, powV, negV, cmpV, isNonV, notNonV, eqV, eqB, scEq, intV, e]
  by_cases e : 1 < m / 6 % 4
  · refine ex_rt (e1 := [some (.int c), some (.int (n : Int)), some (.int h), some (.int m), some (.str w0), some (.int (1 + m / 24 % 4)), none, none]) (s1 := st ++ g) ?_ (two _ (by omega) (by omega))
    simp only [seqS, ifS, setS, augS, dropS, retS, retN, nxS, bkS, ctS, asgS, subS, R.toS, R.bind, R.of, opF, unF, varF, cstF, chF, isB, asB, andT, orT, notT, andF, orF, notF, ifF, nilA, consA, tupF, lstF, cbF, callF, bmF', truT, truV, nameG, nilG, consG, tupG, List.set_cons_zero, List.set_cons_succ, List.getElem?_cons_zero, List.getElem?_cons_succ, Option.bind_some, Option.bind_none, Option.map_some, Option.map_none, List.length_cons, List.length_nil, List.cons_append, List.nil_append, List.append_nil, if_true, if_false, ite_true, ite_false, Bool.false_eq_true, reduceIte, reduceCtorEq, List.map_cons, List.map_nil, Nat.sub_self, List.replicate_succ, List.replicate_zero, Nat.reduceSub, Nat.reduceAdd, Nat.reduceLT, Nat.reduceLeDiff, Nat.reduceEqDiff, Nat.reduceMul, Nat.reducePow, Int.reduceLT, Int.reduceLE, Int.reduceAdd, Int.reduceMul, Int.reduceSub, Int.reduceNeg, Int.reduceEq, Int.reducePow, Int.reduceMod, Int.reduceDiv, Int.reduceToNat, decide_true, decide_false, and_true, true_and, and_self, Option.some.injEq, addV, iaddV, subV, mulV, fdivV, modV, powV, negV, cmpV, isNonV, notNonV, c6, c24, e]
  · refine ex_rt (e1 := [some (.int c), some (.int (n : Int)), some (.int h), some (.int m), some (.str w0), some (.int k0), none, none]) (s1 := st ++ g) ?_ (two _ (by omega) (by omega))
    simp only [seqS, ifS, setS, augS, dropS, retS, retN, nxS, bkS, ctS, asgS, subS, R.toS, R.bind, R.of, opF, unF, varF, cstF, chF, isB, asB, andT, orT, notT, andF, orF, notF, ifF, nilA, consA, tupF, lstF, cbF, callF, bmF', truT, truV, nameG, nilG, consG, tupG, List.set_cons_zero, List.set_cons_succ, List.getElem?_cons_zero, List.getElem?_cons_succ, Option.bind_some, Option.bind_none, Option.map_some, Option.map_none, List.length_cons, List.length_nil, List.cons_append, List.nil_append, List.append_nil, if_true, if_false, ite_true, ite_false, Bool.false_eq_true, reduceIte, reduceCtorEq, List.map_cons, List.map_nil, Nat.sub_self, List.replicate_succ, List.replicate_zero, Nat.reduceSub, Nat.reduceAdd, Nat.reduceLT, Nat.reduceLeDiff, Nat.reduceEqDiff, Nat.reduceMul, Nat.reducePow, Int.reduceLT, Int.reduceLE, Int.reduceAdd, Int.reduceMul, Int.reduceSub, Int.reduceNeg, Int.reduceEq, Int.reducePow, Int.reduceMod, Int.reduceDiv, Int.reduceToNat, decide_true, decide_false, and_true, true_and, and_self, Option.some.injEq, addV, iaddV, subV, mulV, fdivV, modV, powV, negV, cmpV, isNonV, notNonV, c6, e]
theorem F_term {c h : Int} {n : Nat} {st : Store} (hc : Bits c) (h0 : 0 ≤ h) : ∃ t, F_L_term [.int c, .int (n : Int), .int h] st = .ok (Tm.pv t) st ∧ t.Good n := by
  have m1 := mb hc 48271 (by decide)
  obtain ⟨m, hm⟩ : ∃ m, m = c * 48271 % 2147483647 := ⟨_, rfl⟩
  have qm : 0 ≤ m ∧ m < 2147483647 := by rw [hm]; exact md _ _ (by decide)
  have c10 : (0 < (10 : Int) ∧ (10 : Int).natAbs.log2 < 9000) := by decide
  have c50 : (0 < (50 : Int) ∧ (50 : Int).natAbs.log2 < 9000) := by decide
  have z3 := md (m / 50) 3 (by decide)
  have z4 := md (m / 50) 4 (by decide)
  obtain ⟨i, hi⟩ := F_number (st := st) hc
  obtain ⟨x1, hx1, ax1⟩ := F_word (c := m / 50 % 3) (h := h) (st := st) (bits_small (by omega) (by omega)) h0
  obtain ⟨x2, hx2, ax2⟩ := F_word (c := c) (h := h) (st := st) hc h0
  obtain ⟨w, aw, hw⟩ := four (m / 50 % 4) z4
  unfold F_L_term
  apply out_run
  unfold b_L_term
  refine ex_rt (e1 := [some (.int c), some (.int (n : Int)), some (.int h), some (.int m)]) (s1 := st) (by simp only [seqS, ifS, setS, augS, dropS, retS, retN, nxS, bkS, ctS, asgS, subS, R.toS, R.bind, R.of, opF, unF, varF, cstF, chF, isB, asB, andT, orT, notT, andF, orF, notF, ifF, nilA, consA, tupF, lstF, cbF, callF, bmF', truT, truV, nameG, nilG, consG, tupG, List.set_cons_zero, List.set_cons_succ, List.getElem?_cons_zero, List.getElem?_cons_succ, Option.bind_some, Option.bind_none, Option.map_some, Option.map_none, List.length_cons, List.length_nil, List.cons_append, List.nil_append, List.append_nil, if_true, if_false, ite_true, ite_false, Bool.false_eq_true, reduceIte, reduceCtorEq, List.map_cons, List.map_nil, Nat.sub_self, List.replicate_succ, List.replicate_zero, Nat.reduceSub, Nat.reduceAdd, Nat.reduceLT, Nat.reduceLeDiff, Nat.reduceEqDiff, Nat.reduceMul, Nat.reducePow, Int.reduceLT, Int.reduceLE, Int.reduceAdd, Int.reduceMul, Int.reduceSub, Int.reduceNeg, Int.reduceEq, Int.reducePow, Int.reduceMod, Int.reduceDiv, Int.reduceToNat, decide_true, decide_false, and_true, true_and, and_self, Option.some.injEq, addV, iaddV, subV, mulV, fdivV, modV, powV, negV, cmpV, isNonV, notNonV, m1, ← hm]) ?_
  by_cases e1 : m % 10 < 2
  · refine ⟨(Tm.num i).pv, st, ?_, _, [], rfl, trivial, (List.append_nil _).symm⟩
    refine seqS_rt ?_
    simp only [seqS, ifS, setS, augS, dropS, retS, retN, nxS, bkS, ctS, asgS, subS, R.toS, R.bind, R.of, opF, unF, varF, cstF, chF, isB, asB, andT, orT, notT, andF, orF, notF, ifF, nilA, consA, tupF, lstF, cbF, callF, bmF', truT, truV, nameG, nilG, consG, tupG, List.set_cons_zero, List.set_cons_succ, List.getElem?_cons_zero, List.getElem?_cons_succ, Option.bind_some, Option.bind_none, Option.map_some, Option.map_none, List.length_cons, List.length_nil, List.cons_append, List.nil_append, List.append_nil, if_true, if_false, ite_true, ite_false, Bool.false_eq_true, reduceIte, reduceCtorEq, List.map_cons, List.map_nil, Nat.sub_self, List.replicate_succ, List.replicate_zero, Nat.reduceSub, Nat.reduceAdd, Nat.reduceLT, Nat.reduceLeDiff, Nat.reduceEqDiff, Nat.reduceMul, Nat.reducePow, Int.reduceLT, Int.reduceLE, Int.reduceAdd, Int.reduceMul, Int.reduceSub, Int.reduceNeg, Int.reduceEq, Int.reducePow, Int.reduceMod, Int.reduceDiv, Int.reduceToNat, decide_true, decide_false, and_true, true_and, and_self, Option.some.injEq, addV, iaddV, subV, mulV, fdivV, modV, powV, negV, cmpV, isNonV, notNonV, eqV, neV, eqB, scEq, t1, t2, t3, t4, t5, t6, t7, t8, t9, t10, t11, t12, t13, t14, t15, t16, e1, hi, sizeLine_eq, Tm.pv]
  refine ex_rt (e1 := [some (.int c), some (.int (n : Int)), some (.int h), some (.int m)]) (s1 := st) (by simp only [seqS, ifS, setS, augS, dropS, retS, retN, nxS, bkS, ctS, asgS, subS, R.toS, R.bind, R.of, opF, unF, varF, cstF, chF, isB, asB, andT, orT, notT, andF, orF, notF, ifF, nilA, consA, tupF, lstF, cbF, callF, bmF', truT, truV, nameG, nilG, consG, tupG, List.set_cons_zero, List.set_cons_succ, List.getElem?_cons_zero, List.getElem?_cons_succ, Option.bind_some, Option.bind_none, Option.map_some, Option.map_none, List.length_cons, List.length_nil, List.cons_append, List.nil_append, List.append_nil, if_true, if_false, ite_true, ite_false, Bool.false_eq_true, reduceIte, reduceCtorEq, List.map_cons, List.map_nil, Nat.sub_self, List.replicate_succ, List.replicate_zero, Nat.reduceSub, Nat.reduceAdd, Nat.reduceLT, Nat.reduceLeDiff, Nat.reduceEqDiff, Nat.reduceMul, Nat.reducePow, Int.reduceLT, Int.reduceLE, Int.reduceAdd, Int.reduceMul, Int.reduceSub, Int.reduceNeg, Int.reduceEq, Int.reducePow, Int.reduceMod, Int.reduceDiv, Int.reduceToNat, decide_true, decide_false, and_true, true_and, and_self, Option.some.injEq, addV, iaddV, subV, mulV, fdivV, modV, powV, negV, cmpV, isNonV, notNonV, e1]) ?_
  by_cases e2 : m % 10 < 4 ∨ (n : Int) = 0
  · have br : ∀ (v : PV) (z : Store), (seqS (ifS (isB (opF eqV (opF modV (opF fdivV (varF 3) (cstF (.int 10))) (cstF (.int 5))) (cstF (.int 0)))) (retS (tupF (consA (cstF (.str ("name" : Str))) (consA (callF 2 F_L_word_2 [] (consA (opF modV (opF fdivV (varF 3) (cstF (.int 50))) (cstF (.int 3))) (consA (varF 2) nilA))) nilA)))) nxS)
    (seqS (ifS (isB (opF eqV (opF modV (opF fdivV (varF 3) (cstF (.int 10))) (cstF (.int 5))) (cstF (.int 1)))) (retS (tupF (consA (cstF (.str ("name" : Str))) (consA (opF idxV (lstF (consA (cstF (.str ("plus" : Str))) (consA (cstF (.str ("times" : Str))) (consA (cstF (.str ("neg" : Str))) (consA (cstF (.str ("bind" : Str))) nilA))))) (opF modV (opF fdivV (varF 3) (cstF (.int 50))) (cstF (.int 4)))) nilA)))) nxS)
    (retS (tupF (consA (cstF (.str ("name" : Str))) (consA (callF 2 F_L_word_2 [] (consA (varF 0) (consA (varF 2) nilA))) nilA)))))) [some (.int c), some (.int (n : Int)), some (.int h), some (.int m)] st = .rt v z → ∀ q : FS, seqS (ifS (orT (isB (opF ltV (opF modV (varF 3) (cstF (.int 10))) (cstF (.int 4)))) (isB (opF eqV (varF 1) (cstF (.int 0))))) (seqS (ifS (isB (opF eqV (opF modV (opF fdivV (varF 3) (cstF (.int 10))) (cstF (.int 5))) (cstF (.int 0)))) (retS (tupF (consA (cstF (.str ("name" : Str))) (consA (callF 2 F_L_word_2 [] (consA (opF modV (opF fdivV (varF 3) (cstF (.int 50))) (cstF (.int 3))) (consA (varF 2) nilA))) nilA)))) nxS)
    (seqS (ifS (isB (opF eqV (opF modV (opF fdivV (varF 3) (cstF (.int 10))) (cstF (.int 5))) (cstF (.int 1)))) (retS (tupF (consA (cstF (.str ("name" : Str))) (consA (opF idxV (lstF (consA (cstF (.str ("plus" : Str))) (consA (cstF (.str ("times" : Str))) (consA (cstF (.str ("neg" : Str))) (consA (cstF (.str ("bind" : Str))) nilA))))) (opF modV (opF fdivV (varF 3) (cstF (.int 50))) (cstF (.int 4)))) nilA)))) nxS)
    (retS (tupF (consA (cstF (.str ("name" : Str))) (consA (callF 2 F_L_word_2 [] (consA (varF 0) (consA (varF 2) nilA))) nilA)))))) nxS) q [some (.int c), some (.int (n : Int)), some (.int h), some (.int m)] st = .rt v z := fun v z hv q => by
      refine seqS_rt ?_
      refine (ifS_t (s1 := st) ?_).trans hv
      by_cases e4 : m % 10 < 4
      · simp only [seqS, ifS, setS, augS, dropS, retS, retN, nxS, bkS, ctS, asgS, subS, R.toS, R.bind, R.of, opF, unF, varF, cstF, chF, isB, asB, andT, orT, notT, andF, orF, notF, ifF, nilA, consA, tupF, lstF, cbF, callF, bmF', truT, truV, nameG, nilG, consG, tupG, List.set_cons_zero, List.set_cons_succ, List.getElem?_cons_zero, List.getElem?_cons_succ, Option.bind_some, Option.bind_none, Option.map_some, Option.map_none, List.length_cons, List.length_nil, List.cons_append, List.nil_append, List.append_nil, if_true, if_false, ite_true, ite_false, Bool.false_eq_true, reduceIte, reduceCtorEq, List.map_cons, List.map_nil, Nat.sub_self, List.replicate_succ, List.replicate_zero, Nat.reduceSub, Nat.reduceAdd, Nat.reduceLT, Nat.reduceLeDiff, Nat.reduceEqDiff, Nat.reduceMul, Nat.reducePow, Int.reduceLT, Int.reduceLE, Int.reduceAdd, Int.reduceMul, Int.reduceSub, Int.reduceNeg, Int.reduceEq, Int.reducePow, Int.reduceMod, Int.reduceDiv, Int.reduceToNat, decide_true, decide_false, and_true, true_and, and_self, Option.some.injEq, addV, iaddV, subV, mulV, fdivV, modV, powV, negV, cmpV, isNonV, notNonV, eqV, neV, eqB, scEq, t1, t2, t3, t4, t5, t6, t7, t8, t9, t10, t11, t12, t13, t14, t15, t16, e4]
      · have e5 := e2.resolve_left e4
        simp only [seqS, ifS, setS, augS, dropS, retS, retN, nxS, bkS, ctS, asgS, subS, R.toS, R.bind, R.of, opF, unF, varF, cstF, chF, isB, asB, andT, orT, notT, andF, orF, notF, ifF, nilA, consA, tupF, lstF, cbF, callF, bmF', truT, truV, nameG, nilG, consG, tupG, List.set_cons_zero, List.set_cons_succ, List.getElem?_cons_zero, List.getElem?_cons_succ, Option.bind_some, Option.bind_none, Option.map_some, Option.map_none, List.length_cons, List.length_nil, List.cons_append, List.nil_append, List.append_nil, if_true, if_false, ite_true, ite_false, Bool.false_eq_true, reduceIte, reduceCtorEq, List.map_cons, List.map_nil, Nat.sub_self, List.replicate_succ, List.replicate_zero, Nat.reduceSub, Nat.reduceAdd, Nat.reduceLT, Nat.reduceLeDiff, Nat.reduceEqDiff, Nat.reduceMul, Nat.reducePow, Int.reduceLT, Int.reduceLE, Int.reduceAdd, Int.reduceMul, Int.reduceSub, Int.reduceNeg, Int.reduceEq, Int.reducePow, Int.reduceMod, Int.reduceDiv, Int.reduceToNat, decide_true, decide_false, and_true, true_and, and_self, Option.some.injEq, addV, iaddV, subV, mulV, fdivV, modV, powV, negV, cmpV, isNonV, notNonV, eqV, neV, eqB, scEq, t1, t2, t3, t4, t5, t6, t7, t8, t9, t10, t11, t12, t13, t14, t15, t16, e4, e5]
    by_cases e3 : m / 10 % 5 = 0
    · exact ⟨(Tm.name x1).pv, st, br _ _ (by simp only [seqS, ifS, setS, augS, dropS, retS, retN, nxS, bkS, ctS, asgS, subS, R.toS, R.bind, R.of, opF, unF, varF, cstF, chF, isB, asB, andT, orT, notT, andF, orF, notF, ifF, nilA, consA, tupF, lstF, cbF, callF, bmF', truT, truV, nameG, nilG, consG, tupG, List.set_cons_zero, List.set_cons_succ, List.getElem?_cons_zero, List.getElem?_cons_succ, Option.bind_some, Option.bind_none, Option.map_some, Option.map_none, List.length_cons, List.length_nil, List.cons_append, List.nil_append, List.append_nil, if_true, if_false, ite_true, ite_false, Bool.false_eq_true, reduceIte, reduceCtorEq, List.map_cons, List.map_nil, Nat.sub_self, List.replicate_succ, List.replicate_zero, Nat.reduceSub, Nat.reduceAdd, Nat.reduceLT, Nat.reduceLeDiff, Nat.reduceEqDiff, Nat.reduceMul, Nat.reducePow, Int.reduceLT, Int.reduceLE, Int.reduceAdd, Int.reduceMul, Int.reduceSub, Int.reduceNeg, Int.reduceEq, Int.reducePow, Int.reduceMod, Int.reduceDiv, Int.reduceToNat, decide_true, decide_false, and_true, true_and, and_self, Option.some.injEq, addV, iaddV, subV, mulV, fdivV, modV, powV, negV, cmpV, isNonV, notNonV, eqV, neV, eqB, scEq, t1, t2, t3, t4, t5, t6, t7, t8, t9, t10, t11, t12, t13, t14, t15, t16, e3, c10, c50, hx1, sizeLine_eq, Tm.pv]) _, _, [], rfl, ax1, (List.append_nil _).symm⟩
    by_cases e4 : m / 10 % 5 = 1
    · exact ⟨(Tm.name w).pv, st ++ [PO.lst [PV.str "plus", .str "times", .str "neg", .str "bind"]], br _ _ (by simp only [seqS, ifS, setS, augS, dropS, retS, retN, nxS, bkS, ctS, asgS, subS, R.toS, R.bind, R.of, opF, unF, varF, cstF, chF, isB, asB, andT, orT, notT, andF, orF, notF, ifF, nilA, consA, tupF, lstF, cbF, callF, bmF', truT, truV, nameG, nilG, consG, tupG, List.set_cons_zero, List.set_cons_succ, List.getElem?_cons_zero, List.getElem?_cons_succ, Option.bind_some, Option.bind_none, Option.map_some, Option.map_none, List.length_cons, List.length_nil, List.cons_append, List.nil_append, List.append_nil, if_true, if_false, ite_true, ite_false, Bool.false_eq_true, reduceIte, reduceCtorEq, List.map_cons, List.map_nil, Nat.sub_self, List.replicate_succ, List.replicate_zero, Nat.reduceSub, Nat.reduceAdd, Nat.reduceLT, Nat.reduceLeDiff, Nat.reduceEqDiff, Nat.reduceMul, Nat.reducePow, Int.reduceLT, Int.reduceLE, Int.reduceAdd, Int.reduceMul, Int.reduceSub, Int.reduceNeg, Int.reduceEq, Int.reducePow, Int.reduceMod, Int.reduceDiv, Int.reduceToNat, decide_true, decide_false, and_true, true_and, and_self, Option.some.injEq, addV, iaddV, subV, mulV, fdivV, modV, powV, negV, cmpV, isNonV, notNonV, eqV, neV, eqB, scEq, t1, t2, t3, t4, t5, t6, t7, t8, t9, t10, t11, t12, t13, t14, t15, t16, idxV, at0, at1, at2, at3, at4, at5, seqAt, lstAt, lenV, isiV, typV, kb1, kb2, kb3, kb4, kb5, kb6, kb7, kb8, kb9, kb10, kb11, e3, e4, c10, c50, hw, getS0, sizeLine_eq, Tm.pv]) _, _, _, rfl, aw, rfl⟩
    · exact ⟨(Tm.name x2).pv, st, br _ _ (by simp only [seqS, ifS, setS, augS, dropS, retS, retN, nxS, bkS, ctS, asgS, subS, R.toS, R.bind, R.of, opF, unF, varF, cstF, chF, isB, asB, andT, orT, notT, andF, orF, notF, ifF, nilA, consA, tupF, lstF, cbF, callF, bmF', truT, truV, nameG, nilG, consG, tupG, List.set_cons_zero, List.set_cons_succ, List.getElem?_cons_zero, List.getElem?_cons_succ, Option.bind_some, Option.bind_none, Option.map_some, Option.map_none, List.length_cons, List.length_nil, List.cons_append, List.nil_append, List.append_nil, if_true, if_false, ite_true, ite_false, Bool.false_eq_true, reduceIte, reduceCtorEq, List.map_cons, List.map_nil, Nat.sub_self, List.replicate_succ, List.replicate_zero, Nat.reduceSub, Nat.reduceAdd, Nat.reduceLT, Nat.reduceLeDiff, Nat.reduceEqDiff, Nat.reduceMul, Nat.reducePow, Int.reduceLT, Int.reduceLE, Int.reduceAdd, Int.reduceMul, Int.reduceSub, Int.reduceNeg, Int.reduceEq, Int.reducePow, Int.reduceMod, Int.reduceDiv, Int.reduceToNat, decide_true, decide_false, and_true, true_and, and_self, Option.some.injEq, addV, iaddV, subV, mulV, fdivV, modV, powV, negV, cmpV, isNonV, notNonV, eqV, neV, eqB, scEq, t1, t2, t3, t4, t5, t6, t7, t8, t9, t10, t11, t12, t13, t14, t15, t16, e3, e4, c10, c50, hx2, sizeLine_eq, Tm.pv]) _, _, [], rfl, ax2, (List.append_nil _).symm⟩
  · have e4 : ¬ m % 10 < 4 := fun z => e2 (.inl z)
    have e5 : ¬ (n : Int) = 0 := fun z => e2 (.inr z)
    obtain ⟨t, ht, gt⟩ := F_knot (n := n) (st := st) hc h0 (by omega)
    refine ⟨Tm.pv t, st, ?_, t, [], rfl, gt, (List.append_nil _).symm⟩
    refine (seqS_nx (e1 := [some (.int c), some (.int (n : Int)), some (.int h), some (.int m)]) (s1 := st) (by simp only [seqS, ifS, setS, augS, dropS, retS, retN, nxS, bkS, ctS, asgS, subS, R.toS, R.bind, R.of, opF, unF, varF, cstF, chF, isB, asB, andT, orT, notT, andF, orF, notF, ifF, nilA, consA, tupF, lstF, cbF, callF, bmF', truT, truV, nameG, nilG, consG, tupG, List.set_cons_zero, List.set_cons_succ, List.getElem?_cons_zero, List.getElem?_cons_succ, Option.bind_some, Option.bind_none, Option.map_some, Option.map_none, List.length_cons, List.length_nil, List.cons_append, List.nil_append, List.append_nil, if_true, if_false, ite_true, ite_false, Bool.false_eq_true, reduceIte, reduceCtorEq, List.map_cons, List.map_nil, Nat.sub_self, List.replicate_succ, List.replicate_zero, Nat.reduceSub, Nat.reduceAdd, Nat.reduceLT, Nat.reduceLeDiff, Nat.reduceEqDiff, Nat.reduceMul, Nat.reducePow, Int.reduceLT, Int.reduceLE, Int.reduceAdd, Int.reduceMul, Int.reduceSub, Int.reduceNeg, Int.reduceEq, Int.reducePow, Int.reduceMod, Int.reduceDiv, Int.reduceToNat, decide_true, decide_false, and_true, true_and, and_self, Option.some.injEq, addV, iaddV, subV, mulV, fdivV, modV, powV, negV, cmpV, isNonV, notNonV, eqV, neV, eqB, scEq, t1, t2, t3, t4, t5, t6, t7, t8, t9, t10, t11, t12, t13, t14, t15, t16, e4, e5])).trans ?_
    simp only [seqS, ifS, setS, augS, dropS, retS, retN, nxS, bkS, ctS, asgS, subS, R.toS, R.bind, R.of, opF, unF, varF, cstF, chF, isB, asB, andT, orT, notT, andF, orF, notF, ifF, nilA, consA, tupF, lstF, cbF, callF, bmF', truT, truV, nameG, nilG, consG, tupG, List.set_cons_zero, List.set_cons_succ, List.getElem?_cons_zero, List.getElem?_cons_succ, Option.bind_some, Option.bind_none, Option.map_some, Option.map_none, List.length_cons, List.length_nil, List.cons_append, List.nil_append, List.append_nil, if_true, if_false, ite_true, ite_false, Bool.false_eq_true, reduceIte, reduceCtorEq, List.map_cons, List.map_nil, Nat.sub_self, List.replicate_succ, List.replicate_zero, Nat.reduceSub, Nat.reduceAdd, Nat.reduceLT, Nat.reduceLeDiff, Nat.reduceEqDiff, Nat.reduceMul, Nat.reducePow, Int.reduceLT, Int.reduceLE, Int.reduceAdd, Int.reduceMul, Int.reduceSub, Int.reduceNeg, Int.reduceEq, Int.reducePow, Int.reduceMod, Int.reduceDiv, Int.reduceToNat, decide_true, decide_false, and_true, true_and, and_self, Option.some.injEq, ht]
theorem run_keep' {n : Nat} {body : FS} {args : List PV} {st s' : Store} {xs : List PV} (h : body (args.map some ++ List.replicate (n - args.length) none) st = .rt (.tup xs) s') (p : refsOks st.length xs = false) : runFn n body args st = .ok (.tup xs) s' := by
  unfold runFn
  rw [h]
  show gc st (.tup xs) s' = _
  unfold gc
  split
  · rw [if_neg (by simp only [refsOk, p]; decide)]
  · rfl
/-! ### the terms of a script -/
theorem toDs_map {α : Type} {f : PV → Option PyData} {g : α → PV} : ∀ {xs : List α}, (∀ x ∈ xs, ∃ d, f (g x) = some d) → ∃ ds, toDs f (xs.map g) = some ds
  | [], _ => ⟨[], rfl⟩
  | x :: r, h => by
    obtain ⟨d, hd⟩ := h x List.mem_cons_self
    obtain ⟨ds, hds⟩ := toDs_map (xs := r) fun y hy => h y (List.mem_cons_of_mem _ hy)
    exact ⟨d :: ds, by rw [List.map_cons]; simp only [toDs, hd, hds]⟩
theorem tag_ok : PyData.strOk "num" = true ∧ PyData.strOk "name" = true ∧ PyData.strOk "of" = true := ⟨by decide +kernel, by decide +kernel, by decide +kernel⟩
theorem toD_str {k : Nat} {s : Store} {x : Str} (h : PyData.strOk x = true) : toD (k + 1) s (.str x) = some (.str x) := by simp only [toD, h, if_true]
theorem toD_pv {k n : Nat} {s : Store} : ∀ {t : Tm}, t.Good n → ∃ d, toD (k + 3) s t.pv = some d
  | .num i, _ => ⟨.tuple [.str "num", .int i], by
    show (toDs (toD (k + 2) s) [.str "num", .int i]).map PyData.tuple = _
    simp only [toDs, toD_str tag_ok.1]
    rfl⟩
  | .name x, h => ⟨.tuple [.str "name", .str x], by
    show (toDs (toD (k + 2) s) [.str "name", .str x]).map PyData.tuple = _
    simp only [toDs, toD_str tag_ok.2.1, toD_str (show PyData.strOk x = true from h)]
    rfl⟩
  | .of w as, ⟨hw, _, _⟩ => by
    obtain ⟨ds, hds⟩ := toDs_map (f := toD (k + 1) s) (g := PV.int) (xs := as) fun x _ => ⟨_, rfl⟩
    have e1 : toD (k + 2) s (.tup (as.map PV.int)) = some (.tuple ds) := by
      show (toDs (toD (k + 1) s) (as.map PV.int)).map PyData.tuple = _
      rw [hds]
      rfl
    refine ⟨.tuple [.str "of", .str w, .tuple ds], ?_⟩
    show (toDs (toD (k + 2) s) [.str "of", .str w, .tup (as.map PV.int)]).map PyData.tuple = _
    simp only [toDs, toD_str tag_ok.2.2, toD_str hw, e1]
    rfl
theorem in_terms {ts : List Tm} {t : Tm} {n r : Nat} {s : Store} (h : s[r]? = some (.lst (ts.map Tm.pv))) (ht : t.Good n) (hts : ∀ u ∈ ts, u.Good n) : ∃ b, inB t.pv (.ref r) s = some b ∧ (ts = [] → b = false) := by
  obtain ⟨d, hd⟩ := toD_pv (k := 61) (s := s) ht
  obtain ⟨ds, hds⟩ := toDs_map (f := toD 63 s) (g := Tm.pv) (xs := ts) fun u hu => toD_pv (k := 60) (hts u hu)
  have fl : flatP t.pv = false := by cases t <;> rfl
  refine ⟨ds.any fun z => PyData.eqv z d, ?_, fun e => ?_⟩
  · simp only [inB, seqAt, lstAt, h, fl, Bool.false_eq_true, false_and, if_false, hd, hds]
  · subst e
    simp only [List.map_nil, toDs, Option.some.injEq] at hds
    subst hds
    rfl
def L0 : PO := .lst [.int 3, .int 7, .int 20]
theorem F_made {ns : List Int} {st : Store} (hb : ∀ z ∈ ns, Bits z) : ∃ ts g, F_L_made [.frz (ns.map PV.int)] st = .ok (.tup [.ref (st.length + 1), .ref (st.length + 2)]) (st ++ g) ∧ (st ++ g)[st.length + 1]? = some (.lst (ts.map Tm.pv)) ∧
    (∀ t ∈ ts, t.Good ts.length) ∧ ts.length ≤ 24 ∧ (ns = [] → ts = []) := by
  have cut : cutP (ns.map PV.int) none (some 90) = (ns.take 90).map PV.int := by
    unfold cutP
    rw [sIx_some (by decide), HT.sIx_none, List.map_take, List.drop_zero, Nat.sub_zero]
    show List.take (min 90 _) _ = List.take 90 _
    rcases Nat.le_total 90 (ns.map PV.int).length with q | q
    · rw [Nat.min_eq_left q]
    · rw [Nat.min_eq_right q, List.take_of_length_le (Nat.le_refl _), List.take_of_length_le q]
  obtain ⟨hd, hhd, hd0, hd1⟩ : ∃ h, h = (if 0 < ns.length then ns.getD 0 0 % 10007 else 0) ∧ 0 ≤ h ∧ h < 10007 := ⟨_, rfl, by split; exact (md _ _ (by decide)).1; omega, by split; exact (md _ _ (by decide)).2; omega⟩
  have z3 := md hd 3 (by decide)
  obtain ⟨rate, hr, rp⟩ : ∃ r : Int, atI [PV.int 3, .int 7, .int 20] (hd % 3) = some (.int r) ∧ 0 < r := by
    have : hd % 3 = 0 ∨ hd % 3 = 1 ∨ hd % 3 = 2 := by omega
    rcases this with e | e | e <;> rw [e]
    · exact ⟨_, at0, by decide⟩
    · exact ⟨_, at1, by decide⟩
    · exact ⟨_, at2, by decide⟩
  have c60 : (0 < (60 : Int) ∧ (60 : Int).natAbs.log2 < 9000) := by decide
  have c12 : ((0 : Int) ≤ 12 ∧ (12 : Int) ≤ 1000000 ∧ (10 : Int).natAbs < 2 ^ 64) := by decide
  obtain ⟨e', st', h1, h2⟩ := forL_inv (gd := [(st.length + 3, .lst ((ns.take 90).map PV.int))]) (g := nameG 5) (b := b_L_made_s1) (xs := (ns.take 90).map PV.int)
    (fun i e s => ∃ (ts : List Tm) (es : List PV) (o5 o6 o7 o8 o9 : Option PV), s = st ++ [L0, .lst (ts.map Tm.pv), .lst es, .lst ((ns.take 90).map PV.int)] ∧ e = [some (.frz (ns.map PV.int)), some (.int hd), some (.int rate), some (.ref (st.length + 1)), some (.ref (st.length + 2)), o5, o6, o7, o8, o9] ∧
      (∀ t ∈ ts, t.Good ts.length) ∧ ts.length ≤ 24 ∧ es.length ≤ i ∧ (i = 0 → ts = []))
    (e := [some (.frz (ns.map PV.int)), some (.int hd), some (.int rate), some (.ref (st.length + 1)), some (.ref (st.length + 2)), none, none, none, none, none]) (st := st ++ [L0, .lst [], .lst [], .lst ((ns.take 90).map PV.int)])
    ⟨[], [], none, none, none, none, none, rfl, rfl, (fun _ h => by cases h), Nat.zero_le _, Nat.le_refl _, fun _ => rfl⟩
    (fun i x e s hx hP => by
      obtain ⟨ts, es, o5, o6, o7, o8, o9, rfl, rfl, hG, hl, he, h0⟩ := hP
      rw [List.getElem?_map] at hx
      obtain ⟨c, hc, rfl⟩ := Option.map_eq_some_iff.mp hx
      have cm := List.mem_of_getElem? hc
      have cB : Bits c := hb c (List.mem_of_mem_take cm)
      have il : i < 90 := by have := (List.getElem?_eq_some_iff.mp hc).1; rw [List.length_take] at this; omega
      refine ⟨gd_one (by rw [getS]; rfl), _, rfl, ?_⟩
      have g1 : ∀ a b c d : PO, (st ++ [a, b, c, d])[st.length + 1]? = some b := fun a b c d => by rw [getS]; rfl
      have g2 : ∀ a b c d : PO, (st ++ [a, b, c, d])[st.length + 2]? = some c := fun a b c d => by rw [getS]; rfl
      have s1 : ∀ a b c d o : PO, (st ++ [a, b, c, d]).set (st.length + 1) o = st ++ [a, o, c, d] := fun a b c d o => by rw [setS_app]; rfl
      have s2 : ∀ a b c d o : PO, (st ++ [a, b, c, d]).set (st.length + 2) o = st ++ [a, b, o, d] := fun a b c d o => by rw [setS_app]; rfl
      have m1 := mb cB 45991 (by decide)
      have m2 := mb cB 62089911 (by decide)
      show ∃ e2 s2, b_L_made_s1 [some (.frz (ns.map PV.int)), some (.int hd), some (.int rate), some (.ref (st.length + 1)), some (.ref (st.length + 2)), some (.int c), o6, o7, o8, o9] (st ++ [L0, .lst (ts.map Tm.pv), .lst es, .lst ((ns.take 90).map PV.int)]) = .nx e2 s2 ∧ _
      -- the term
      have A : ∃ (ts' : List Tm) (p7 : Option PV), (ifS (isB (opF ltV (cbF lenV (consA (varF 3) nilA)) (cstF (.int 24)))) (seqS (setS 7 (callF 3 F_L_term [] (consA (varF 5) (consA (cbF lenV (consA (varF 3) nilA)) (consA (varF 1) nilA)))))
    (ifS (isB (opF ninV (varF 7) (varF 3))) (dropS (bmF' "list" appendV (varF 3) (consA (varF 7) nilA))) nxS)) nxS) [some (.frz (ns.map PV.int)), some (.int hd), some (.int rate), some (.ref (st.length + 1)), some (.ref (st.length + 2)), some (.int c), o6, o7, o8, o9] (st ++ [L0, .lst (ts.map Tm.pv), .lst es, .lst ((ns.take 90).map PV.int)]) =
          .nx [some (.frz (ns.map PV.int)), some (.int hd), some (.int rate), some (.ref (st.length + 1)), some (.ref (st.length + 2)), some (.int c), o6, p7, o8, o9] (st ++ [L0, .lst (ts'.map Tm.pv), .lst es, .lst ((ns.take 90).map PV.int)]) ∧ (∀ t ∈ ts', t.Good ts'.length) ∧ ts'.length ≤ 24 ∧ ts' ≠ [] := by
        by_cases l24 : (ts.length : Int) < 24
        · obtain ⟨t, ht, tG⟩ := F_term (n := ts.length) (st := st ++ [L0, .lst (ts.map Tm.pv), .lst es, .lst ((ns.take 90).map PV.int)]) cB hd0
          obtain ⟨b, hb', b0⟩ := in_terms (s := st ++ [L0, .lst (ts.map Tm.pv), .lst es, .lst ((ns.take 90).map PV.int)]) (g1 _ _ _ _) tG hG
          cases b with
          | true =>
            refine ⟨ts, some t.pv, ?_, hG, hl, fun z => by cases b0 z⟩
            simp only [seqS, ifS, setS, augS, dropS, retS, retN, nxS, bkS, ctS, asgS, subS, R.toS, R.bind, R.of, opF, unF, varF, cstF, chF, isB, asB, andT, orT, notT, andF, orF, notF, ifF, nilA, consA, tupF, lstF, cbF, callF, bmF', truT, truV, nameG, nilG, consG, tupG, List.set_cons_zero, List.set_cons_succ, List.getElem?_cons_zero, List.getElem?_cons_succ, Option.bind_some, Option.bind_none, Option.map_some, Option.map_none, List.length_cons, List.length_nil, List.cons_append, List.nil_append, List.append_nil, if_true, if_false, ite_true, ite_false, Bool.false_eq_true, reduceIte, reduceCtorEq, List.map_cons, List.map_nil, Nat.sub_self, List.replicate_succ, List.replicate_zero, Nat.reduceSub, Nat.reduceAdd, Nat.reduceLT, Nat.reduceLeDiff, Nat.reduceEqDiff, Nat.reduceMul, Nat.reducePow, Int.reduceLT, Int.reduceLE, Int.reduceAdd, Int.reduceMul, Int.reduceSub, Int.reduceNeg, Int.reduceEq, Int.reducePow, Int.reduceMod, Int.reduceDiv, Int.reduceToNat, decide_true, decide_false, and_true, true_and, and_self, Option.some.injEq, idxV, at0, at1, at2, at3, at4, at5, seqAt, lstAt, lenV, isiV, typV, kb1, kb2, kb3, kb4, kb5, kb6, kb7, kb8, kb9, kb10, kb11, addV, iaddV, subV, mulV, fdivV, modV, powV, negV, cmpV, isNonV, notNonV, g1, List.length_map, l24, ht, ninV, hb', Bool.not_true]
          | false =>
            refine ⟨ts ++ [t], some t.pv, ?_, fun u hu => ?_, by rw [List.length_append, List.length_singleton]; omega, by simp⟩
            · have q : ts.length < 16777216 := by omega
              simp only [seqS, ifS, setS, augS, dropS, retS, retN, nxS, bkS, ctS, asgS, subS, R.toS, R.bind, R.of, opF, unF, varF, cstF, chF, isB, asB, andT, orT, notT, andF, orF, notF, ifF, nilA, consA, tupF, lstF, cbF, callF, bmF', truT, truV, nameG, nilG, consG, tupG, List.set_cons_zero, List.set_cons_succ, List.getElem?_cons_zero, List.getElem?_cons_succ, Option.bind_some, Option.bind_none, Option.map_some, Option.map_none, List.length_cons, List.length_nil, List.cons_append, List.nil_append, List.append_nil, if_true, if_false, ite_true, ite_false, Bool.false_eq_true, reduceIte, reduceCtorEq, List.map_cons, List.map_nil, Nat.sub_self, List.replicate_succ, List.replicate_zero, Nat.reduceSub, Nat.reduceAdd, Nat.reduceLT, Nat.reduceLeDiff, Nat.reduceEqDiff, Nat.reduceMul, Nat.reducePow, Int.reduceLT, Int.reduceLE, Int.reduceAdd, Int.reduceMul, Int.reduceSub, Int.reduceNeg, Int.reduceEq, Int.reducePow, Int.reduceMod, Int.reduceDiv, Int.reduceToNat, decide_true, decide_false, and_true, true_and, and_self, Option.some.injEq, idxV, at0, at1, at2, at3, at4, at5, seqAt, lstAt, lenV, isiV, typV, kb1, kb2, kb3, kb4, kb5, kb6, kb7, kb8, kb9, kb10, kb11, addV, iaddV, subV, mulV, fdivV, modV, powV, negV, cmpV, isNonV, notNonV, g1, List.length_map, l24, ht, ninV, hb', Bool.not_false, tyOk, beq_self_eq_true, appendV, sizeLine_eq, q, s1, List.map_append]
            · rw [List.length_append, List.length_singleton]
              rcases List.mem_append.mp hu with w | w
              · exact Good.up (by omega) (hG u w)
              · rw [List.mem_singleton] at w
                subst w
                exact Good.up (by omega) tG
        · refine ⟨ts, o7, ?_, hG, hl, fun z => by subst z; simp at l24⟩
          simp only [seqS, ifS, setS, augS, dropS, retS, retN, nxS, bkS, ctS, asgS, subS, R.toS, R.bind, R.of, opF, unF, varF, cstF, chF, isB, asB, andT, orT, notT, andF, orF, notF, ifF, nilA, consA, tupF, lstF, cbF, callF, bmF', truT, truV, nameG, nilG, consG, tupG, List.set_cons_zero, List.set_cons_succ, List.getElem?_cons_zero, List.getElem?_cons_succ, Option.bind_some, Option.bind_none, Option.map_some, Option.map_none, List.length_cons, List.length_nil, List.cons_append, List.nil_append, List.append_nil, if_true, if_false, ite_true, ite_false, Bool.false_eq_true, reduceIte, reduceCtorEq, List.map_cons, List.map_nil, Nat.sub_self, List.replicate_succ, List.replicate_zero, Nat.reduceSub, Nat.reduceAdd, Nat.reduceLT, Nat.reduceLeDiff, Nat.reduceEqDiff, Nat.reduceMul, Nat.reducePow, Int.reduceLT, Int.reduceLE, Int.reduceAdd, Int.reduceMul, Int.reduceSub, Int.reduceNeg, Int.reduceEq, Int.reducePow, Int.reduceMod, Int.reduceDiv, Int.reduceToNat, decide_true, decide_false, and_true, true_and, and_self, Option.some.injEq, idxV, at0, at1, at2, at3, at4, at5, seqAt, lstAt, lenV, isiV, typV, kb1, kb2, kb3, kb4, kb5, kb6, kb7, kb8, kb9, kb10, kb11, addV, iaddV, subV, mulV, fdivV, modV, powV, negV, cmpV, isNonV, notNonV, g1, List.length_map, l24]
      obtain ⟨ts', p7, A1, A2, A3, A4⟩ := A
      have pos : (0 : Int) < (ts'.length : Int) := by have := List.length_pos_iff.mpr A4; omega
      by_cases e : c * 45991 % 2147483543 % rate = 0
      · refine ⟨[some (.frz (ns.map PV.int)), some (.int hd), some (.int rate), some (.ref (st.length + 1)), some (.ref (st.length + 2)), some (.int c), some (.int (c * 45991 % 2147483543)), p7, some (.int (c * 45991 % 2147483543 / 60 % (ts'.length : Int))), some (.int (c * 62089911 % 4294967291 % (ts'.length : Int)))],
          st ++ [L0, .lst (ts'.map Tm.pv), .lst (es ++ [.tup [.int (c * 45991 % 2147483543 / 60 % (ts'.length : Int)), .int (c * 62089911 % 4294967291 % (ts'.length : Int)), .int (1 + c % 1000000000000), .tup [.str "told"]]]), .lst ((ns.take 90).map PV.int)], ?_, ts', _, _, _, _, _, _, rfl, rfl, A2, A3, by rw [List.length_append, List.length_singleton]; omega, fun z => by omega⟩
        have q : es.length < 16777216 := by omega
        unfold b_L_made_s1
        refine (seqS_nx A1).trans ?_
        simp only [seqS, ifS, setS, augS, dropS, retS, retN, nxS, bkS, ctS, asgS, subS, R.toS, R.bind, R.of, opF, unF, varF, cstF, chF, isB, asB, andT, orT, notT, andF, orF, notF, ifF, nilA, consA, tupF, lstF, cbF, callF, bmF', truT, truV, nameG, nilG, consG, tupG, List.set_cons_zero, List.set_cons_succ, List.getElem?_cons_zero, List.getElem?_cons_succ, Option.bind_some, Option.bind_none, Option.map_some, Option.map_none, List.length_cons, List.length_nil, List.cons_append, List.nil_append, List.append_nil, if_true, if_false, ite_true, ite_false, Bool.false_eq_true, reduceIte, reduceCtorEq, List.map_cons, List.map_nil, Nat.sub_self, List.replicate_succ, List.replicate_zero, Nat.reduceSub, Nat.reduceAdd, Nat.reduceLT, Nat.reduceLeDiff, Nat.reduceEqDiff, Nat.reduceMul, Nat.reducePow, Int.reduceLT, Int.reduceLE, Int.reduceAdd, Int.reduceMul, Int.reduceSub, Int.reduceNeg, Int.reduceEq, Int.reducePow, Int.reduceMod, Int.reduceDiv, Int.reduceToNat, decide_true, decide_false, and_true, true_and, and_self, Option.some.injEq, idxV, at0, at1, at2, at3, at4, at5, seqAt, lstAt, lenV, isiV, typV, kb1, kb2, kb3, kb4, kb5, kb6, kb7, kb8, kb9, kb10, kb11, addV, iaddV, subV, mulV, fdivV, modV, powV, negV, cmpV, isNonV, notNonV, eqV, neV, eqB, scEq, t1, t2, t3, t4, t5, t6, t7, t8, t9, t10, t11, t12, t13, t14, t15, t16, g1, g2, List.length_map, m1, m2, rp, e, c60, c12, pos, sizeLine_eq, tyOk, beq_self_eq_true, appendV, q, s2]
      · refine ⟨[some (.frz (ns.map PV.int)), some (.int hd), some (.int rate), some (.ref (st.length + 1)), some (.ref (st.length + 2)), some (.int c), some (.int (c * 45991 % 2147483543)), p7, o8, o9], st ++ [L0, .lst (ts'.map Tm.pv), .lst es, .lst ((ns.take 90).map PV.int)], ?_, ts', _, _, _, _, _, _, rfl, rfl, A2, A3, by omega, fun z => by omega⟩
        unfold b_L_made_s1
        refine (seqS_nx A1).trans ?_
        simp only [seqS, ifS, setS, augS, dropS, retS, retN, nxS, bkS, ctS, asgS, subS, R.toS, R.bind, R.of, opF, unF, varF, cstF, chF, isB, asB, andT, orT, notT, andF, orF, notF, ifF, nilA, consA, tupF, lstF, cbF, callF, bmF', truT, truV, nameG, nilG, consG, tupG, List.set_cons_zero, List.set_cons_succ, List.getElem?_cons_zero, List.getElem?_cons_succ, Option.bind_some, Option.bind_none, Option.map_some, Option.map_none, List.length_cons, List.length_nil, List.cons_append, List.nil_append, List.append_nil, if_true, if_false, ite_true, ite_false, Bool.false_eq_true, reduceIte, reduceCtorEq, List.map_cons, List.map_nil, Nat.sub_self, List.replicate_succ, List.replicate_zero, Nat.reduceSub, Nat.reduceAdd, Nat.reduceLT, Nat.reduceLeDiff, Nat.reduceEqDiff, Nat.reduceMul, Nat.reducePow, Int.reduceLT, Int.reduceLE, Int.reduceAdd, Int.reduceMul, Int.reduceSub, Int.reduceNeg, Int.reduceEq, Int.reducePow, Int.reduceMod, Int.reduceDiv, Int.reduceToNat, decide_true, decide_false, and_true, true_and, and_self, Option.some.injEq, idxV, at0, at1, at2, at3, at4, at5, seqAt, lstAt, lenV, isiV, typV, kb1, kb2, kb3, kb4, kb5, kb6, kb7, kb8, kb9, kb10, kb11, addV, iaddV, subV, mulV, fdivV, modV, powV, negV, cmpV, isNonV, notNonV, eqV, neV, eqB, scEq, t1, t2, t3, t4, t5, t6, t7, t8, t9, t10, t11, t12, t13, t14, t15, t16, m1, rp, e]) (fun e s hP => by
      obtain ⟨ts, es, o5, o6, o7, o8, o9, rfl, rfl, _⟩ := hP
      exact gd_one (by rw [getS]; rfl))
  obtain ⟨ts, es, o5, o6, o7, o8, o9, rfl, rfl, hG, hl, he, h0⟩ := h2
  refine ⟨ts, [L0, .lst (ts.map Tm.pv), .lst es, .lst ((ns.take 90).map PV.int)], ?_, by rw [getS]; rfl, hG, hl, fun z => h0 (by subst z; rfl)⟩
  have body : b_L_made [some (.frz (ns.map PV.int)), none, none, none, none, none, none, none, none, none] st = .rt (.tup [.ref (st.length + 1), .ref (st.length + 2)]) (st ++ [L0, .lst (ts.map Tm.pv), .lst es, .lst ((ns.take 90).map PV.int)]) := by
    unfold b_L_made
    refine (seqS_nx (e1 := [some (.frz (ns.map PV.int)), some (.int 0), none, none, none, none, none, none, none, none]) (s1 := st) rfl).trans ?_
    refine (seqS_nx (e1 := [some (.frz (ns.map PV.int)), some (.int hd), none, none, none, none, none, none, none, none]) (s1 := st) ?_).trans ?_
    · by_cases hn : 0 < ns.length
      · have hn' : (0 : Int) < ((ns.map PV.int).length : Int) := by rw [List.length_map]; omega
        rw [hhd, if_pos hn]
        have ha : atI (ns.map PV.int) 0 = some (.int (ns.getD 0 0)) := atI_nat' (by decide) (by
          rw [List.getElem?_map, List.getD_eq_getElem?_getD]
          show Option.map PV.int (ns[0]?) = _
          rw [List.getElem?_eq_getElem hn]
          rfl)
        simp only [seqS, ifS, setS, augS, dropS, retS, retN, nxS, bkS, ctS, asgS, subS, R.toS, R.bind, R.of, opF, unF, varF, cstF, chF, isB, asB, andT, orT, notT, andF, orF, notF, ifF, nilA, consA, tupF, lstF, cbF, callF, bmF', truT, truV, nameG, nilG, consG, tupG, List.set_cons_zero, List.set_cons_succ, List.getElem?_cons_zero, List.getElem?_cons_succ, Option.bind_some, Option.bind_none, Option.map_some, Option.map_none, List.length_cons, List.length_nil, List.cons_append, List.nil_append, List.append_nil, if_true, if_false, ite_true, ite_false, Bool.false_eq_true, reduceIte, reduceCtorEq, List.map_cons, List.map_nil, Nat.sub_self, List.replicate_succ, List.replicate_zero, Nat.reduceSub, Nat.reduceAdd, Nat.reduceLT, Nat.reduceLeDiff, Nat.reduceEqDiff, Nat.reduceMul, Nat.reducePow, Int.reduceLT, Int.reduceLE, Int.reduceAdd, Int.reduceMul, Int.reduceSub, Int.reduceNeg, Int.reduceEq, Int.reducePow, Int.reduceMod, Int.reduceDiv, Int.reduceToNat, decide_true, decide_false, and_true, true_and, and_self, Option.some.injEq, idxV, at0, at1, at2, at3, at4, at5, seqAt, lstAt, lenV, isiV, typV, kb1, kb2, kb3, kb4, kb5, kb6, kb7, kb8, kb9, kb10, kb11, addV, iaddV, subV, mulV, fdivV, modV, powV, negV, cmpV, isNonV, notNonV, hn', ha]
      · have hn' : ¬ (0 : Int) < ((ns.map PV.int).length : Int) := by rw [List.length_map]; omega
        rw [hhd, if_neg hn]
        simp only [seqS, ifS, setS, augS, dropS, retS, retN, nxS, bkS, ctS, asgS, subS, R.toS, R.bind, R.of, opF, unF, varF, cstF, chF, isB, asB, andT, orT, notT, andF, orF, notF, ifF, nilA, consA, tupF, lstF, cbF, callF, bmF', truT, truV, nameG, nilG, consG, tupG, List.set_cons_zero, List.set_cons_succ, List.getElem?_cons_zero, List.getElem?_cons_succ, Option.bind_some, Option.bind_none, Option.map_some, Option.map_none, List.length_cons, List.length_nil, List.cons_append, List.nil_append, List.append_nil, if_true, if_false, ite_true, ite_false, Bool.false_eq_true, reduceIte, reduceCtorEq, List.map_cons, List.map_nil, Nat.sub_self, List.replicate_succ, List.replicate_zero, Nat.reduceSub, Nat.reduceAdd, Nat.reduceLT, Nat.reduceLeDiff, Nat.reduceEqDiff, Nat.reduceMul, Nat.reducePow, Int.reduceLT, Int.reduceLE, Int.reduceAdd, Int.reduceMul, Int.reduceSub, Int.reduceNeg, Int.reduceEq, Int.reducePow, Int.reduceMod, Int.reduceDiv, Int.reduceToNat, decide_true, decide_false, and_true, true_and, and_self, Option.some.injEq, idxV, at0, at1, at2, at3, at4, at5, seqAt, lstAt, lenV, isiV, typV, kb1, kb2, kb3, kb4, kb5, kb6, kb7, kb8, kb9, kb10, kb11, addV, iaddV, subV, mulV, fdivV, modV, powV, negV, cmpV, isNonV, notNonV, hn']
    refine (seqS_nx (e1 := [some (.frz (ns.map PV.int)), some (.int hd), some (.int rate), none, none, none, none, none, none, none]) (s1 := st ++ [L0]) ?_).trans ?_
    · simp only [seqS, ifS, setS, augS, dropS, retS, retN, nxS, bkS, ctS, asgS, subS, R.toS, R.bind, R.of, opF, unF, varF, cstF, chF, isB, asB, andT, orT, notT, andF, orF, notF, ifF, nilA, consA, tupF, lstF, cbF, callF, bmF', truT, truV, nameG, nilG, consG, tupG, List.set_cons_zero, List.set_cons_succ, List.getElem?_cons_zero, List.getElem?_cons_succ, Option.bind_some, Option.bind_none, Option.map_some, Option.map_none, List.length_cons, List.length_nil, List.cons_append, List.nil_append, List.append_nil, if_true, if_false, ite_true, ite_false, Bool.false_eq_true, reduceIte, reduceCtorEq, List.map_cons, List.map_nil, Nat.sub_self, List.replicate_succ, List.replicate_zero, Nat.reduceSub, Nat.reduceAdd, Nat.reduceLT, Nat.reduceLeDiff, Nat.reduceEqDiff, Nat.reduceMul, Nat.reducePow, Int.reduceLT, Int.reduceLE, Int.reduceAdd, Int.reduceMul, Int.reduceSub, Int.reduceNeg, Int.reduceEq, Int.reducePow, Int.reduceMod, Int.reduceDiv, Int.reduceToNat, decide_true, decide_false, and_true, true_and, and_self, Option.some.injEq, idxV, at0, at1, at2, at3, at4, at5, seqAt, lstAt, lenV, isiV, typV, kb1, kb2, kb3, kb4, kb5, kb6, kb7, kb8, kb9, kb10, kb11, addV, iaddV, subV, mulV, fdivV, modV, powV, negV, cmpV, isNonV, notNonV, sizeLine_eq, getS0, hr, L0]
    simp only [seqS, ifS, setS, augS, dropS, retS, retN, nxS, bkS, ctS, asgS, subS, R.toS, R.bind, R.of, opF, unF, varF, cstF, chF, isB, asB, andT, orT, notT, andF, orF, notF, ifF, nilA, consA, tupF, lstF, cbF, callF, bmF', truT, truV, nameG, nilG, consG, tupG, List.set_cons_zero, List.set_cons_succ, List.getElem?_cons_zero, List.getElem?_cons_succ, Option.bind_some, Option.bind_none, Option.map_some, Option.map_none, List.length_cons, List.length_nil, List.cons_append, List.nil_append, List.append_nil, if_true, if_false, ite_true, ite_false, Bool.false_eq_true, reduceIte, reduceCtorEq, List.map_cons, List.map_nil, Nat.sub_self, List.replicate_succ, List.replicate_zero, Nat.reduceSub, Nat.reduceAdd, Nat.reduceLT, Nat.reduceLeDiff, Nat.reduceEqDiff, Nat.reduceMul, Nat.reducePow, Int.reduceLT, Int.reduceLE, Int.reduceAdd, Int.reduceMul, Int.reduceSub, Int.reduceNeg, Int.reduceEq, Int.reducePow, Int.reduceMod, Int.reduceDiv, Int.reduceToNat, decide_true, decide_false, and_true, true_and, and_self, Option.some.injEq, sliF, noO, someO, asI, slV, idxV, at0, at1, at2, at3, at4, at5, seqAt, lstAt, lenV, isiV, typV, kb1, kb2, kb3, kb4, kb5, kb6, kb7, kb8, kb9, kb10, kb11, sizeLine_eq, forS, seqI, gdOf, cut, appS, lenS, getS, h1]
  unfold F_L_made
  refine run_keep' body ?_
  simp only [refsOks, refsOk, decide_eq_false (show ¬ st.length + 1 < st.length by omega), Bool.false_and]
end Tm
end
end FL
end
section
set_option linter.all false
set_option maxRecDepth 100000
namespace FL
open PySem PySem.Spec PyProof.Rows L2
noncomputable section
def b_Bank_place_s1 : FS :=
    (ifS (isB (opF eqV (varF 3) (varF 1))) (retS (varF 2)) nxS)
def b_Bank_place : FS :=
    (seqS (forS (enumI (consA (fldF "Bank" ("terms" : Str) (varF 0)) nilA)) (tupG 2 (consG (nameG 2) (consG (nameG 3) nilG))) b_Bank_place_s1)
    (retS (cstF .non)))
def F_Bank_place : Fn := runFn 4 b_Bank_place
end
end FL
end
section
set_option linter.all false
set_option maxRecDepth 100000
namespace FL
open PySem PySem.Spec PyProof.Rows L2
noncomputable section
def b_Bank_hold : FS :=
    (seqS (setS 2 (methF "Bank" ("place" : Str) 2 F_Bank_place [] (varF 0) (consA (varF 1) nilA)))
    (seqS (ifS (isB (opF notNonV (varF 2) (cstF .non))) (retS (varF 2)) nxS)
    (seqS (ifS (isB (opF geV (cbF lenV (consA (fldF "Bank" ("terms" : Str) (varF 0)) nilA)) (fldF "Bank" ("room" : Str) (varF 0)))) noS nxS)
    (seqS (dropS (bmF' "list" appendV (fldF "Bank" ("terms" : Str) (varF 0)) (consA (varF 1) nilA)))
    (retS (opF subV (cbF lenV (consA (fldF "Bank" ("terms" : Str) (varF 0)) nilA)) (cstF (.int 1))))))))
def F_Bank_hold : Fn := runFn 3 b_Bank_hold
end
end FL
end
section
set_option linter.all false
set_option maxRecDepth 100000
namespace FL
open PySem PySem.Spec PyProof.Rows L2
noncomputable section
def b_Bank_put_part_s1 (p_Bank_put_part : Fn) : FS :=
    (dropS (bmF' "list" appendV (varF 3) (consA (methF "Bank" ("put_part" : Str) 3 p_Bank_put_part [] (varF 0) (consA (varF 4) (consA (varF 2) nilA))) nilA)))
def b_Bank_put_part (p_Bank_put_part : Fn) : FS :=
    (seqS (ifS (isB (opF eqV (opF idxV (varF 1) (cstF (.int 0))) (cstF (.str ("any" : Str))))) (retS (opF idxV (varF 2) (opF idxV (varF 1) (cstF (.int 1))))) nxS)
    (seqS (ifS (isB (opF neV (opF idxV (varF 1) (cstF (.int 0))) (cstF (.str ("of" : Str))))) (retS (methF "Bank" ("hold" : Str) 2 F_Bank_hold [] (varF 0) (consA (varF 1) nilA))) nxS)
    (seqS (setS 3 (lstF nilA))
    (seqS (forS (seqI (opF idxV (varF 1) (cstF (.int 2)))) (nameG 4) (b_Bank_put_part_s1 p_Bank_put_part))
    (retS (methF "Bank" ("hold" : Str) 2 F_Bank_hold [] (varF 0) (consA (tupF (consA (cstF (.str ("of" : Str))) (consA (opF idxV (varF 1) (cstF (.int 1))) (consA (cbF tupleV (consA (varF 3) nilA)) nilA)))) nilA)))))))
def F_Bank_put_part : Nat → Fn
  | 0 => fn0
  | n + 1 => runFn 5 (b_Bank_put_part (F_Bank_put_part n))
end
end FL
end
section
set_option linter.all false
set_option maxRecDepth 100000
namespace FL
open PySem PySem.Spec PyProof.Rows L2
noncomputable section
def b_Bank_find_s1 (p_Bank_find : Fn) : FS :=
    (seqS (setS 4 (methF "Bank" ("find" : Str) 2 p_Bank_find [] (varF 0) (consA (varF 3) nilA)))
    (seqS (ifS (isB (opF isNonV (varF 4) (cstF .non))) (retS (cstF .non)) nxS)
    (dropS (bmF' "list" appendV (varF 2) (consA (varF 4) nilA)))))
def b_Bank_find (p_Bank_find : Fn) : FS :=
    (seqS (ifS (isB (opF neV (opF idxV (varF 1) (cstF (.int 0))) (cstF (.str ("of" : Str))))) (retS (methF "Bank" ("place" : Str) 2 F_Bank_place [] (varF 0) (consA (varF 1) nilA))) nxS)
    (seqS (setS 2 (lstF nilA))
    (seqS (forS (seqI (opF idxV (varF 1) (cstF (.int 2)))) (nameG 3) (b_Bank_find_s1 p_Bank_find))
    (retS (methF "Bank" ("place" : Str) 2 F_Bank_place [] (varF 0) (consA (tupF (consA (cstF (.str ("of" : Str))) (consA (opF idxV (varF 1) (cstF (.int 1))) (consA (cbF tupleV (consA (varF 2) nilA)) nilA)))) nilA))))))
def F_Bank_find : Nat → Fn
  | 0 => fn0
  | n + 1 => runFn 5 (b_Bank_find (F_Bank_find n))
end
end FL
end
section
set_option linter.all false
set_option maxRecDepth 100000
namespace FL
open PySem PySem.Spec PyProof.Rows L2
noncomputable section
def b_L_held_s1 : FS :=
    (ifS (isB (opF eqV (opF idxV (varF 0) (varF 2)) (varF 1))) (retS (varF 2)) nxS)
def b_L_held : FS :=
    (seqS (forS (rng1I (consA (cbF lenV (consA (varF 0) nilA)) nilA)) (nameG 2) b_L_held_s1)
    (retS (cstF .non)))
def F_L_held : Fn := runFn 3 b_L_held
end
end FL
end
section
set_option linter.all false
set_option maxRecDepth 100000
namespace FL
open PySem PySem.Spec PyProof.Rows L2
noncomputable section
def b_L_put_e1 (p_L_put : Fn) : FE :=
    (callF 2 p_L_put [] (consA (varF 0) (consA (varF 2) nilA)))
def b_L_put (p_L_put : Fn) : FS :=
    (seqS (ifS (isB (opF eqV (opF idxV (varF 1) (cstF (.int 0))) (cstF (.str ("of" : Str))))) (setS 1 (tupF (consA (cstF (.str ("of" : Str))) (consA (opF idxV (varF 1) (cstF (.int 1))) (consA (cbF tupleV (consA (lcF (seqI (opF idxV (varF 1) (cstF (.int 2)))) [2] (nameG 2) yesT (b_L_put_e1 p_L_put)) nilA)) nilA))))) nxS)
    (seqS (ifS (isB (opF isNonV (callF 2 F_L_held [] (consA (varF 0) (consA (varF 1) nilA))) (cstF .non))) (dropS (bmF' "list" appendV (varF 0) (consA (varF 1) nilA))) nxS)
    (retS (callF 2 F_L_held [] (consA (varF 0) (consA (varF 1) nilA))))))
def F_L_put : Nat → Fn
  | 0 => fn0
  | n + 1 => runFn 3 (b_L_put (F_L_put n))
end
end FL
end
section
set_option linter.all false
set_option maxRecDepth 100000
namespace FL
open PySem PySem.Spec PyProof.Rows L2
noncomputable section
def b_L_find_e1 (p_L_find : Fn) : FE :=
    (callF 2 p_L_find [] (consA (varF 0) (consA (varF 3) nilA)))
def b_L_find (p_L_find : Fn) : FS :=
    (seqS (ifS (isB (opF neV (opF idxV (varF 1) (cstF (.int 0))) (cstF (.str ("of" : Str))))) (retS (callF 2 F_L_held [] (consA (varF 0) (consA (varF 1) nilA)))) nxS)
    (seqS (setS 2 (lcF (seqI (opF idxV (varF 1) (cstF (.int 2)))) [3] (nameG 3) yesT (b_L_find_e1 p_L_find)))
    (seqS (ifS (isB (opF inV (cstF .non) (varF 2))) (retS (cstF .non)) nxS)
    (retS (callF 2 F_L_held [] (consA (varF 0) (consA (tupF (consA (cstF (.str ("of" : Str))) (consA (opF idxV (varF 1) (cstF (.int 1))) (consA (cbF tupleV (consA (varF 2) nilA)) nilA)))) nilA)))))))
def F_L_find : Nat → Fn
  | 0 => fn0
  | n + 1 => runFn 4 (b_L_find (F_L_find n))
end
end FL
end
section
set_option linter.all false
set_option maxRecDepth 100000
namespace FL
open PySem PySem.Spec PyProof.Rows L2
noncomputable section
namespace Bk
open Classical
open Tm (az_S Az)
/-! ## trees held as numbered terms -/
abbrev T := Tm.Tm
mutual
def eqT : Tr → Tr → Bool
  | .num i, .num j => decide (i = j)
  | .name x, .name y => decide (x = y)
  | .any x, .any y => decide (x = y)
  | .of w as, .of v bs => decide (w = v) && eqTs as bs
  | _, _ => false
def eqTs : List Tr → List Tr → Bool
  | [], [] => true
  | a :: r, b :: q => eqT a b && eqTs r q
  | _, _ => false
end
/-- the place of a tree among those that are held -/
def ix (us : List Tr) (x : Tr) : Int := ((us.idxOf x : Nat) : Int)
def enc (us : List Tr) : Tr → T
  | .num i => .num i
  | .name x => .name x
  | .any x => .name x
  | .of w as => .of w (as.map (ix us))
/-- arms are held; no hole stands in it; words are plain -/
def Fit (us : List Tr) : Tr → Prop
  | .num _ => True
  | .name x => Az x
  | .any _ => False
  | .of w as => Az w ∧ as.length ≤ 4 ∧ ∀ a ∈ as, a ∈ us
theorem ix_inj {us : List Tr} {a b : Tr} (ha : a ∈ us) (h : ix us a = ix us b) : a = b := by
  have h' : us.idxOf a = us.idxOf b := by unfold ix at h; omega
  have la : us.idxOf a < us.length := List.idxOf_lt_length_of_mem ha
  have e1 : us[us.idxOf a]'la = a := List.getElem_idxOf la
  have lb : us.idxOf b < us.length := by rw [← h']; exact la
  have e2 : us[us.idxOf b]'lb = b := List.getElem_idxOf lb
  rw [← e1, ← e2]
  congr 1
theorem map_ix_inj {us : List Tr} : ∀ {as bs : List Tr}, (∀ a ∈ as, a ∈ us) → as.map (ix us) = bs.map (ix us) → as = bs
  | [], [], _, _ => rfl
  | [], b :: q, _, h => by cases h
  | a :: r, [], _, h => by cases h
  | a :: r, b :: q, ha, h => by
    rw [List.map_cons, List.map_cons, List.cons.injEq] at h
    rw [ix_inj (ha a List.mem_cons_self) h.1, map_ix_inj (fun z hz => ha z (List.mem_cons_of_mem _ hz)) h.2]
theorem enc_inj {us : List Tr} : ∀ {a b : Tr}, Fit us a → Fit us b → enc us a = enc us b → a = b
  | .num i, .num j, _, _, h => by simp only [enc, Tm.Tm.num.injEq] at h; rw [h]
  | .name x, .name y, _, _, h => by simp only [enc, Tm.Tm.name.injEq] at h; rw [h]
  | .of w as, .of v bs, ha, _, h => by
    simp only [enc, Tm.Tm.of.injEq] at h
    rw [h.1, map_ix_inj ha.2.2 h.2]
  | .num _, .name _, _, _, h => by cases h
  | .num _, .of _ _, _, _, h => by cases h
  | .name _, .num _, _, _, h => by cases h
  | .name _, .of _ _, _, _, h => by cases h
  | .of _ _, .num _, _, _, h => by cases h
  | .of _ _, .name _, _, _, h => by cases h
  | .any _, _, h, _, _ => h.elim
  | _, .any _, _, h, _ => h.elim
theorem ix_app {us : List Tr} {x a : Tr} (h : a ∈ us) : ix (us ++ [x]) a = ix us a := by unfold ix; rw [List.idxOf_append, if_pos h]
theorem enc_app {us : List Tr} {x a : Tr} (h : Fit us a) : enc (us ++ [x]) a = enc us a := by
  cases a with
  | of w as =>
    simp only [enc, Tm.Tm.of.injEq, true_and]
    exact List.map_congr_left fun z hz => ix_app (h.2.2 z hz)
  | _ => rfl
theorem Fit.app {us vs : List Tr} {a : Tr} (h : Fit us a) (hv : ∀ z ∈ us, z ∈ vs) : Fit vs a := by
  cases a with
  | of w as => exact ⟨h.1, h.2.1, fun z hz => hv z (h.2.2 z hz)⟩
  | _ => exact h
theorem enc_good {us : List Tr} {a : Tr} (h : Fit us a) : (enc us a).Good us.length := by
  cases a with
  | num i => trivial
  | name x => exact h
  | any x => exact h.elim
  | of w as =>
    refine ⟨h.1, by rw [List.length_map]; exact h.2.1, fun z hz => ?_⟩
    obtain ⟨b, hb, rfl⟩ := List.mem_map.mp hz
    have := List.idxOf_lt_length_of_mem (h.2.2 b hb)
    unfold ix
    omega
/-- what is held -/
def Ok (us : List Tr) : Prop := ∀ u ∈ us, Fit us u
def rows (us : List Tr) : List PV := (us.map (enc us)).map Tm.Tm.pv
theorem rows_app {us : List Tr} {x : Tr} (h : Ok us) (hx : Fit us x) : rows (us ++ [x]) = rows us ++ [(enc us x).pv] := by
  unfold rows
  rw [List.map_append, List.map_append, List.map_cons, List.map_nil, List.map_cons, List.map_nil, enc_app hx, List.map_congr_left fun u hu => enc_app (h u hu)]
theorem Ok.app {us : List Tr} {x : Tr} (h : Ok us) (hx : Fit us x) : Ok (us ++ [x]) := fun u hu => by
  rcases List.mem_append.mp hu with q | q
  · exact (h u q).app fun z hz => List.mem_append_left _ hz
  · rw [List.mem_singleton] at q
    subst q
    exact hx.app fun z hz => List.mem_append_left _ hz
theorem rows_pure (us : List Tr) : puresP (rows us) = true := pures_iff.mpr fun x hx => by
  obtain ⟨t, _, rfl⟩ := List.mem_map.mp hx
  exact Tm.pv_pure t
theorem rows_len (us : List Tr) : (rows us).length = us.length := by simp [rows]
/-! ### equality of terms -/
theorem eqv_intsD : ∀ as bs : List Int, PyData.eqvAll (as.map PyData.int) (bs.map PyData.int) = decide (as = bs)
  | [], [] => rfl
  | [], b :: q => rfl
  | a :: r, [] => rfl
  | a :: r, b :: q => by
    show ((a == b) && PyData.eqvAll (r.map PyData.int) (q.map PyData.int)) = _
    rw [eqv_intsD r q]
    by_cases h1 : a = b <;> by_cases h2 : r = q <;> simp [h1, h2]
def dT : T → PyData
  | .num i => .tuple [.str "num", .int i]
  | .name x => .tuple [.str "name", .str x]
  | .of w as => .tuple [.str "of", .str w, .tuple (as.map PyData.int)]
theorem toDs_ints {k : Nat} {s : Store} : ∀ xs : List Int, toDs (toD (k + 1) s) (xs.map PV.int) = some (xs.map PyData.int)
  | [] => rfl
  | x :: r => by
    rw [List.map_cons, List.map_cons]
    simp only [toDs, toDs_ints r]
    rfl
theorem toD_T {k n : Nat} {s : Store} : ∀ {t : T}, t.Good n → toD (k + 3) s t.pv = some (dT t)
  | .num i, _ => by
    show (toDs (toD (k + 2) s) [.str "num", .int i]).map PyData.tuple = _
    simp only [toDs, Tm.toD_str Tm.tag_ok.1]
    rfl
  | .name x, h => by
    show (toDs (toD (k + 2) s) [.str "name", .str x]).map PyData.tuple = _
    simp only [toDs, Tm.toD_str Tm.tag_ok.2.1, Tm.toD_str (show PyData.strOk x = true from h)]
    rfl
  | .of w as, ⟨hw, _, _⟩ => by
    have e1 : toD (k + 2) s (.tup (as.map PV.int)) = some (.tuple (as.map PyData.int)) := by
      show (toDs (toD (k + 1) s) (as.map PV.int)).map PyData.tuple = _
      rw [toDs_ints]
      rfl
    show (toDs (toD (k + 2) s) [.str "of", .str w, .tup (as.map PV.int)]).map PyData.tuple = _
    simp only [toDs, Tm.toD_str Tm.tag_ok.2.2, Tm.toD_str hw, e1]
    rfl
theorem str_ne : (("num" : Str) == "name") = false ∧ (("num" : Str) == "of") = false ∧ (("name" : Str) == "num") = false ∧ (("name" : Str) == "of") = false ∧ (("of" : Str) == "num") = false ∧ (("of" : Str) == "name") = false := by decide +kernel
theorem eqv_T : ∀ t u : T, PyData.eqv (dT t) (dT u) = decide (t = u)
  | .num i, .num j => by
    show ((("num" : Str) == "num") && ((i == j) && true)) = _
    by_cases h : i = j <;> simp [h]
  | .name x, .name y => by
    show ((("name" : Str) == "name") && ((x == y) && true)) = _
    by_cases h : x = y <;> simp [h]
  | .of w as, .of v bs => by
    show ((("of" : Str) == "of") && ((w == v) && (PyData.eqvAll (as.map PyData.int) (bs.map PyData.int) && true))) = _
    rw [eqv_intsD]
    by_cases h1 : w = v <;> by_cases h2 : as = bs <;> simp [h1, h2]
  | .num i, .name y => by show ((("num" : Str) == "name") && PyData.eqvAll [.int i] [.str y]) = _; rw [str_ne.1]; simp
  | .num i, .of v bs => by show ((("num" : Str) == "of") && PyData.eqvAll [.int i] [.str v, .tuple (bs.map PyData.int)]) = _; rw [str_ne.2.1]; simp
  | .name x, .num j => by show ((("name" : Str) == "num") && PyData.eqvAll [.str x] [.int j]) = _; rw [str_ne.2.2.1]; simp
  | .name x, .of v bs => by show ((("name" : Str) == "of") && PyData.eqvAll [.str x] [.str v, .tuple (bs.map PyData.int)]) = _; rw [str_ne.2.2.2.1]; simp
  | .of w as, .num j => by show ((("of" : Str) == "num") && PyData.eqvAll [.str w, .tuple (as.map PyData.int)] [.int j]) = _; rw [str_ne.2.2.2.2.1]; simp
  | .of w as, .name y => by show ((("of" : Str) == "name") && PyData.eqvAll [.str w, .tuple (as.map PyData.int)] [.str y]) = _; rw [str_ne.2.2.2.2.2]; simp
theorem eq_T {n m : Nat} {s : Store} {t u : T} (ht : t.Good n) (hu : u.Good m) : eqV t.pv u.pv s = some (.bl (decide (t = u)), s) := by
  have e : scEq t.pv u.pv = none := by cases t <;> cases u <;> rfl
  unfold eqV eqB
  rw [e]
  simp only [toD_T (k := 61) ht, toD_T (k := 61) hu, eqv_T]
  rfl
/-! ### the bank in the store -/
def BankAt (s : Store) (n p : Nat) (us : List Tr) : Prop := s[n]? = some (.ins "Bank" [("room", .int 400), ("terms", .ref p)]) ∧ s[p]? = some (.lst (rows us))
theorem BankAt.app {s g : Store} {n p : Nat} {us : List Tr} (h : BankAt s n p us) : BankAt (s ++ g) n p us := ⟨getOld h.1, getOld h.2⟩
theorem fl1 : List.lookup ("terms" : Str) [(("room" : Str), PV.int 400), ("terms", .ref p)] = some (.ref p) := by
  have e : (("terms" : Str) == "room") = false := by decide +kernel
  simp only [List.lookup, e, beq_self_eq_true]
theorem fl2 : List.lookup ("room" : Str) [(("room" : Str), PV.int 400), ("terms", .ref p)] = some (.int 400) := by
  simp only [List.lookup, beq_self_eq_true]
theorem fl3 (m : Str) (h1 : (m == "room") = false) (h2 : (m == "terms") = false) : List.lookup m [(("room" : Str), PV.int 400), ("terms", .ref p)] = none := by
  simp only [List.lookup, h1, h2]
def pos (us : List Tr) (x : Tr) : PV := if x ∈ us then .int (ix us x) else .non
theorem pos_pure (us : List Tr) (x : Tr) : pureP (pos us x) = true := by unfold pos; split <;> rfl
theorem rows_at {us : List Tr} {i : Nat} {u : Tr} (h : us[i]? = some u) : (rows us)[i]? = some (enc us u).pv := by
  unfold rows
  rw [List.getElem?_map, List.getElem?_map, h]
  rfl
theorem eq_enc {us : List Tr} {u x : Tr} {s : Store} (hu : Fit us u) (hx : Fit us x) : eqV (enc us u).pv (enc us x).pv s = some (.bl (decide (u = x)), s) := by
  rw [eq_T (enc_good hu) (enc_good hx)]
  have : (enc us u = enc us x) = (u = x) := propext ⟨enc_inj hu hx, fun e => by rw [e]⟩
  simp only [this]
theorem enumL_at {xs : List PV} : ∀ {i k : Nat} {x : PV}, (enumL xs k)[i]? = some x → ∃ y, xs[i]? = some y ∧ x = .tup [.int ((k + i : Nat) : Int), y] := by
  induction xs with
  | nil => intro i k x h; cases h
  | cons a r ih =>
    intro i k x h
    cases i with
    | zero => cases h; exact ⟨a, rfl, rfl⟩
    | succ i =>
      obtain ⟨y, h1, rfl⟩ := ih (k := k + 1) h
      exact ⟨y, h1, by rw [Nat.add_assoc, Nat.add_comm 1 i]⟩
theorem enumL_len {xs : List PV} : ∀ {k : Nat}, (enumL xs k).length = xs.length := by
  induction xs with
  | nil => intro k; rfl
  | cons a r ih => intro k; rw [enumL, List.length_cons, ih, List.length_cons]
/-- not among the first i, and then found or at the end -/
theorem idx_first {us : List Tr} {x u : Tr} {i : Nat} (h : us[i]? = some u) (hn : x ∉ us.take i) (e : u = x) : us.idxOf x = i := by
  have hl : i < us.length := (List.getElem?_eq_some_iff.mp h).1
  have e1 : us = us.take i ++ us.drop i := (List.take_append_drop i us).symm
  have e2 : us.drop i = u :: us.drop (i + 1) := by
    rw [List.drop_eq_getElem_cons hl]
    rw [List.getElem?_eq_getElem hl] at h
    cases h
    rfl
  rw [e1, List.idxOf_append, if_neg hn, e2, e, List.idxOf_cons_self, List.length_take]
  omega
theorem F_place {n p : Nat} {us : List Tr} {x : Tr} {s : Store} (hB : BankAt s n p us) (hU : Ok us) (hx : Fit us x) : F_Bank_place [.ref n, (enc us x).pv] s = .ok (pos us x) s := by
  unfold F_Bank_place
  refine run_rt0 ?_ (pos_pure _ _)
  have key := forL_wp (gd := [(p, .lst (rows us))]) (g := tupG 2 (consG (nameG 2) (consG (nameG 3) nilG))) (b := b_Bank_place_s1)
    (fun r => (∃ e, r = .nx e s ∧ x ∉ us) ∨ (x ∈ us ∧ r = .rt (.int (ix us x)) s))
    (fun i e s' => s' = s ∧ x ∉ us.take i ∧ ∃ a b, e = [some (.ref n), some (enc us x).pv, a, b]) (k := 0) (xs := enumL (rows us) 0) (e := [some (.ref n), some (enc us x).pv, none, none]) (st := s) ⟨rfl, by simp, none, none, rfl⟩
    (fun i v e s' hv hP => by
      obtain ⟨rfl, hn, a, b, rfl⟩ := hP
      rw [Nat.zero_add] at hn ⊢
      obtain ⟨y, hy, rfl⟩ := enumL_at hv
      have il : i < us.length := by have := (List.getElem?_eq_some_iff.mp hy).1; rwa [rows_len] at this
      obtain ⟨u, hu⟩ : ∃ u, us[i]? = some u := ⟨_, List.getElem?_eq_getElem il⟩
      rw [rows_at hu] at hy
      cases hy
      refine ⟨gd_one hB.2, _, rfl, ?_⟩
      have um := List.mem_of_getElem? hu
      have q := eq_enc (s := s') (hU u um) hx
      by_cases e : u = x
      · have q' := q
        rw [decide_eq_true e] at q'
        have r : b_Bank_place_s1 [some (.ref n), some (enc us x).pv, some (.int ((0 + i : Nat) : Int)), some (enc us u).pv] s' = .rt (.int ((0 + i : Nat) : Int)) s' := by
          simp only [b_Bank_place_s1, seqS, ifS, setS, augS, dropS, retS, retN, nxS, bkS, ctS, asgS, subS, R.toS, R.bind, R.of, opF, unF, varF, cstF, chF, isB, asB, andT, orT, notT, andF, orF, notF, ifF, nilA, consA, tupF, lstF, cbF, callF, bmF', truT, truV, nameG, nilG, consG, tupG, List.set_cons_zero, List.set_cons_succ, List.getElem?_cons_zero, List.getElem?_cons_succ, Option.bind_some, Option.bind_none, Option.map_some, Option.map_none, List.length_cons, List.length_nil, List.cons_append, List.nil_append, List.append_nil, if_true, if_false, ite_true, ite_false, Bool.false_eq_true, reduceIte, reduceCtorEq, List.map_cons, List.map_nil, Nat.sub_self, List.replicate_succ, List.replicate_zero, Nat.reduceSub, Nat.reduceAdd, Nat.reduceLT, Nat.reduceLeDiff, Nat.reduceEqDiff, Nat.reduceMul, Nat.reducePow, Int.reduceLT, Int.reduceLE, Int.reduceAdd, Int.reduceMul, Int.reduceSub, Int.reduceNeg, Int.reduceEq, Int.reducePow, Int.reduceMod, Int.reduceDiv, Int.reduceToNat, decide_true, decide_false, and_true, true_and, and_self, Option.some.injEq, q']
        show match b_Bank_place_s1 [some (.ref n), some (enc us x).pv, some (.int ((0 + i : Nat) : Int)), some (enc us u).pv] s' with
          | .nx e2 s2 => _
          | .ct e2 s2 => _
          | .bk e2 s2 => _
          | r => _
        rw [r]
        refine .inr ⟨by rw [← e]; exact um, ?_⟩
        unfold ix
        rw [idx_first hu hn e, Nat.zero_add]
      · have r : b_Bank_place_s1 [some (.ref n), some (enc us x).pv, some (.int ((0 + i : Nat) : Int)), some (enc us u).pv] s' = .nx [some (.ref n), some (enc us x).pv, some (.int ((0 + i : Nat) : Int)), some (enc us u).pv] s' := by
          simp only [b_Bank_place_s1, seqS, ifS, setS, augS, dropS, retS, retN, nxS, bkS, ctS, asgS, subS, R.toS, R.bind, R.of, opF, unF, varF, cstF, chF, isB, asB, andT, orT, notT, andF, orF, notF, ifF, nilA, consA, tupF, lstF, cbF, callF, bmF', truT, truV, nameG, nilG, consG, tupG, List.set_cons_zero, List.set_cons_succ, List.getElem?_cons_zero, List.getElem?_cons_succ, Option.bind_some, Option.bind_none, Option.map_some, Option.map_none, List.length_cons, List.length_nil, List.cons_append, List.nil_append, List.append_nil, if_true, if_false, ite_true, ite_false, Bool.false_eq_true, reduceIte, reduceCtorEq, List.map_cons, List.map_nil, Nat.sub_self, List.replicate_succ, List.replicate_zero, Nat.reduceSub, Nat.reduceAdd, Nat.reduceLT, Nat.reduceLeDiff, Nat.reduceEqDiff, Nat.reduceMul, Nat.reducePow, Int.reduceLT, Int.reduceLE, Int.reduceAdd, Int.reduceMul, Int.reduceSub, Int.reduceNeg, Int.reduceEq, Int.reducePow, Int.reduceMod, Int.reduceDiv, Int.reduceToNat, decide_true, decide_false, and_true, true_and, and_self, Option.some.injEq, q, e]
        show match b_Bank_place_s1 [some (.ref n), some (enc us x).pv, some (.int ((0 + i : Nat) : Int)), some (enc us u).pv] s' with
          | .nx e2 s2 => _
          | .ct e2 s2 => _
          | .bk e2 s2 => _
          | r => _
        rw [r]
        refine ⟨rfl, ?_, _, _, rfl⟩
        rw [List.take_add_one, hu]
        simp only [Option.toList_some, List.mem_append, List.mem_singleton, not_or]
        exact ⟨hn, fun z => e z.symm⟩) (fun e s' hP => by
      obtain ⟨rfl, hn, a, b, rfl⟩ := hP
      rw [Nat.zero_add, enumL_len, rows_len, List.take_length] at hn
      exact ⟨gd_one hB.2, .inl ⟨_, rfl, hn⟩⟩)
  have hf : ∀ e, forS (enumI (consA (fldF "Bank" ("terms" : Str) (varF 0)) nilA)) (tupG 2 (consG (nameG 2) (consG (nameG 3) nilG))) b_Bank_place_s1 [some (.ref n), some (enc us x).pv, none, none] s = e → forL [(p, .lst (rows us))] (tupG 2 (consG (nameG 2) (consG (nameG 3) nilG))) b_Bank_place_s1 (enumL (rows us) 0) [some (.ref n), some (enc us x).pv, none, none] s = e := fun e h => by
    rw [← h]
    simp only [forS, enumI, fldF, seqS, ifS, setS, augS, dropS, retS, retN, nxS, bkS, ctS, asgS, subS, R.toS, R.bind, R.of, opF, unF, varF, cstF, chF, isB, asB, andT, orT, notT, andF, orF, notF, ifF, nilA, consA, tupF, lstF, cbF, callF, bmF', truT, truV, nameG, nilG, consG, tupG, List.set_cons_zero, List.set_cons_succ, List.getElem?_cons_zero, List.getElem?_cons_succ, Option.bind_some, Option.bind_none, Option.map_some, Option.map_none, List.length_cons, List.length_nil, List.cons_append, List.nil_append, List.append_nil, if_true, if_false, ite_true, ite_false, Bool.false_eq_true, reduceIte, reduceCtorEq, List.map_cons, List.map_nil, Nat.sub_self, List.replicate_succ, List.replicate_zero, Nat.reduceSub, Nat.reduceAdd, Nat.reduceLT, Nat.reduceLeDiff, Nat.reduceEqDiff, Nat.reduceMul, Nat.reducePow, Int.reduceLT, Int.reduceLE, Int.reduceAdd, Int.reduceMul, Int.reduceSub, Int.reduceNeg, Int.reduceEq, Int.reducePow, Int.reduceMod, Int.reduceDiv, Int.reduceToNat, decide_true, decide_false, and_true, true_and, and_self, Option.some.injEq, hB.1, hB.2, fl1, lstAt, gdOf]
  have hf := (hf _ rfl).symm
  unfold pos
  unfold b_Bank_place
  show seqS _ _ [some (.ref n), some (enc us x).pv, none, none] s = _
  rcases key with ⟨e, h1, h2⟩ | ⟨h2, h1⟩
  · rw [if_neg h2]
    refine (seqS_nx (hf.trans h1)).trans ?_
    simp only [seqS, ifS, setS, augS, dropS, retS, retN, nxS, bkS, ctS, asgS, subS, R.toS, R.bind, R.of, opF, unF, varF, cstF, chF, isB, asB, andT, orT, notT, andF, orF, notF, ifF, nilA, consA, tupF, lstF, cbF, callF, bmF', truT, truV, nameG, nilG, consG, tupG, List.set_cons_zero, List.set_cons_succ, List.getElem?_cons_zero, List.getElem?_cons_succ, Option.bind_some, Option.bind_none, Option.map_some, Option.map_none, List.length_cons, List.length_nil, List.cons_append, List.nil_append, List.append_nil, if_true, if_false, ite_true, ite_false, Bool.false_eq_true, reduceIte, reduceCtorEq, List.map_cons, List.map_nil, Nat.sub_self, List.replicate_succ, List.replicate_zero, Nat.reduceSub, Nat.reduceAdd, Nat.reduceLT, Nat.reduceLeDiff, Nat.reduceEqDiff, Nat.reduceMul, Nat.reducePow, Int.reduceLT, Int.reduceLE, Int.reduceAdd, Int.reduceMul, Int.reduceSub, Int.reduceNeg, Int.reduceEq, Int.reducePow, Int.reduceMod, Int.reduceDiv, Int.reduceToNat, decide_true, decide_false, and_true, true_and, and_self, Option.some.injEq]
  · rw [if_pos h2]
    exact seqS_rt (hf.trans h1)
theorem F_held {r : Nat} {us : List Tr} {x : Tr} {s : Store} (hB : s[r]? = some (.lst (rows us))) (hU : Ok us) (hx : Fit us x) (hl : us.length ≤ 1000) : F_L_held [.ref r, (enc us x).pv] s = .ok (pos us x) s := by
  unfold F_L_held
  refine run_rt0 ?_ (pos_pure _ _)
  have key := forL_wp (gd := []) (g := nameG 2) (b := b_L_held_s1)
    (fun q => (∃ e, q = .nx e s ∧ x ∉ us) ∨ (x ∈ us ∧ q = .rt (.int (ix us x)) s))
    (fun i e s' => s' = s ∧ x ∉ us.take i ∧ ∃ a, e = [some (.ref r), some (enc us x).pv, a]) (k := 0) (xs := intL 0 1 us.length) (e := [some (.ref r), some (enc us x).pv, none]) (st := s) ⟨rfl, by simp, none, rfl⟩
    (fun i v e s' hv hP => by
      obtain ⟨rfl, hn, a, rfl⟩ := hP
      rw [Nat.zero_add] at hn ⊢
      have il : i < us.length := by have := (List.getElem?_eq_some_iff.mp hv).1; simpa [intL] using this
      have hv' : v = .int (0 + (i : Nat) * 1) := by
        unfold intL at hv
        rw [List.getElem?_map, List.getElem?_range il] at hv
        simpa using hv.symm
      subst hv'
      obtain ⟨u, hu⟩ : ∃ u, us[i]? = some u := ⟨_, List.getElem?_eq_getElem il⟩
      refine ⟨gd_nil _, _, rfl, ?_⟩
      have um := List.mem_of_getElem? hu
      have q := eq_enc (s := s') (hU u um) hx
      have ha : atI (rows us) (0 + (i : Int) * 1) = some (enc us u).pv := atI_nat' (by omega) (by rw [show (0 + (i : Int) * 1).toNat = i by omega]; exact rows_at hu)
      by_cases e : u = x
      · have q' := q
        rw [decide_eq_true e] at q'
        have h : b_L_held_s1 [some (.ref r), some (enc us x).pv, some (.int (0 + (i : Nat) * 1))] s' = .rt (.int (0 + (i : Nat) * 1)) s' := by
          simp only [b_L_held_s1, seqS, ifS, setS, augS, dropS, retS, retN, nxS, bkS, ctS, asgS, subS, R.toS, R.bind, R.of, opF, unF, varF, cstF, chF, isB, asB, andT, orT, notT, andF, orF, notF, ifF, nilA, consA, tupF, lstF, cbF, callF, bmF', truT, truV, nameG, nilG, consG, tupG, List.set_cons_zero, List.set_cons_succ, List.getElem?_cons_zero, List.getElem?_cons_succ, Option.bind_some, Option.bind_none, Option.map_some, Option.map_none, List.length_cons, List.length_nil, List.cons_append, List.nil_append, List.append_nil, if_true, if_false, ite_true, ite_false, Bool.false_eq_true, reduceIte, reduceCtorEq, List.map_cons, List.map_nil, Nat.sub_self, List.replicate_succ, List.replicate_zero, Nat.reduceSub, Nat.reduceAdd, Nat.reduceLT, Nat.reduceLeDiff, Nat.reduceEqDiff, Nat.reduceMul, Nat.reducePow, Int.reduceLT, Int.reduceLE, Int.reduceAdd, Int.reduceMul, Int.reduceSub, Int.reduceNeg, Int.reduceEq, Int.reducePow, Int.reduceMod, Int.reduceDiv, Int.reduceToNat, decide_true, decide_false, and_true, true_and, and_self, Option.some.injEq, idxV, at0, at1, at2, at3, at4, at5, seqAt, lstAt, lenV, isiV, typV, kb1, kb2, kb3, kb4, kb5, kb6, kb7, kb8, kb9, kb10, kb11, hB, ha, q']
        show match b_L_held_s1 [some (.ref r), some (enc us x).pv, some (.int (0 + (i : Nat) * 1))] s' with
          | .nx e2 s2 => _
          | .ct e2 s2 => _
          | .bk e2 s2 => _
          | r => _
        rw [h]
        refine .inr ⟨by rw [← e]; exact um, ?_⟩
        unfold ix
        rw [idx_first hu hn e]
        congr 2
        omega
      · have h : b_L_held_s1 [some (.ref r), some (enc us x).pv, some (.int (0 + (i : Nat) * 1))] s' = .nx [some (.ref r), some (enc us x).pv, some (.int (0 + (i : Nat) * 1))] s' := by
          simp only [b_L_held_s1, seqS, ifS, setS, augS, dropS, retS, retN, nxS, bkS, ctS, asgS, subS, R.toS, R.bind, R.of, opF, unF, varF, cstF, chF, isB, asB, andT, orT, notT, andF, orF, notF, ifF, nilA, consA, tupF, lstF, cbF, callF, bmF', truT, truV, nameG, nilG, consG, tupG, List.set_cons_zero, List.set_cons_succ, List.getElem?_cons_zero, List.getElem?_cons_succ, Option.bind_some, Option.bind_none, Option.map_some, Option.map_none, List.length_cons, List.length_nil, List.cons_append, List.nil_append, List.append_nil, if_true, if_false, ite_true, ite_false, Bool.false_eq_true, reduceIte, reduceCtorEq, List.map_cons, List.map_nil, Nat.sub_self, List.replicate_succ, List.replicate_zero, Nat.reduceSub, Nat.reduceAdd, Nat.reduceLT, Nat.reduceLeDiff, Nat.reduceEqDiff, Nat.reduceMul, Nat.reducePow, Int.reduceLT, Int.reduceLE, Int.reduceAdd, Int.reduceMul, Int.reduceSub, Int.reduceNeg, Int.reduceEq, Int.reducePow, Int.reduceMod, Int.reduceDiv, Int.reduceToNat, decide_true, decide_false, and_true, true_and, and_self, Option.some.injEq, idxV, at0, at1, at2, at3, at4, at5, seqAt, lstAt, lenV, isiV, typV, kb1, kb2, kb3, kb4, kb5, kb6, kb7, kb8, kb9, kb10, kb11, hB, ha, q, e]
        show match b_L_held_s1 [some (.ref r), some (enc us x).pv, some (.int (0 + (i : Nat) * 1))] s' with
          | .nx e2 s2 => _
          | .ct e2 s2 => _
          | .bk e2 s2 => _
          | r => _
        rw [h]
        refine ⟨rfl, ?_, _, rfl⟩
        rw [List.take_add_one, hu]
        simp only [Option.toList_some, List.mem_append, List.mem_singleton, not_or]
        exact ⟨hn, fun z => e z.symm⟩) (fun e s' hP => by
      obtain ⟨rfl, hn, a, rfl⟩ := hP
      rw [Nat.zero_add] at hn
      have : us.take (intL 0 1 us.length).length = us := by simp [intL]
      rw [this] at hn
      exact ⟨gd_nil _, .inl ⟨_, rfl, hn⟩⟩)
  have hr : rng1I (consA (cbF lenV (consA (varF 0) nilA)) nilA) [some (.ref r), some (enc us x).pv, none] s = .ok ⟨intL 0 1 us.length, []⟩ s := by
    have h : consA (cbF lenV (consA (varF 0) nilA)) nilA [some (.ref r), some (enc us x).pv, none] s = .ok [.int (us.length : Int)] s := by simp only [seqS, ifS, setS, augS, dropS, retS, retN, nxS, bkS, ctS, asgS, subS, R.toS, R.bind, R.of, opF, unF, varF, cstF, chF, isB, asB, andT, orT, notT, andF, orF, notF, ifF, nilA, consA, tupF, lstF, cbF, callF, bmF', truT, truV, nameG, nilG, consG, tupG, List.set_cons_zero, List.set_cons_succ, List.getElem?_cons_zero, List.getElem?_cons_succ, Option.bind_some, Option.bind_none, Option.map_some, Option.map_none, List.length_cons, List.length_nil, List.cons_append, List.nil_append, List.append_nil, if_true, if_false, ite_true, ite_false, Bool.false_eq_true, reduceIte, reduceCtorEq, List.map_cons, List.map_nil, Nat.sub_self, List.replicate_succ, List.replicate_zero, Nat.reduceSub, Nat.reduceAdd, Nat.reduceLT, Nat.reduceLeDiff, Nat.reduceEqDiff, Nat.reduceMul, Nat.reducePow, Int.reduceLT, Int.reduceLE, Int.reduceAdd, Int.reduceMul, Int.reduceSub, Int.reduceNeg, Int.reduceEq, Int.reducePow, Int.reduceMod, Int.reduceDiv, Int.reduceToNat, decide_true, decide_false, and_true, true_and, and_self, Option.some.injEq, idxV, at0, at1, at2, at3, at4, at5, seqAt, lstAt, lenV, isiV, typV, kb1, kb2, kb3, kb4, kb5, kb6, kb7, kb8, kb9, kb10, kb11, hB, rows_len]
    have := rng1I_ok h (by omega) (by omega)
    rwa [Int.toNat_natCast] at this
  unfold pos
  unfold b_L_held
  show seqS _ _ [some (.ref r), some (enc us x).pv, none] s = _
  have hf : forS (rng1I (consA (cbF lenV (consA (varF 0) nilA)) nilA)) (nameG 2) b_L_held_s1 [some (.ref r), some (enc us x).pv, none] s = forL [] (nameG 2) b_L_held_s1 (intL 0 1 us.length) [some (.ref r), some (enc us x).pv, none] s := by
    unfold forS
    rw [hr, toS_ok]
  rcases key with ⟨e, h1, h2⟩ | ⟨h2, h1⟩
  · rw [if_neg h2]
    refine (seqS_nx (hf.trans h1)).trans ?_
    simp only [seqS, ifS, setS, augS, dropS, retS, retN, nxS, bkS, ctS, asgS, subS, R.toS, R.bind, R.of, opF, unF, varF, cstF, chF, isB, asB, andT, orT, notT, andF, orF, notF, ifF, nilA, consA, tupF, lstF, cbF, callF, bmF', truT, truV, nameG, nilG, consG, tupG, List.set_cons_zero, List.set_cons_succ, List.getElem?_cons_zero, List.getElem?_cons_succ, Option.bind_some, Option.bind_none, Option.map_some, Option.map_none, List.length_cons, List.length_nil, List.cons_append, List.nil_append, List.append_nil, if_true, if_false, ite_true, ite_false, Bool.false_eq_true, reduceIte, reduceCtorEq, List.map_cons, List.map_nil, Nat.sub_self, List.replicate_succ, List.replicate_zero, Nat.reduceSub, Nat.reduceAdd, Nat.reduceLT, Nat.reduceLeDiff, Nat.reduceEqDiff, Nat.reduceMul, Nat.reducePow, Int.reduceLT, Int.reduceLE, Int.reduceAdd, Int.reduceMul, Int.reduceSub, Int.reduceNeg, Int.reduceEq, Int.reducePow, Int.reduceMod, Int.reduceDiv, Int.reduceToNat, decide_true, decide_false, and_true, true_and, and_self, Option.some.injEq]
  · rw [if_pos h2]
    exact seqS_rt (hf.trans h1)
theorem set_same {s : Store} {W : Nat} {o : PO} (h : s[W]? = some o) : s.set W o = s := by
  apply List.ext_getElem?
  intro i
  by_cases hi : W = i
  · subst hi
    rw [List.getElem?_set_self (List.getElem?_eq_some_iff.mp h).1, h]
  · rw [List.getElem?_set_ne hi]
theorem run_set {n p : Nat} {body : FS} {args : List PV} {st g : Store} {v : PV} {o : PO} (h : body (args.map some ++ List.replicate (n - args.length) none) st = .rt v (st.set p o ++ g)) (hv : pureP v = true) (hp : p < st.length) (ho : objOk st.length o = true) : runFn n body args st = .ok v (st.set p o) := by
  unfold runFn
  rw [h]
  show gc st v (st.set p o ++ g) = _
  unfold gc
  have c : st.length ≤ (st.set p o ++ g).length ∧ preOk st (st.set p o ++ g) := by
    refine ⟨by simp, fun k hk => ?_⟩
    rw [List.getElem?_append_left (by rw [List.length_set]; exact hk)]
    by_cases e : p = k
    · subst e
      exact .inr ⟨o, List.getElem?_set_self hp, ho⟩
    · exact .inl (List.getElem?_set_ne e)
  rw [if_pos c, if_pos (pure_refs _ hv), List.take_left' (List.length_set ..)]
def holdT (us : List Tr) (x : Tr) : List Tr := if x ∈ us then us else us ++ [x]
theorem ix_new {us : List Tr} {x : Tr} (h : x ∉ us) : ix (us ++ [x]) x = us.length := by
  unfold ix
  rw [List.idxOf_append, if_neg h, List.idxOf_cons_self]
  simp
theorem ix_pre {us r : List Tr} {a : Tr} (h : a ∈ us) : ix (us ++ r) a = ix us a := by unfold ix; rw [List.idxOf_append, if_pos h]
theorem BankAt.lt {s : Store} {n p : Nat} {us : List Tr} (h : BankAt s n p us) : p < s.length := (List.getElem?_eq_some_iff.mp h.2).1
theorem BankAt.ne {s : Store} {n p : Nat} {us : List Tr} (h : BankAt s n p us) : p ≠ n := fun e => by
  have := h.1
  rw [← e, h.2] at this
  cases this
theorem BankAt.set {s : Store} {n p : Nat} {us vs : List Tr} (h : BankAt s n p us) : BankAt (s.set p (.lst (rows vs))) n p vs := ⟨by rw [List.getElem?_set_ne h.ne]; exact h.1, List.getElem?_set_self h.lt⟩
theorem rows_ok (n : Nat) (us : List Tr) : objOk n (.lst (rows us)) = true := by simp only [objOk]; exact pures_refs _ (rows_pure us)
theorem F_hold {n p : Nat} {us : List Tr} {x : Tr} {s : Store} (hB : BankAt s n p us) (hU : Ok us) (hx : Fit us x) (hl : us.length < 400) : F_Bank_hold [.ref n, (enc us x).pv] s = .ok (.int (ix (holdT us x) x)) (s.set p (.lst (rows (holdT us x)))) := by
  have hp := F_place hB hU hx
  have n1 : List.lookup ("place" : Str) [(("room" : Str), PV.int 400), ("terms", .ref p)] = none := fl3 "place" (by decide +kernel) (by decide +kernel)
  unfold F_Bank_hold holdT
  by_cases h : x ∈ us
  · rw [if_pos h, set_same hB.2]
    refine run_rt0 ?_ rfl
    have pe : pos us x = .int (ix us x) := by unfold pos; rw [if_pos h]
    rw [pe] at hp
    simp only [b_Bank_hold, methF, seqS, ifS, setS, augS, dropS, retS, retN, nxS, bkS, ctS, asgS, subS, R.toS, R.bind, R.of, opF, unF, varF, cstF, chF, isB, asB, andT, orT, notT, andF, orF, notF, ifF, nilA, consA, tupF, lstF, cbF, callF, bmF', truT, truV, nameG, nilG, consG, tupG, List.set_cons_zero, List.set_cons_succ, List.getElem?_cons_zero, List.getElem?_cons_succ, Option.bind_some, Option.bind_none, Option.map_some, Option.map_none, List.length_cons, List.length_nil, List.cons_append, List.nil_append, List.append_nil, if_true, if_false, ite_true, ite_false, Bool.false_eq_true, reduceIte, reduceCtorEq, List.map_cons, List.map_nil, Nat.sub_self, List.replicate_succ, List.replicate_zero, Nat.reduceSub, Nat.reduceAdd, Nat.reduceLT, Nat.reduceLeDiff, Nat.reduceEqDiff, Nat.reduceMul, Nat.reducePow, Int.reduceLT, Int.reduceLE, Int.reduceAdd, Int.reduceMul, Int.reduceSub, Int.reduceNeg, Int.reduceEq, Int.reducePow, Int.reduceMod, Int.reduceDiv, Int.reduceToNat, decide_true, decide_false, and_true, true_and, and_self, Option.some.injEq, addV, iaddV, subV, mulV, fdivV, modV, powV, negV, cmpV, isNonV, notNonV, hB.1, n1, hp, Bool.not_false]
  · rw [if_neg h, ix_new h, rows_app hU hx]
    have pe : pos us x = .non := by unfold pos; rw [if_neg h]
    rw [pe] at hp
    have lt : ¬ (400 : Int) ≤ (us.length : Int) := by omega
    have q : us.length < 16777216 := by omega
    have e1 : (s.set p (.lst (rows us ++ [(enc us x).pv])))[n]? = some (.ins "Bank" [("room", .int 400), ("terms", .ref p)]) := by rw [List.getElem?_set_ne hB.ne]; exact hB.1
    have e2 : (s.set p (.lst (rows us ++ [(enc us x).pv])))[p]? = some (.lst (rows us ++ [(enc us x).pv])) := List.getElem?_set_self hB.lt
    have e3 : ((rows us ++ [(enc us x).pv]).length : Int) - 1 = (us.length : Int) := by rw [List.length_append, rows_len]; simp
    refine run_set (g := []) ?_ rfl hB.lt (by rw [← rows_app hU hx]; exact rows_ok _ _)
    rw [List.append_nil]
    simp only [b_Bank_hold, methF, fldF, noS, seqS, ifS, setS, augS, dropS, retS, retN, nxS, bkS, ctS, asgS, subS, R.toS, R.bind, R.of, opF, unF, varF, cstF, chF, isB, asB, andT, orT, notT, andF, orF, notF, ifF, nilA, consA, tupF, lstF, cbF, callF, bmF', truT, truV, nameG, nilG, consG, tupG, List.set_cons_zero, List.set_cons_succ, List.getElem?_cons_zero, List.getElem?_cons_succ, Option.bind_some, Option.bind_none, Option.map_some, Option.map_none, List.length_cons, List.length_nil, List.cons_append, List.nil_append, List.append_nil, if_true, if_false, ite_true, ite_false, Bool.false_eq_true, reduceIte, reduceCtorEq, List.map_cons, List.map_nil, Nat.sub_self, List.replicate_succ, List.replicate_zero, Nat.reduceSub, Nat.reduceAdd, Nat.reduceLT, Nat.reduceLeDiff, Nat.reduceEqDiff, Nat.reduceMul, Nat.reducePow, Int.reduceLT, Int.reduceLE, Int.reduceAdd, Int.reduceMul, Int.reduceSub, Int.reduceNeg, Int.reduceEq, Int.reducePow, Int.reduceMod, Int.reduceDiv, Int.reduceToNat, decide_true, decide_false, and_true, true_and, and_self, Option.some.injEq, addV, iaddV, subV, mulV, fdivV, modV, powV, negV, cmpV, isNonV, notNonV, idxV, at0, at1, at2, at3, at4, at5, seqAt, lstAt, lenV, isiV, typV, kb1, kb2, kb3, kb4, kb5, kb6, kb7, kb8, kb9, kb10, kb11, hB.1, hB.2, fl1, fl2, n1, hp, Bool.not_true, rows_len, lt, tyOk, beq_self_eq_true, appendV, sizeLine_eq, q, e1, e2, e3]
mutual
def putT : List Tr → Tr → List Tr
  | us, .of w as => holdT (putL us as) (.of w as)
  | us, .num i => holdT us (.num i)
  | us, .name x => holdT us (.name x)
  | us, .any x => holdT us (.any x)
def putL : List Tr → List Tr → List Tr
  | us, [] => us
  | us, a :: r => putL (putT us a) r
end
/-- good steps -/
structure Step (ts us vs : List Tr) : Prop where
  pre : ∃ r, vs = us ++ r
  ok : Ok vs
  sub : ∀ u ∈ vs, u ∈ ts
  nd : vs.Nodup
theorem Step.mem {ts us vs : List Tr} (h : Step ts us vs) {a : Tr} (ha : a ∈ us) : a ∈ vs := by
  obtain ⟨r, rfl⟩ := h.pre
  exact List.mem_append_left _ ha
theorem Step.ix {ts us vs : List Tr} (h : Step ts us vs) {a : Tr} (ha : a ∈ us) : Bk.ix vs a = Bk.ix us a := by
  obtain ⟨r, rfl⟩ := h.pre
  exact ix_pre ha
theorem Step.trans {ts us vs ws : List Tr} (h : Step ts us vs) (k : Step ts vs ws) : Step ts us ws := by
  obtain ⟨r, rfl⟩ := h.pre
  obtain ⟨q, rfl⟩ := k.pre
  exact ⟨⟨r ++ q, List.append_assoc ..⟩, k.ok, k.sub, k.nd⟩
theorem hold_step {ts us : List Tr} {x : Tr} (hU : Ok us) (hs : ∀ u ∈ us, u ∈ ts) (hn : us.Nodup) (hx : Fit us x) (hm : x ∈ ts) : Step ts us (holdT us x) ∧ x ∈ holdT us x := by
  unfold holdT
  by_cases h : x ∈ us
  · rw [if_pos h]
    exact ⟨⟨⟨[], (List.append_nil _).symm⟩, hU, hs, hn⟩, h⟩
  · rw [if_neg h]
    refine ⟨⟨⟨[x], rfl⟩, hU.app hx, fun u hu => ?_, ?_⟩, List.mem_append_right _ List.mem_cons_self⟩
    · rcases List.mem_append.mp hu with q | q
      · exact hs u q
      · rw [List.mem_singleton] at q; rw [q]; exact hm
    · rw [List.nodup_append]
      exact ⟨hn, by simp, fun a ha b hb => by rw [List.mem_singleton] at hb; rw [hb]; intro q; rw [q] at ha; exact h ha⟩
mutual
theorem put_step {ts : List Tr} (hT : Ok ts) : ∀ (us : List Tr) (x : Tr), Ok us → (∀ u ∈ us, u ∈ ts) → us.Nodup → x ∈ ts → Step ts us (putT us x) ∧ x ∈ putT us x
  | us, .num i, hU, hs, hn, hm => by simp only [putT]; exact hold_step hU hs hn trivial hm
  | us, .name x, hU, hs, hn, hm => by simp only [putT]; exact hold_step hU hs hn (show Az x from hT _ hm) hm
  | us, .any x, hU, hs, hn, hm => (hT _ hm).elim
  | us, .of w as, hU, hs, hn, hm => by
    have hf : Fit ts (.of w as) := hT _ hm
    obtain ⟨k1, k2⟩ := putL_step hT us as hU hs hn hf.2.2
    simp only [putT]
    obtain ⟨k3, k4⟩ := hold_step (ts := ts) (x := .of w as) k1.ok k1.sub k1.nd ⟨hf.1, hf.2.1, k2⟩ hm
    exact ⟨k1.trans k3, k4⟩
theorem putL_step {ts : List Tr} (hT : Ok ts) : ∀ (us : List Tr) (as : List Tr), Ok us → (∀ u ∈ us, u ∈ ts) → us.Nodup → (∀ a ∈ as, a ∈ ts) → Step ts us (putL us as) ∧ ∀ a ∈ as, a ∈ putL us as
  | us, [], hU, hs, hn, _ => by simp only [putL]; exact ⟨⟨⟨[], (List.append_nil _).symm⟩, hU, hs, hn⟩, fun a ha => by cases ha⟩
  | us, a :: r, hU, hs, hn, hm => by
    obtain ⟨k1, k2⟩ := put_step hT us a hU hs hn (hm a List.mem_cons_self)
    obtain ⟨k3, k4⟩ := putL_step hT (putT us a) r k1.ok k1.sub k1.nd fun z hz => hm z (List.mem_cons_of_mem _ hz)
    simp only [putL]
    refine ⟨k1.trans k3, fun z hz => ?_⟩
    rcases List.mem_cons.mp hz with rfl | hz
    · exact k3.mem k2
    · exact k4 z hz
end
theorem nd_len {pw acc : List Tr} (h : acc.Nodup) (hs : ∀ y ∈ acc, y ∈ pw) : acc.length ≤ pw.length := by
  induction acc generalizing pw with
  | nil => exact Nat.zero_le _
  | cons x r ih =>
    have hx := hs x List.mem_cons_self
    have := ih (pw := pw.erase x) (List.nodup_cons.mp h).2 fun y hy => by
      have hne : y ≠ x := fun q => (List.nodup_cons.mp h).1 (by rw [← q]; exact hy)
      exact (List.mem_erase_of_ne hne).mpr (hs y (List.mem_cons_of_mem _ hy))
    rw [List.length_erase_of_mem hx] at this
    have hp : 0 < pw.length := List.length_pos_of_mem hx
    rw [List.length_cons]
    omega
theorem enc_of {us as : List Tr} {w : Str} : (enc us (.of w as)).pv = .tup [.str "of", .str w, .tup (as.map fun a => .int (ix us a))] := by
  simp only [enc, Tm.Tm.pv, List.map_map]
  rfl
/-- the loop over the arms -/
theorem loop_put {ts : List Tr} (hT : Ok ts) (hl : ts.length ≤ 300) {n p f : Nat} {s : Store} {o1 o2 : Option PV}
    (ih : ∀ (us : List Tr) (x : Tr) (s : Store), BankAt s n p us → Ok us → (∀ u ∈ us, u ∈ ts) → us.Nodup → x ∈ ts → x.depth ≤ f → F_Bank_put_part f [.ref n, x.pv, .non] s = .ok (.int (ix (putT us x) x)) (s.set p (.lst (rows (putT us x))))) :
    ∀ (as us : List Tr) (acc : List PV) (v : Option PV), BankAt s n p us → Ok us → (∀ u ∈ us, u ∈ ts) → us.Nodup → (∀ a ∈ as, a ∈ ts) → depthL as ≤ f → acc.length + as.length ≤ 1000 →
      ∃ v', forL [] (nameG 4) (b_Bank_put_part_s1 (F_Bank_put_part f)) (as.map Tr.pv) [some (.ref n), o1, some .non, some (.ref s.length), v] (s ++ [.lst acc]) =
        .nx [some (.ref n), o1, some .non, some (.ref s.length), v'] (s.set p (.lst (rows (putL us as))) ++ [.lst (acc ++ as.map fun a => .int (ix (putL us as) a))])
  | [], us, acc, v, hB, _, _, _, _, _, _ => by
    refine ⟨v, ?_⟩
    rw [List.map_nil]
    unfold forL
    rw [if_pos (gd_nil _)]
    simp only [putL, set_same hB.2, List.map_nil, List.append_nil]
  | a :: r, us, acc, v, hB, hU, hs, hn, hm, hd, hc => by
    obtain ⟨k1, k2⟩ := put_step hT us a hU hs hn (hm a List.mem_cons_self)
    obtain ⟨k3, k4⟩ := putL_step hT (putT us a) r k1.ok k1.sub k1.nd fun z hz => hm z (List.mem_cons_of_mem _ hz)
    rw [depthL] at hd
    have h1 := ih us a (s ++ [.lst acc]) hB.app hU hs hn (hm a List.mem_cons_self) (by omega)
    have st1 : (s ++ [PO.lst acc]).set p (.lst (rows (putT us a))) = s.set p (.lst (rows (putT us a))) ++ [.lst acc] := List.set_append_left _ _ hB.lt
    rw [st1] at h1
    have hB2 : BankAt (s.set p (.lst (rows (putT us a)))) n p (putT us a) := hB.set
    rw [List.length_cons] at hc
    obtain ⟨v', h2⟩ := loop_put hT hl (n := n) (p := p) (f := f) (s := s.set p (.lst (rows (putT us a)))) (o1 := o1) (o2 := o2) ih r (putT us a) (acc ++ [.int (ix (putT us a) a)]) (some a.pv) hB2 k1.ok k1.sub k1.nd (fun z hz => hm z (List.mem_cons_of_mem _ hz)) (by omega) (by rw [List.length_append, List.length_singleton]; omega)
    rw [List.length_set, List.set_set] at h2
    refine ⟨v', ?_⟩
    have n1 : List.lookup ("put_part" : Str) [(("room" : Str), PV.int 400), ("terms", .ref p)] = none := fl3 "put_part" (by decide +kernel) (by decide +kernel)
    have g1 : ∀ g, (s ++ g)[n]? = some (.ins "Bank" [("room", .int 400), ("terms", .ref p)]) := fun g => getOld hB.1
    have g2 : ∀ a b : PO, (s.set p a ++ [b])[s.length]? = some b := fun a b => by
      have := getS0 (st := s.set p a) (g := [b])
      rw [List.length_set] at this
      rw [this]; rfl
    have g3 : ∀ a b c : PO, (s.set p a ++ [b]).set s.length c = s.set p a ++ [c] := fun a b c => by
      have := setS0_app (st := s.set p a) (g := [b]) (o := c)
      rw [List.length_set] at this
      rw [this]; rfl
    have q : acc.length < 16777216 := by omega
    rw [List.map_cons]
    unfold forL
    rw [if_pos (gd_nil _)]
    have bd : b_Bank_put_part_s1 (F_Bank_put_part f) [some (.ref n), o1, some .non, some (.ref s.length), some a.pv] (s ++ [.lst acc]) = .nx [some (.ref n), o1, some .non, some (.ref s.length), some a.pv] (s.set p (.lst (rows (putT us a))) ++ [.lst (acc ++ [.int (ix (putT us a) a)])]) := by
      have tk : tyOk "list" (.ref s.length) (s ++ [.lst acc]) = true := by simp only [tyOk, getS0]; rfl
      simp only [b_Bank_put_part_s1, methF, seqS, ifS, setS, augS, dropS, retS, retN, nxS, bkS, ctS, asgS, subS, R.toS, R.bind, R.of, opF, unF, varF, cstF, chF, isB, asB, andT, orT, notT, andF, orF, notF, ifF, nilA, consA, tupF, lstF, cbF, callF, bmF', truT, truV, nameG, nilG, consG, tupG, List.set_cons_zero, List.set_cons_succ, List.getElem?_cons_zero, List.getElem?_cons_succ, Option.bind_some, Option.bind_none, Option.map_some, Option.map_none, List.length_cons, List.length_nil, List.cons_append, List.nil_append, List.append_nil, if_true, if_false, ite_true, ite_false, Bool.false_eq_true, reduceIte, reduceCtorEq, List.map_cons, List.map_nil, Nat.sub_self, List.replicate_succ, List.replicate_zero, Nat.reduceSub, Nat.reduceAdd, Nat.reduceLT, Nat.reduceLeDiff, Nat.reduceEqDiff, Nat.reduceMul, Nat.reducePow, Int.reduceLT, Int.reduceLE, Int.reduceAdd, Int.reduceMul, Int.reduceSub, Int.reduceNeg, Int.reduceEq, Int.reducePow, Int.reduceMod, Int.reduceDiv, Int.reduceToNat, decide_true, decide_false, and_true, true_and, and_self, Option.some.injEq, g1, n1, h1, tk, appendV, g2, g3, sizeLine_eq, q]
    rw [show nameG 4 a.pv [some (.ref n), o1, some .non, some (.ref s.length), v] = some [some (.ref n), o1, some .non, some (.ref s.length), some a.pv] from rfl]
    simp only
    rw [bd]
    simp only
    rw [h2]
    simp only [putL, List.map_cons]
    rw [k3.ix k2]
    simp
theorem F_put_part {ts : List Tr} (hT : Ok ts) (hl : ts.length ≤ 300) {n p : Nat} : ∀ (f : Nat) (us : List Tr) (x : Tr) (s : Store), BankAt s n p us → Ok us → (∀ u ∈ us, u ∈ ts) → us.Nodup → x ∈ ts → x.depth ≤ f → F_Bank_put_part f [.ref n, x.pv, .non] s = .ok (.int (ix (putT us x) x)) (s.set p (.lst (rows (putT us x)))) := by
  intro f
  induction f with
  | zero => intro us x s _ _ _ _ _ h; have := depth_pos x; omega
  | succ f ih =>
    intro us x s hB hU hs hn hm hd
    have n2 : List.lookup ("hold" : Str) [(("room" : Str), PV.int 400), ("terms", .ref p)] = none := fl3 "hold" (by decide +kernel) (by decide +kernel)
    have ul := nd_len hn hs
    unfold F_Bank_put_part
    cases x with
    | any x => exact (hT _ hm).elim
    | num i =>
      have h := F_hold (x := .num i) hB hU trivial (by omega)
      refine run_set (g := []) ?_ rfl hB.lt (rows_ok _ _)
      rw [List.append_nil]
      simp only [enc, Tm.Tm.pv] at h
      simp only [b_Bank_put_part, methF, Tr.pv, seqS, ifS, setS, augS, dropS, retS, retN, nxS, bkS, ctS, asgS, subS, R.toS, R.bind, R.of, opF, unF, varF, cstF, chF, isB, asB, andT, orT, notT, andF, orF, notF, ifF, nilA, consA, tupF, lstF, cbF, callF, bmF', truT, truV, nameG, nilG, consG, tupG, List.set_cons_zero, List.set_cons_succ, List.getElem?_cons_zero, List.getElem?_cons_succ, Option.bind_some, Option.bind_none, Option.map_some, Option.map_none, List.length_cons, List.length_nil, List.cons_append, List.nil_append, List.append_nil, if_true, if_false, ite_true, ite_false, Bool.false_eq_true, reduceIte, reduceCtorEq, List.map_cons, List.map_nil, Nat.sub_self, List.replicate_succ, List.replicate_zero, Nat.reduceSub, Nat.reduceAdd, Nat.reduceLT, Nat.reduceLeDiff, Nat.reduceEqDiff, Nat.reduceMul, Nat.reducePow, Int.reduceLT, Int.reduceLE, Int.reduceAdd, Int.reduceMul, Int.reduceSub, Int.reduceNeg, Int.reduceEq, Int.reducePow, Int.reduceMod, Int.reduceDiv, Int.reduceToNat, decide_true, decide_false, and_true, true_and, and_self, Option.some.injEq, eqV, neV, eqB, scEq, t1, t2, t3, t4, t5, t6, t7, t8, t9, t10, t11, t12, t13, t14, t15, t16, idxV, at0, at1, at2, at3, at4, at5, seqAt, lstAt, lenV, isiV, typV, kb1, kb2, kb3, kb4, kb5, kb6, kb7, kb8, kb9, kb10, kb11, hB.1, n2, Bool.not_false, h, putT]
    | name y =>
      have h := F_hold (x := .name y) hB hU (show Az y from hT _ hm) (by omega)
      refine run_set (g := []) ?_ rfl hB.lt (rows_ok _ _)
      rw [List.append_nil]
      simp only [enc, Tm.Tm.pv] at h
      simp only [b_Bank_put_part, methF, Tr.pv, seqS, ifS, setS, augS, dropS, retS, retN, nxS, bkS, ctS, asgS, subS, R.toS, R.bind, R.of, opF, unF, varF, cstF, chF, isB, asB, andT, orT, notT, andF, orF, notF, ifF, nilA, consA, tupF, lstF, cbF, callF, bmF', truT, truV, nameG, nilG, consG, tupG, List.set_cons_zero, List.set_cons_succ, List.getElem?_cons_zero, List.getElem?_cons_succ, Option.bind_some, Option.bind_none, Option.map_some, Option.map_none, List.length_cons, List.length_nil, List.cons_append, List.nil_append, List.append_nil, if_true, if_false, ite_true, ite_false, Bool.false_eq_true, reduceIte, reduceCtorEq, List.map_cons, List.map_nil, Nat.sub_self, List.replicate_succ, List.replicate_zero, Nat.reduceSub, Nat.reduceAdd, Nat.reduceLT, Nat.reduceLeDiff, Nat.reduceEqDiff, Nat.reduceMul, Nat.reducePow, Int.reduceLT, Int.reduceLE, Int.reduceAdd, Int.reduceMul, Int.reduceSub, Int.reduceNeg, Int.reduceEq, Int.reducePow, Int.reduceMod, Int.reduceDiv, Int.reduceToNat, decide_true, decide_false, and_true, true_and, and_self, Option.some.injEq, eqV, neV, eqB, scEq, t1, t2, t3, t4, t5, t6, t7, t8, t9, t10, t11, t12, t13, t14, t15, t16, idxV, at0, at1, at2, at3, at4, at5, seqAt, lstAt, lenV, isiV, typV, kb1, kb2, kb3, kb4, kb5, kb6, kb7, kb8, kb9, kb10, kb11, hB.1, n2, Bool.not_false, h, putT]
    | of w as =>
      have hf : Fit ts (.of w as) := hT _ hm
      simp only [Tr.depth] at hd
      obtain ⟨k1, k2⟩ := putL_step hT us as hU hs hn hf.2.2
      have l1 := nd_len k1.nd k1.sub
      obtain ⟨v', h1⟩ := loop_put hT hl (s := s) (o1 := some (Tr.of w as).pv) (o2 := none) ih as us [] none hB hU hs hn hf.2.2 (by omega) (by have := hf.2.1; simp only [List.length_nil]; omega)
      have hB1 : BankAt (s.set p (.lst (rows (putL us as))) ++ [.lst (as.map fun a => .int (ix (putL us as) a))]) n p (putL us as) := hB.set.app
      have h2 := F_hold (x := .of w as) hB1 k1.ok ⟨hf.1, hf.2.1, k2⟩ (by omega)
      have st2 : (s.set p (.lst (rows (putL us as))) ++ [PO.lst (as.map fun a => .int (ix (putL us as) a))]).set p (.lst (rows (holdT (putL us as) (.of w as)))) = s.set p (.lst (rows (holdT (putL us as) (.of w as)))) ++ [.lst (as.map fun a => .int (ix (putL us as) a))] := by
        rw [List.set_append_left _ _ (by rw [List.length_set]; exact hB.lt), List.set_set]
      rw [st2, enc_of] at h2
      refine run_set (g := [.lst (as.map fun a => .int (ix (putL us as) a))]) ?_ rfl hB.lt (rows_ok _ _)
      simp only [putT]
      have g2 : (s.set p (.lst (rows (putL us as))) ++ [PO.lst (as.map fun a => .int (ix (putL us as) a))])[s.length]? = some (.lst (as.map fun a => .int (ix (putL us as) a))) := by
        have := getS0 (st := s.set p (.lst (rows (putL us as)))) (g := [PO.lst (as.map fun a => .int (ix (putL us as) a))])
        rw [List.length_set] at this
        rw [this]; rfl
      rw [List.nil_append] at h1
      simp only [Tr.pv, pvs_map] at h1
      simp only [b_Bank_put_part, methF, Tr.pv, pvs_map, seqS, ifS, setS, augS, dropS, retS, retN, nxS, bkS, ctS, asgS, subS, R.toS, R.bind, R.of, opF, unF, varF, cstF, chF, isB, asB, andT, orT, notT, andF, orF, notF, ifF, nilA, consA, tupF, lstF, cbF, callF, bmF', truT, truV, nameG, nilG, consG, tupG, List.set_cons_zero, List.set_cons_succ, List.getElem?_cons_zero, List.getElem?_cons_succ, Option.bind_some, Option.bind_none, Option.map_some, Option.map_none, List.length_cons, List.length_nil, List.cons_append, List.nil_append, List.append_nil, if_true, if_false, ite_true, ite_false, Bool.false_eq_true, reduceIte, reduceCtorEq, List.map_cons, List.map_nil, Nat.sub_self, List.replicate_succ, List.replicate_zero, Nat.reduceSub, Nat.reduceAdd, Nat.reduceLT, Nat.reduceLeDiff, Nat.reduceEqDiff, Nat.reduceMul, Nat.reducePow, Int.reduceLT, Int.reduceLE, Int.reduceAdd, Int.reduceMul, Int.reduceSub, Int.reduceNeg, Int.reduceEq, Int.reducePow, Int.reduceMod, Int.reduceDiv, Int.reduceToNat, decide_true, decide_false, and_true, true_and, and_self, Option.some.injEq, eqV, neV, eqB, scEq, t1, t2, t3, t4, t5, t6, t7, t8, t9, t10, t11, t12, t13, t14, t15, t16, idxV, at0, at1, at2, at3, at4, at5, seqAt, lstAt, lenV, isiV, typV, kb1, kb2, kb3, kb4, kb5, kb6, kb7, kb8, kb9, kb10, kb11, sizeLine_eq, Bool.not_true, forS, seqI, gdOf, h1, hB1.1, n2, tupleV, g2, h2]
theorem loop_find' {us : List Tr} {n p f : Nat} {o1 : Option PV} {P : Tr → Prop} {s : Store} (hB : BankAt s n p us)
    (ih : ∀ (x : Tr) (s : Store), BankAt s n p us → P x → x.depth ≤ f → F_Bank_find f [.ref n, x.pv] s = .ok (pos us x) s) :
    ∀ (as : List Tr) (acc : List PV) (v3 v4 : Option PV), (∀ a ∈ as, P a) → depthL as ≤ f → acc.length + as.length ≤ 1000 →
      ((∀ a ∈ as, a ∈ us) → ∃ v3' v4', forL [] (nameG 3) (b_Bank_find_s1 (F_Bank_find f)) (as.map Tr.pv) [some (.ref n), o1, some (.ref s.length), v3, v4] (s ++ [.lst acc]) = .nx [some (.ref n), o1, some (.ref s.length), v3', v4'] (s ++ [.lst (acc ++ as.map fun a => .int (ix us a))])) ∧
      (¬ (∀ a ∈ as, a ∈ us) → ∃ l, forL [] (nameG 3) (b_Bank_find_s1 (F_Bank_find f)) (as.map Tr.pv) [some (.ref n), o1, some (.ref s.length), v3, v4] (s ++ [.lst acc]) = .rt .non (s ++ [.lst l]))
  | [], acc, v3, v4, _, _, _ => by
    refine ⟨fun _ => ⟨v3, v4, ?_⟩, fun h => absurd (fun a ha => by cases ha) h⟩
    rw [List.map_nil]
    unfold forL
    rw [if_pos (gd_nil _)]
    simp
  | a :: r, acc, v3, v4, hP, hd, hc => by
    rw [depthL] at hd
    rw [List.length_cons] at hc
    have h1 := ih a (s ++ [.lst acc]) hB.app (hP a List.mem_cons_self) (by omega)
    have n1 : List.lookup ("find" : Str) [(("room" : Str), PV.int 400), ("terms", .ref p)] = none := fl3 "find" (by decide +kernel) (by decide +kernel)
    have g1 : ∀ g, (s ++ g)[n]? = some (.ins "Bank" [("room", .int 400), ("terms", .ref p)]) := fun g => getOld hB.1
    have q : acc.length < 16777216 := by omega
    have e0 : forL [] (nameG 3) (b_Bank_find_s1 (F_Bank_find f)) ((a :: r).map Tr.pv) [some (.ref n), o1, some (.ref s.length), v3, v4] (s ++ [.lst acc]) = match b_Bank_find_s1 (F_Bank_find f) [some (.ref n), o1, some (.ref s.length), some a.pv, v4] (s ++ [.lst acc]) with
        | .nx e2 s2 => forL [] (nameG 3) (b_Bank_find_s1 (F_Bank_find f)) (r.map Tr.pv) e2 s2
        | .ct e2 s2 => forL [] (nameG 3) (b_Bank_find_s1 (F_Bank_find f)) (r.map Tr.pv) e2 s2
        | .bk e2 s2 => .nx e2 s2
        | x => x := by
      rw [List.map_cons]
      conv => lhs; unfold forL
      rw [if_pos (gd_nil _)]
      rfl
    rw [e0]
    by_cases ha : a ∈ us
    · have pe : pos us a = .int (ix us a) := by unfold pos; rw [if_pos ha]
      rw [pe] at h1
      have tk : tyOk "list" (.ref s.length) (s ++ [.lst acc]) = true := by simp only [tyOk, getS0]; rfl
      have bd : b_Bank_find_s1 (F_Bank_find f) [some (.ref n), o1, some (.ref s.length), some a.pv, v4] (s ++ [.lst acc]) = .nx [some (.ref n), o1, some (.ref s.length), some a.pv, some (.int (ix us a))] (s ++ [.lst (acc ++ [.int (ix us a)])]) := by
        simp only [b_Bank_find_s1, methF, seqS, ifS, setS, augS, dropS, retS, retN, nxS, bkS, ctS, asgS, subS, R.toS, R.bind, R.of, opF, unF, varF, cstF, chF, isB, asB, andT, orT, notT, andF, orF, notF, ifF, nilA, consA, tupF, lstF, cbF, callF, bmF', truT, truV, nameG, nilG, consG, tupG, List.set_cons_zero, List.set_cons_succ, List.getElem?_cons_zero, List.getElem?_cons_succ, Option.bind_some, Option.bind_none, Option.map_some, Option.map_none, List.length_cons, List.length_nil, List.cons_append, List.nil_append, List.append_nil, if_true, if_false, ite_true, ite_false, Bool.false_eq_true, reduceIte, reduceCtorEq, List.map_cons, List.map_nil, Nat.sub_self, List.replicate_succ, List.replicate_zero, Nat.reduceSub, Nat.reduceAdd, Nat.reduceLT, Nat.reduceLeDiff, Nat.reduceEqDiff, Nat.reduceMul, Nat.reducePow, Int.reduceLT, Int.reduceLE, Int.reduceAdd, Int.reduceMul, Int.reduceSub, Int.reduceNeg, Int.reduceEq, Int.reducePow, Int.reduceMod, Int.reduceDiv, Int.reduceToNat, decide_true, decide_false, and_true, true_and, and_self, Option.some.injEq, addV, iaddV, subV, mulV, fdivV, modV, powV, negV, cmpV, isNonV, notNonV, g1, n1, h1, tk, appendV, getS0, setS0_app, sizeLine_eq, q]
      rw [bd]
      obtain ⟨k1, k2⟩ := loop_find' (o1 := o1) hB ih r (acc ++ [.int (ix us a)]) (some a.pv) (some (.int (ix us a))) (fun z hz => hP z (List.mem_cons_of_mem _ hz)) (by omega) (by rw [List.length_append, List.length_singleton]; omega)
      refine ⟨fun h => ?_, fun h => ?_⟩
      · obtain ⟨x3, x4, k⟩ := k1 fun z hz => h z (List.mem_cons_of_mem _ hz)
        refine ⟨x3, x4, ?_⟩
        simp only
        rw [k]
        simp
      · exact k2 fun z => h fun y hy => by
          rcases List.mem_cons.mp hy with rfl | hy
          · exact ha
          · exact z y hy
    · have pe : pos us a = .non := by unfold pos; rw [if_neg ha]
      rw [pe] at h1
      have bd : b_Bank_find_s1 (F_Bank_find f) [some (.ref n), o1, some (.ref s.length), some a.pv, v4] (s ++ [.lst acc]) = .rt .non (s ++ [.lst acc]) := by
        simp only [b_Bank_find_s1, methF, seqS, ifS, setS, augS, dropS, retS, retN, nxS, bkS, ctS, asgS, subS, R.toS, R.bind, R.of, opF, unF, varF, cstF, chF, isB, asB, andT, orT, notT, andF, orF, notF, ifF, nilA, consA, tupF, lstF, cbF, callF, bmF', truT, truV, nameG, nilG, consG, tupG, List.set_cons_zero, List.set_cons_succ, List.getElem?_cons_zero, List.getElem?_cons_succ, Option.bind_some, Option.bind_none, Option.map_some, Option.map_none, List.length_cons, List.length_nil, List.cons_append, List.nil_append, List.append_nil, if_true, if_false, ite_true, ite_false, Bool.false_eq_true, reduceIte, reduceCtorEq, List.map_cons, List.map_nil, Nat.sub_self, List.replicate_succ, List.replicate_zero, Nat.reduceSub, Nat.reduceAdd, Nat.reduceLT, Nat.reduceLeDiff, Nat.reduceEqDiff, Nat.reduceMul, Nat.reducePow, Int.reduceLT, Int.reduceLE, Int.reduceAdd, Int.reduceMul, Int.reduceSub, Int.reduceNeg, Int.reduceEq, Int.reducePow, Int.reduceMod, Int.reduceDiv, Int.reduceToNat, decide_true, decide_false, and_true, true_and, and_self, Option.some.injEq, addV, iaddV, subV, mulV, fdivV, modV, powV, negV, cmpV, isNonV, notNonV, g1, n1, h1]
      rw [bd]
      exact ⟨fun h => absurd (h a List.mem_cons_self) ha, fun _ => ⟨acc, rfl⟩⟩
theorem F_find {ts us : List Tr} (hT : Ok ts) (hU : Ok us) {n p : Nat} : ∀ (f : Nat) (x : Tr) (s : Store), BankAt s n p us → x ∈ ts → x.depth ≤ f → F_Bank_find f [.ref n, x.pv] s = .ok (pos us x) s := by
  intro f
  induction f with
  | zero => intro x s _ _ h; have := depth_pos x; omega
  | succ f ih =>
    intro x s hB hm hd
    have n1 : List.lookup ("place" : Str) [(("room" : Str), PV.int 400), ("terms", .ref p)] = none := fl3 "place" (by decide +kernel) (by decide +kernel)
    unfold F_Bank_find
    cases x with
    | any x => exact (hT _ hm).elim
    | num i =>
      have h := F_place (x := .num i) hB hU trivial
      refine run_rt0 ?_ (pos_pure _ _)
      simp only [enc, Tm.Tm.pv] at h
      simp only [b_Bank_find, methF, Tr.pv, seqS, ifS, setS, augS, dropS, retS, retN, nxS, bkS, ctS, asgS, subS, R.toS, R.bind, R.of, opF, unF, varF, cstF, chF, isB, asB, andT, orT, notT, andF, orF, notF, ifF, nilA, consA, tupF, lstF, cbF, callF, bmF', truT, truV, nameG, nilG, consG, tupG, List.set_cons_zero, List.set_cons_succ, List.getElem?_cons_zero, List.getElem?_cons_succ, Option.bind_some, Option.bind_none, Option.map_some, Option.map_none, List.length_cons, List.length_nil, List.cons_append, List.nil_append, List.append_nil, if_true, if_false, ite_true, ite_false, Bool.false_eq_true, reduceIte, reduceCtorEq, List.map_cons, List.map_nil, Nat.sub_self, List.replicate_succ, List.replicate_zero, Nat.reduceSub, Nat.reduceAdd, Nat.reduceLT, Nat.reduceLeDiff, Nat.reduceEqDiff, Nat.reduceMul, Nat.reducePow, Int.reduceLT, Int.reduceLE, Int.reduceAdd, Int.reduceMul, Int.reduceSub, Int.reduceNeg, Int.reduceEq, Int.reducePow, Int.reduceMod, Int.reduceDiv, Int.reduceToNat, decide_true, decide_false, and_true, true_and, and_self, Option.some.injEq, eqV, neV, eqB, scEq, t1, t2, t3, t4, t5, t6, t7, t8, t9, t10, t11, t12, t13, t14, t15, t16, idxV, at0, at1, at2, at3, at4, at5, seqAt, lstAt, lenV, isiV, typV, kb1, kb2, kb3, kb4, kb5, kb6, kb7, kb8, kb9, kb10, kb11, hB.1, n1, Bool.not_false, h]
    | name y =>
      have h := F_place (x := .name y) hB hU (show Az y from hT _ hm)
      refine run_rt0 ?_ (pos_pure _ _)
      simp only [enc, Tm.Tm.pv] at h
      simp only [b_Bank_find, methF, Tr.pv, seqS, ifS, setS, augS, dropS, retS, retN, nxS, bkS, ctS, asgS, subS, R.toS, R.bind, R.of, opF, unF, varF, cstF, chF, isB, asB, andT, orT, notT, andF, orF, notF, ifF, nilA, consA, tupF, lstF, cbF, callF, bmF', truT, truV, nameG, nilG, consG, tupG, List.set_cons_zero, List.set_cons_succ, List.getElem?_cons_zero, List.getElem?_cons_succ, Option.bind_some, Option.bind_none, Option.map_some, Option.map_none, List.length_cons, List.length_nil, List.cons_append, List.nil_append, List.append_nil, if_true, if_false, ite_true, ite_false, Bool.false_eq_true, reduceIte, reduceCtorEq, List.map_cons, List.map_nil, Nat.sub_self, List.replicate_succ, List.replicate_zero, Nat.reduceSub, Nat.reduceAdd, Nat.reduceLT, Nat.reduceLeDiff, Nat.reduceEqDiff, Nat.reduceMul, Nat.reducePow, Int.reduceLT, Int.reduceLE, Int.reduceAdd, Int.reduceMul, Int.reduceSub, Int.reduceNeg, Int.reduceEq, Int.reducePow, Int.reduceMod, Int.reduceDiv, Int.reduceToNat, decide_true, decide_false, and_true, true_and, and_self, Option.some.injEq, eqV, neV, eqB, scEq, t1, t2, t3, t4, t5, t6, t7, t8, t9, t10, t11, t12, t13, t14, t15, t16, idxV, at0, at1, at2, at3, at4, at5, seqAt, lstAt, lenV, isiV, typV, kb1, kb2, kb3, kb4, kb5, kb6, kb7, kb8, kb9, kb10, kb11, hB.1, n1, Bool.not_false, h]
    | of w as =>
      have hf : Fit ts (.of w as) := hT _ hm
      simp only [Tr.depth] at hd
      obtain ⟨k1, k2⟩ := loop_find' (P := fun x => x ∈ ts) (o1 := some (Tr.of w as).pv) hB (fun x s hB hx hd => ih x s hB hx hd) as [] none none hf.2.2 (by omega) (by have := hf.2.1; simp only [List.length_nil]; omega)
      by_cases hall : ∀ a ∈ as, a ∈ us
      · obtain ⟨v3, v4, h1⟩ := k1 hall
        have hB1 : BankAt (s ++ [.lst (as.map fun a => .int (ix us a))]) n p us := hB.app
        have h := F_place (x := .of w as) hB1 hU ⟨hf.1, hf.2.1, hall⟩
        rw [enc_of] at h
        refine run_rt (g := [.lst (as.map fun a => .int (ix us a))]) ?_ (pos_pure _ _)
        rw [List.nil_append] at h1
        simp only [Tr.pv, pvs_map] at h1
        simp only [b_Bank_find, methF, Tr.pv, pvs_map, seqS, ifS, setS, augS, dropS, retS, retN, nxS, bkS, ctS, asgS, subS, R.toS, R.bind, R.of, opF, unF, varF, cstF, chF, isB, asB, andT, orT, notT, andF, orF, notF, ifF, nilA, consA, tupF, lstF, cbF, callF, bmF', truT, truV, nameG, nilG, consG, tupG, List.set_cons_zero, List.set_cons_succ, List.getElem?_cons_zero, List.getElem?_cons_succ, Option.bind_some, Option.bind_none, Option.map_some, Option.map_none, List.length_cons, List.length_nil, List.cons_append, List.nil_append, List.append_nil, if_true, if_false, ite_true, ite_false, Bool.false_eq_true, reduceIte, reduceCtorEq, List.map_cons, List.map_nil, Nat.sub_self, List.replicate_succ, List.replicate_zero, Nat.reduceSub, Nat.reduceAdd, Nat.reduceLT, Nat.reduceLeDiff, Nat.reduceEqDiff, Nat.reduceMul, Nat.reducePow, Int.reduceLT, Int.reduceLE, Int.reduceAdd, Int.reduceMul, Int.reduceSub, Int.reduceNeg, Int.reduceEq, Int.reducePow, Int.reduceMod, Int.reduceDiv, Int.reduceToNat, decide_true, decide_false, and_true, true_and, and_self, Option.some.injEq, eqV, neV, eqB, scEq, t1, t2, t3, t4, t5, t6, t7, t8, t9, t10, t11, t12, t13, t14, t15, t16, idxV, at0, at1, at2, at3, at4, at5, seqAt, lstAt, lenV, isiV, typV, kb1, kb2, kb3, kb4, kb5, kb6, kb7, kb8, kb9, kb10, kb11, sizeLine_eq, Bool.not_true, forS, seqI, gdOf, h1, hB1.1, n1, tupleV, getS0, h]
      · obtain ⟨l, h1⟩ := k2 hall
        have hx : Tr.of w as ∉ us := fun z => hall (show Fit us (.of w as) from hU _ z).2.2
        have pe : pos us (.of w as) = .non := by unfold pos; rw [if_neg hx]
        rw [pe]
        refine run_rt (g := [.lst l]) ?_ rfl
        simp only [Tr.pv, pvs_map] at h1
        simp only [b_Bank_find, methF, Tr.pv, pvs_map, seqS, ifS, setS, augS, dropS, retS, retN, nxS, bkS, ctS, asgS, subS, R.toS, R.bind, R.of, opF, unF, varF, cstF, chF, isB, asB, andT, orT, notT, andF, orF, notF, ifF, nilA, consA, tupF, lstF, cbF, callF, bmF', truT, truV, nameG, nilG, consG, tupG, List.set_cons_zero, List.set_cons_succ, List.getElem?_cons_zero, List.getElem?_cons_succ, Option.bind_some, Option.bind_none, Option.map_some, Option.map_none, List.length_cons, List.length_nil, List.cons_append, List.nil_append, List.append_nil, if_true, if_false, ite_true, ite_false, Bool.false_eq_true, reduceIte, reduceCtorEq, List.map_cons, List.map_nil, Nat.sub_self, List.replicate_succ, List.replicate_zero, Nat.reduceSub, Nat.reduceAdd, Nat.reduceLT, Nat.reduceLeDiff, Nat.reduceEqDiff, Nat.reduceMul, Nat.reducePow, Int.reduceLT, Int.reduceLE, Int.reduceAdd, Int.reduceMul, Int.reduceSub, Int.reduceNeg, Int.reduceEq, Int.reducePow, Int.reduceMod, Int.reduceDiv, Int.reduceToNat, decide_true, decide_false, and_true, true_and, and_self, Option.some.injEq, eqV, neV, eqB, scEq, t1, t2, t3, t4, t5, t6, t7, t8, t9, t10, t11, t12, t13, t14, t15, t16, idxV, at0, at1, at2, at3, at4, at5, seqAt, lstAt, lenV, isiV, typV, kb1, kb2, kb3, kb4, kb5, kb6, kb7, kb8, kb9, kb10, kb11, sizeLine_eq, Bool.not_true, forS, seqI, gdOf, h1]
/-! ### the law's own list -/
theorem any_pos (us : List Tr) : ∀ as : List Tr, ((as.map (pos us)).any fun y => eqP y .non) = decide (¬ ∀ a ∈ as, a ∈ us)
  | [] => by simp
  | a :: r => by
    rw [List.map_cons, List.any_cons, any_pos us r]
    unfold pos
    by_cases h : a ∈ us
    · rw [if_pos h]
      have : eqP (.int (ix us a)) .non = false := rfl
      rw [this, Bool.false_or]
      congr 1
      simp [h]
    · rw [if_neg h]
      have : eqP .non .non = true := rfl
      rw [this, Bool.true_or]
      symm
      rw [decide_eq_true_eq]
      exact fun z => h (z a List.mem_cons_self)
theorem F_lfind {ts us : List Tr} (hT : Ok ts) (hU : Ok us) (hl : us.length ≤ 1000) {r : Nat} : ∀ (f : Nat) (x : Tr) (s : Store), s[r]? = some (.lst (rows us)) → x ∈ ts → x.depth ≤ f → F_L_find f [.ref r, x.pv] s = .ok (pos us x) s := by
  intro f
  induction f with
  | zero => intro x s _ _ h; have := depth_pos x; omega
  | succ f ih =>
    intro x s hB hm hd
    unfold F_L_find
    cases x with
    | any x => exact (hT _ hm).elim
    | num i =>
      have h := F_held (x := .num i) hB hU trivial hl
      refine run_rt0 ?_ (pos_pure _ _)
      simp only [enc, Tm.Tm.pv] at h
      simp only [b_L_find, Tr.pv, seqS, ifS, setS, augS, dropS, retS, retN, nxS, bkS, ctS, asgS, subS, R.toS, R.bind, R.of, opF, unF, varF, cstF, chF, isB, asB, andT, orT, notT, andF, orF, notF, ifF, nilA, consA, tupF, lstF, cbF, callF, bmF', truT, truV, nameG, nilG, consG, tupG, List.set_cons_zero, List.set_cons_succ, List.getElem?_cons_zero, List.getElem?_cons_succ, Option.bind_some, Option.bind_none, Option.map_some, Option.map_none, List.length_cons, List.length_nil, List.cons_append, List.nil_append, List.append_nil, if_true, if_false, ite_true, ite_false, Bool.false_eq_true, reduceIte, reduceCtorEq, List.map_cons, List.map_nil, Nat.sub_self, List.replicate_succ, List.replicate_zero, Nat.reduceSub, Nat.reduceAdd, Nat.reduceLT, Nat.reduceLeDiff, Nat.reduceEqDiff, Nat.reduceMul, Nat.reducePow, Int.reduceLT, Int.reduceLE, Int.reduceAdd, Int.reduceMul, Int.reduceSub, Int.reduceNeg, Int.reduceEq, Int.reducePow, Int.reduceMod, Int.reduceDiv, Int.reduceToNat, decide_true, decide_false, and_true, true_and, and_self, Option.some.injEq, eqV, neV, eqB, scEq, t1, t2, t3, t4, t5, t6, t7, t8, t9, t10, t11, t12, t13, t14, t15, t16, idxV, at0, at1, at2, at3, at4, at5, seqAt, lstAt, lenV, isiV, typV, kb1, kb2, kb3, kb4, kb5, kb6, kb7, kb8, kb9, kb10, kb11, Bool.not_false, h]
    | name y =>
      have h := F_held (x := .name y) hB hU (show Az y from hT _ hm) hl
      refine run_rt0 ?_ (pos_pure _ _)
      simp only [enc, Tm.Tm.pv] at h
      simp only [b_L_find, Tr.pv, seqS, ifS, setS, augS, dropS, retS, retN, nxS, bkS, ctS, asgS, subS, R.toS, R.bind, R.of, opF, unF, varF, cstF, chF, isB, asB, andT, orT, notT, andF, orF, notF, ifF, nilA, consA, tupF, lstF, cbF, callF, bmF', truT, truV, nameG, nilG, consG, tupG, List.set_cons_zero, List.set_cons_succ, List.getElem?_cons_zero, List.getElem?_cons_succ, Option.bind_some, Option.bind_none, Option.map_some, Option.map_none, List.length_cons, List.length_nil, List.cons_append, List.nil_append, List.append_nil, if_true, if_false, ite_true, ite_false, Bool.false_eq_true, reduceIte, reduceCtorEq, List.map_cons, List.map_nil, Nat.sub_self, List.replicate_succ, List.replicate_zero, Nat.reduceSub, Nat.reduceAdd, Nat.reduceLT, Nat.reduceLeDiff, Nat.reduceEqDiff, Nat.reduceMul, Nat.reducePow, Int.reduceLT, Int.reduceLE, Int.reduceAdd, Int.reduceMul, Int.reduceSub, Int.reduceNeg, Int.reduceEq, Int.reducePow, Int.reduceMod, Int.reduceDiv, Int.reduceToNat, decide_true, decide_false, and_true, true_and, and_self, Option.some.injEq, eqV, neV, eqB, scEq, t1, t2, t3, t4, t5, t6, t7, t8, t9, t10, t11, t12, t13, t14, t15, t16, idxV, at0, at1, at2, at3, at4, at5, seqAt, lstAt, lenV, isiV, typV, kb1, kb2, kb3, kb4, kb5, kb6, kb7, kb8, kb9, kb10, kb11, Bool.not_false, h]
    | of w as =>
      have hf : Fit ts (.of w as) := hT _ hm
      simp only [Tr.depth] at hd
      have lc := lcT (i := 0) (k := 3) (fi := opF idxV (varF 1) (cstF (.int 2))) (fe := b_L_find_e1 (F_L_find f)) (e := [some (.ref r), some (Tr.of w as).pv, none, none]) (s := s) as Tr.pv (pos us) (by simp only [Tr.pv, pvs_map, seqS, ifS, setS, augS, dropS, retS, retN, nxS, bkS, ctS, asgS, subS, R.toS, R.bind, R.of, opF, unF, varF, cstF, chF, isB, asB, andT, orT, notT, andF, orF, notF, ifF, nilA, consA, tupF, lstF, cbF, callF, bmF', truT, truV, nameG, nilG, consG, tupG, List.set_cons_zero, List.set_cons_succ, List.getElem?_cons_zero, List.getElem?_cons_succ, Option.bind_some, Option.bind_none, Option.map_some, Option.map_none, List.length_cons, List.length_nil, List.cons_append, List.nil_append, List.append_nil, if_true, if_false, ite_true, ite_false, Bool.false_eq_true, reduceIte, reduceCtorEq, List.map_cons, List.map_nil, Nat.sub_self, List.replicate_succ, List.replicate_zero, Nat.reduceSub, Nat.reduceAdd, Nat.reduceLT, Nat.reduceLeDiff, Nat.reduceEqDiff, Nat.reduceMul, Nat.reducePow, Int.reduceLT, Int.reduceLE, Int.reduceAdd, Int.reduceMul, Int.reduceSub, Int.reduceNeg, Int.reduceEq, Int.reducePow, Int.reduceMod, Int.reduceDiv, Int.reduceToNat, decide_true, decide_false, and_true, true_and, and_self, Option.some.injEq, idxV, at0, at1, at2, at3, at4, at5, seqAt, lstAt, lenV, isiV, typV, kb1, kb2, kb3, kb4, kb5, kb6, kb7, kb8, kb9, kb10, kb11]) (by have := hf.2.1; omega) (fun a ha acc => by
        have := ih a (s ++ [.lst acc]) (getOld hB) (hf.2.2 a ha) (Nat.le_trans (depthL_le ha) (by omega))
        simp only [b_L_find_e1, wipeE, seqS, ifS, setS, augS, dropS, retS, retN, nxS, bkS, ctS, asgS, subS, R.toS, R.bind, R.of, opF, unF, varF, cstF, chF, isB, asB, andT, orT, notT, andF, orF, notF, ifF, nilA, consA, tupF, lstF, cbF, callF, bmF', truT, truV, nameG, nilG, consG, tupG, List.set_cons_zero, List.set_cons_succ, List.getElem?_cons_zero, List.getElem?_cons_succ, Option.bind_some, Option.bind_none, Option.map_some, Option.map_none, List.length_cons, List.length_nil, List.cons_append, List.nil_append, List.append_nil, if_true, if_false, ite_true, ite_false, Bool.false_eq_true, reduceIte, reduceCtorEq, List.map_cons, List.map_nil, Nat.sub_self, List.replicate_succ, List.replicate_zero, Nat.reduceSub, Nat.reduceAdd, Nat.reduceLT, Nat.reduceLeDiff, Nat.reduceEqDiff, Nat.reduceMul, Nat.reducePow, Int.reduceLT, Int.reduceLE, Int.reduceAdd, Int.reduceMul, Int.reduceSub, Int.reduceNeg, Int.reduceEq, Int.reducePow, Int.reduceMod, Int.reduceDiv, Int.reduceToNat, decide_true, decide_false, and_true, true_and, and_self, Option.some.injEq, this])
      simp only [Tr.pv, pvs_map] at lc
      have fl : (as.map (pos us)).all flatP = true := by
        rw [List.all_map, List.all_eq_true]
        intro a _
        simp only [Function.comp, pos]
        split <;> rfl
      have hin : inV .non (.ref s.length) (s ++ [.lst (as.map (pos us))]) = some (.bl (decide (¬ ∀ a ∈ as, a ∈ us)), s ++ [.lst (as.map (pos us))]) := by
        have f1 : flatP .non = true := rfl
        simp only [inV, inB, seqAt, lstAt, getS0, List.getElem?_cons_zero, f1, fl, and_self, if_true, any_pos, Option.map_some]
      by_cases hall : ∀ a ∈ as, a ∈ us
      · rw [decide_eq_false fun q => q hall] at hin
        have ps : as.map (pos us) = as.map fun a => .int (ix us a) := List.map_congr_left fun a ha => by unfold pos; rw [if_pos (hall a ha)]
        have h := F_held (x := .of w as) (s := s ++ [.lst (as.map (pos us))]) (getOld hB) hU ⟨hf.1, hf.2.1, hall⟩ hl
        rw [enc_of] at h
        refine run_rt (g := [.lst (as.map (pos us))]) ?_ (pos_pure _ _)
        rw [ps] at lc hin h ⊢
        simp only [b_L_find, Tr.pv, pvs_map, seqS, ifS, setS, augS, dropS, retS, retN, nxS, bkS, ctS, asgS, subS, R.toS, R.bind, R.of, opF, unF, varF, cstF, chF, isB, asB, andT, orT, notT, andF, orF, notF, ifF, nilA, consA, tupF, lstF, cbF, callF, bmF', truT, truV, nameG, nilG, consG, tupG, List.set_cons_zero, List.set_cons_succ, List.getElem?_cons_zero, List.getElem?_cons_succ, Option.bind_some, Option.bind_none, Option.map_some, Option.map_none, List.length_cons, List.length_nil, List.cons_append, List.nil_append, List.append_nil, if_true, if_false, ite_true, ite_false, Bool.false_eq_true, reduceIte, reduceCtorEq, List.map_cons, List.map_nil, Nat.sub_self, List.replicate_succ, List.replicate_zero, Nat.reduceSub, Nat.reduceAdd, Nat.reduceLT, Nat.reduceLeDiff, Nat.reduceEqDiff, Nat.reduceMul, Nat.reducePow, Int.reduceLT, Int.reduceLE, Int.reduceAdd, Int.reduceMul, Int.reduceSub, Int.reduceNeg, Int.reduceEq, Int.reducePow, Int.reduceMod, Int.reduceDiv, Int.reduceToNat, decide_true, decide_false, and_true, true_and, and_self, Option.some.injEq, eqV, neV, eqB, scEq, t1, t2, t3, t4, t5, t6, t7, t8, t9, t10, t11, t12, t13, t14, t15, t16, idxV, at0, at1, at2, at3, at4, at5, seqAt, lstAt, lenV, isiV, typV, kb1, kb2, kb3, kb4, kb5, kb6, kb7, kb8, kb9, kb10, kb11, sizeLine_eq, Bool.not_true, lc, hin, tupleV, getS0, h]
      · rw [decide_eq_true hall] at hin
        have hx : Tr.of w as ∉ us := fun z => hall (show Fit us (.of w as) from hU _ z).2.2
        have pe : pos us (.of w as) = .non := by unfold pos; rw [if_neg hx]
        rw [pe]
        refine run_rt (g := [.lst (as.map (pos us))]) ?_ rfl
        simp only [b_L_find, Tr.pv, pvs_map, seqS, ifS, setS, augS, dropS, retS, retN, nxS, bkS, ctS, asgS, subS, R.toS, R.bind, R.of, opF, unF, varF, cstF, chF, isB, asB, andT, orT, notT, andF, orF, notF, ifF, nilA, consA, tupF, lstF, cbF, callF, bmF', truT, truV, nameG, nilG, consG, tupG, List.set_cons_zero, List.set_cons_succ, List.getElem?_cons_zero, List.getElem?_cons_succ, Option.bind_some, Option.bind_none, Option.map_some, Option.map_none, List.length_cons, List.length_nil, List.cons_append, List.nil_append, List.append_nil, if_true, if_false, ite_true, ite_false, Bool.false_eq_true, reduceIte, reduceCtorEq, List.map_cons, List.map_nil, Nat.sub_self, List.replicate_succ, List.replicate_zero, Nat.reduceSub, Nat.reduceAdd, Nat.reduceLT, Nat.reduceLeDiff, Nat.reduceEqDiff, Nat.reduceMul, Nat.reducePow, Int.reduceLT, Int.reduceLE, Int.reduceAdd, Int.reduceMul, Int.reduceSub, Int.reduceNeg, Int.reduceEq, Int.reducePow, Int.reduceMod, Int.reduceDiv, Int.reduceToNat, decide_true, decide_false, and_true, true_and, and_self, Option.some.injEq, eqV, neV, eqB, scEq, t1, t2, t3, t4, t5, t6, t7, t8, t9, t10, t11, t12, t13, t14, t15, t16, idxV, at0, at1, at2, at3, at4, at5, seqAt, lstAt, lenV, isiV, typV, kb1, kb2, kb3, kb4, kb5, kb6, kb7, kb8, kb9, kb10, kb11, sizeLine_eq, Bool.not_true, lc, hin]
/-- the comprehension that puts the arms -/
theorem lc_put {ts : List Tr} (hT : Ok ts) {r f : Nat} {e0 : Env} {o1 : Option PV} (h0 : e0 = [some (.ref r), o1, none])
    (ih : ∀ (us : List Tr) (x : Tr) (s : Store), s[r]? = some (.lst (rows us)) → Ok us → (∀ u ∈ us, u ∈ ts) → us.Nodup → x ∈ ts → x.depth ≤ f → F_L_put f [.ref r, x.pv] s = .ok (.int (ix (putT us x) x)) (s.set r (.lst (rows (putT us x))))) :
    ∀ (as us : List Tr) (acc : List PV) (s : Store), s[r]? = some (.lst (rows us)) → Ok us → (∀ u ∈ us, u ∈ ts) → us.Nodup → (∀ a ∈ as, a ∈ ts) → depthL as ≤ f → acc.length + as.length ≤ 1000 →
      lcL [] (nameG 2) yesT (b_L_put_e1 (F_L_put f)) s.length e0 (as.map Tr.pv) (s ++ [.lst acc]) = some (.ref s.length, s.set r (.lst (rows (putL us as))) ++ [.lst (acc ++ as.map fun a => .int (ix (putL us as) a))])
  | [], us, acc, s, hB, _, _, _, _, _, _ => by
    rw [List.map_nil]
    unfold lcL
    rw [if_pos (gd_nil _)]
    simp only [putL, set_same hB, List.map_nil, List.append_nil]
  | a :: q, us, acc, s, hB, hU, hs, hn, hm, hd, hc => by
    have rl : r < s.length := (List.getElem?_eq_some_iff.mp hB).1
    obtain ⟨k1, k2⟩ := put_step hT us a hU hs hn (hm a List.mem_cons_self)
    obtain ⟨k3, k4⟩ := putL_step hT (putT us a) q k1.ok k1.sub k1.nd fun z hz => hm z (List.mem_cons_of_mem _ hz)
    rw [depthL] at hd
    rw [List.length_cons] at hc
    have h1 := ih us a (s ++ [.lst acc]) (getOld hB) hU hs hn (hm a List.mem_cons_self) (by omega)
    have st1 : (s ++ [PO.lst acc]).set r (.lst (rows (putT us a))) = s.set r (.lst (rows (putT us a))) ++ [.lst acc] := List.set_append_left _ _ rl
    rw [st1] at h1
    have g2 : ∀ a b : PO, (s.set r a ++ [b])[s.length]? = some b := fun a b => by
      have := getS0 (st := s.set r a) (g := [b])
      rw [List.length_set] at this
      rw [this]; rfl
    have g3 : ∀ a b c : PO, (s.set r a ++ [b]).set s.length c = s.set r a ++ [c] := fun a b c => by
      have := setS0_app (st := s.set r a) (g := [b]) (o := c)
      rw [List.length_set] at this
      rw [this]; rfl
    have h2 := lc_put hT h0 ih q (putT us a) (acc ++ [.int (ix (putT us a) a)]) (s.set r (.lst (rows (putT us a)))) (List.getElem?_set_self rl) k1.ok k1.sub k1.nd (fun z hz => hm z (List.mem_cons_of_mem _ hz)) (by omega) (by rw [List.length_append, List.length_singleton]; omega)
    rw [List.length_set, List.set_set] at h2
    have fe : b_L_put_e1 (F_L_put f) [some (.ref r), o1, some a.pv] (s ++ [.lst acc]) = .ok (.int (ix (putT us a) a)) (s.set r (.lst (rows (putT us a))) ++ [.lst acc]) := by
      simp only [b_L_put_e1, seqS, ifS, setS, augS, dropS, retS, retN, nxS, bkS, ctS, asgS, subS, R.toS, R.bind, R.of, opF, unF, varF, cstF, chF, isB, asB, andT, orT, notT, andF, orF, notF, ifF, nilA, consA, tupF, lstF, cbF, callF, bmF', truT, truV, nameG, nilG, consG, tupG, List.set_cons_zero, List.set_cons_succ, List.getElem?_cons_zero, List.getElem?_cons_succ, Option.bind_some, Option.bind_none, Option.map_some, Option.map_none, List.length_cons, List.length_nil, List.cons_append, List.nil_append, List.append_nil, if_true, if_false, ite_true, ite_false, Bool.false_eq_true, reduceIte, reduceCtorEq, List.map_cons, List.map_nil, Nat.sub_self, List.replicate_succ, List.replicate_zero, Nat.reduceSub, Nat.reduceAdd, Nat.reduceLT, Nat.reduceLeDiff, Nat.reduceEqDiff, Nat.reduceMul, Nat.reducePow, Int.reduceLT, Int.reduceLE, Int.reduceAdd, Int.reduceMul, Int.reduceSub, Int.reduceNeg, Int.reduceEq, Int.reducePow, Int.reduceMod, Int.reduceDiv, Int.reduceToNat, decide_true, decide_false, and_true, true_and, and_self, Option.some.injEq, h1]
    rw [List.map_cons]
    unfold lcL
    subst h0
    rw [if_pos (gd_nil _), show nameG 2 a.pv [some (.ref r), o1, none] = some [some (.ref r), o1, some a.pv] from rfl]
    simp only [yesT]
    rw [fe]
    simp only
    rw [g2]
    simp only
    rw [if_pos (by rw [sizeLine_eq]; omega), g3, h2]
    simp only [putL, List.map_cons]
    rw [k3.ix k2]
    simp
theorem F_lput {ts : List Tr} (hT : Ok ts) (hl : ts.length ≤ 300) {r : Nat} : ∀ (f : Nat) (us : List Tr) (x : Tr) (s : Store), s[r]? = some (.lst (rows us)) → Ok us → (∀ u ∈ us, u ∈ ts) → us.Nodup → x ∈ ts → x.depth ≤ f → F_L_put f [.ref r, x.pv] s = .ok (.int (ix (putT us x) x)) (s.set r (.lst (rows (putT us x)))) := by
  intro f
  induction f with
  | zero => intro us x s _ _ _ _ _ h; have := depth_pos x; omega
  | succ f ih =>
    intro us x s hB hU hs hn hm hd
    have rl : r < s.length := (List.getElem?_eq_some_iff.mp hB).1
    have ul := nd_len hn hs
    -- the last steps, from a list that holds the arms
    have fin : ∀ (us : List Tr) (g : Store) (o2 : Option PV), Ok us → us.length ≤ 300 → Fit us x → (seqS (ifS (isB (opF isNonV (callF 2 F_L_held [] (consA (varF 0) (consA (varF 1) nilA))) (cstF .non))) (dropS (bmF' "list" appendV (varF 0) (consA (varF 1) nilA))) nxS)
        (retS (callF 2 F_L_held [] (consA (varF 0) (consA (varF 1) nilA))))) [some (.ref r), some (enc us x).pv, o2] (s.set r (.lst (rows us)) ++ g) = .rt (.int (ix (holdT us x) x)) (s.set r (.lst (rows (holdT us x))) ++ g) := fun us g o2 hU ul hx => by
      have g1 : (s.set r (.lst (rows us)) ++ g)[r]? = some (.lst (rows us)) := getOld (List.getElem?_set_self rl)
      have h1 := F_held g1 hU hx (by omega)
      unfold holdT
      by_cases h : x ∈ us
      · rw [if_pos h]
        have pe : pos us x = .int (ix us x) := by unfold pos; rw [if_pos h]
        rw [pe] at h1
        simp only [seqS, ifS, setS, augS, dropS, retS, retN, nxS, bkS, ctS, asgS, subS, R.toS, R.bind, R.of, opF, unF, varF, cstF, chF, isB, asB, andT, orT, notT, andF, orF, notF, ifF, nilA, consA, tupF, lstF, cbF, callF, bmF', truT, truV, nameG, nilG, consG, tupG, List.set_cons_zero, List.set_cons_succ, List.getElem?_cons_zero, List.getElem?_cons_succ, Option.bind_some, Option.bind_none, Option.map_some, Option.map_none, List.length_cons, List.length_nil, List.cons_append, List.nil_append, List.append_nil, if_true, if_false, ite_true, ite_false, Bool.false_eq_true, reduceIte, reduceCtorEq, List.map_cons, List.map_nil, Nat.sub_self, List.replicate_succ, List.replicate_zero, Nat.reduceSub, Nat.reduceAdd, Nat.reduceLT, Nat.reduceLeDiff, Nat.reduceEqDiff, Nat.reduceMul, Nat.reducePow, Int.reduceLT, Int.reduceLE, Int.reduceAdd, Int.reduceMul, Int.reduceSub, Int.reduceNeg, Int.reduceEq, Int.reducePow, Int.reduceMod, Int.reduceDiv, Int.reduceToNat, decide_true, decide_false, and_true, true_and, and_self, Option.some.injEq, addV, iaddV, subV, mulV, fdivV, modV, powV, negV, cmpV, isNonV, notNonV, h1]
      · rw [if_neg h]
        have pe : pos us x = .non := by unfold pos; rw [if_neg h]
        rw [pe] at h1
        have st1 : (s.set r (.lst (rows us)) ++ g).set r (.lst (rows us ++ [(enc us x).pv])) = s.set r (.lst (rows us ++ [(enc us x).pv])) ++ g := by
          rw [List.set_append_left _ _ (by rw [List.length_set]; exact rl), List.set_set]
        have g2 : (s.set r (.lst (rows (us ++ [x]))) ++ g)[r]? = some (.lst (rows (us ++ [x]))) := getOld (List.getElem?_set_self rl)
        have h2 := F_held g2 (hU.app hx) (hx.app fun z hz => List.mem_append_left _ hz) (by rw [List.length_append, List.length_singleton]; omega)
        have pe2 : pos (us ++ [x]) x = .int (ix (us ++ [x]) x) := by unfold pos; rw [if_pos (List.mem_append_right _ List.mem_cons_self)]
        rw [pe2, enc_app hx, rows_app hU hx] at h2
        rw [rows_app hU hx]
        have q : (rows us).length < 16777216 := by rw [rows_len]; omega
        simp only [seqS, ifS, setS, augS, dropS, retS, retN, nxS, bkS, ctS, asgS, subS, R.toS, R.bind, R.of, opF, unF, varF, cstF, chF, isB, asB, andT, orT, notT, andF, orF, notF, ifF, nilA, consA, tupF, lstF, cbF, callF, bmF', truT, truV, nameG, nilG, consG, tupG, List.set_cons_zero, List.set_cons_succ, List.getElem?_cons_zero, List.getElem?_cons_succ, Option.bind_some, Option.bind_none, Option.map_some, Option.map_none, List.length_cons, List.length_nil, List.cons_append, List.nil_append, List.append_nil, if_true, if_false, ite_true, ite_false, Bool.false_eq_true, reduceIte, reduceCtorEq, List.map_cons, List.map_nil, Nat.sub_self, List.replicate_succ, List.replicate_zero, Nat.reduceSub, Nat.reduceAdd, Nat.reduceLT, Nat.reduceLeDiff, Nat.reduceEqDiff, Nat.reduceMul, Nat.reducePow, Int.reduceLT, Int.reduceLE, Int.reduceAdd, Int.reduceMul, Int.reduceSub, Int.reduceNeg, Int.reduceEq, Int.reducePow, Int.reduceMod, Int.reduceDiv, Int.reduceToNat, decide_true, decide_false, and_true, true_and, and_self, Option.some.injEq, addV, iaddV, subV, mulV, fdivV, modV, powV, negV, cmpV, isNonV, notNonV, h1, tyOk, g1, beq_self_eq_true, appendV, sizeLine_eq, q, st1, h2]
    unfold F_L_put
    cases x with
    | any x => exact (hT _ hm).elim
    | num i =>
      have h := fin us [] none hU (by omega) trivial
      rw [List.append_nil, List.append_nil, set_same hB] at h
      simp only [enc, Tm.Tm.pv] at h
      refine run_set (g := []) ?_ rfl rl (rows_ok _ _)
      rw [List.append_nil]
      unfold b_L_put
      simp only [putT]
      refine (seqS_nx (e1 := [some (.ref r), some (.tup [.str "num", .int i]), none]) (s1 := s) (by simp only [Tr.pv, seqS, ifS, setS, augS, dropS, retS, retN, nxS, bkS, ctS, asgS, subS, R.toS, R.bind, R.of, opF, unF, varF, cstF, chF, isB, asB, andT, orT, notT, andF, orF, notF, ifF, nilA, consA, tupF, lstF, cbF, callF, bmF', truT, truV, nameG, nilG, consG, tupG, List.set_cons_zero, List.set_cons_succ, List.getElem?_cons_zero, List.getElem?_cons_succ, Option.bind_some, Option.bind_none, Option.map_some, Option.map_none, List.length_cons, List.length_nil, List.cons_append, List.nil_append, List.append_nil, if_true, if_false, ite_true, ite_false, Bool.false_eq_true, reduceIte, reduceCtorEq, List.map_cons, List.map_nil, Nat.sub_self, List.replicate_succ, List.replicate_zero, Nat.reduceSub, Nat.reduceAdd, Nat.reduceLT, Nat.reduceLeDiff, Nat.reduceEqDiff, Nat.reduceMul, Nat.reducePow, Int.reduceLT, Int.reduceLE, Int.reduceAdd, Int.reduceMul, Int.reduceSub, Int.reduceNeg, Int.reduceEq, Int.reducePow, Int.reduceMod, Int.reduceDiv, Int.reduceToNat, decide_true, decide_false, and_true, true_and, and_self, Option.some.injEq, eqV, neV, eqB, scEq, t1, t2, t3, t4, t5, t6, t7, t8, t9, t10, t11, t12, t13, t14, t15, t16, idxV, at0, at1, at2, at3, at4, at5, seqAt, lstAt, lenV, isiV, typV, kb1, kb2, kb3, kb4, kb5, kb6, kb7, kb8, kb9, kb10, kb11])).trans h
    | name y =>
      have h := fin us [] none hU (by omega) (show Az y from hT _ hm)
      rw [List.append_nil, List.append_nil, set_same hB] at h
      simp only [enc, Tm.Tm.pv] at h
      refine run_set (g := []) ?_ rfl rl (rows_ok _ _)
      rw [List.append_nil]
      unfold b_L_put
      simp only [putT]
      refine (seqS_nx (e1 := [some (.ref r), some (.tup [.str "name", .str y]), none]) (s1 := s) (by simp only [Tr.pv, seqS, ifS, setS, augS, dropS, retS, retN, nxS, bkS, ctS, asgS, subS, R.toS, R.bind, R.of, opF, unF, varF, cstF, chF, isB, asB, andT, orT, notT, andF, orF, notF, ifF, nilA, consA, tupF, lstF, cbF, callF, bmF', truT, truV, nameG, nilG, consG, tupG, List.set_cons_zero, List.set_cons_succ, List.getElem?_cons_zero, List.getElem?_cons_succ, Option.bind_some, Option.bind_none, Option.map_some, Option.map_none, List.length_cons, List.length_nil, List.cons_append, List.nil_append, List.append_nil, if_true, if_false, ite_true, ite_false, Bool.false_eq_true, reduceIte, reduceCtorEq, List.map_cons, List.map_nil, Nat.sub_self, List.replicate_succ, List.replicate_zero, Nat.reduceSub, Nat.reduceAdd, Nat.reduceLT, Nat.reduceLeDiff, Nat.reduceEqDiff, Nat.reduceMul, Nat.reducePow, Int.reduceLT, Int.reduceLE, Int.reduceAdd, Int.reduceMul, Int.reduceSub, Int.reduceNeg, Int.reduceEq, Int.reducePow, Int.reduceMod, Int.reduceDiv, Int.reduceToNat, decide_true, decide_false, and_true, true_and, and_self, Option.some.injEq, eqV, neV, eqB, scEq, t1, t2, t3, t4, t5, t6, t7, t8, t9, t10, t11, t12, t13, t14, t15, t16, idxV, at0, at1, at2, at3, at4, at5, seqAt, lstAt, lenV, isiV, typV, kb1, kb2, kb3, kb4, kb5, kb6, kb7, kb8, kb9, kb10, kb11])).trans h
    | of w as =>
      have hf : Fit ts (.of w as) := hT _ hm
      simp only [Tr.depth] at hd
      obtain ⟨k1, k2⟩ := putL_step hT us as hU hs hn hf.2.2
      have l1 := nd_len k1.nd k1.sub
      have lc0 := lc_put hT (r := r) (f := f) (o1 := some (Tr.of w as).pv) rfl ih as us [] s hB hU hs hn hf.2.2 (by omega) (by have := hf.2.1; simp only [List.length_nil]; omega)
      have lc : lcF (seqI (opF idxV (varF 1) (cstF (.int 2)))) [2] (nameG 2) yesT (b_L_put_e1 (F_L_put f)) [some (.ref r), some (Tr.of w as).pv, none] s = .ok (.ref s.length) (s.set r (.lst (rows (putL us as))) ++ [.lst (as.map fun a => .int (ix (putL us as) a))]) := by
        unfold lcF
        have hi : seqI (opF idxV (varF 1) (cstF (.int 2))) [some (.ref r), some (Tr.of w as).pv, none] s = .ok ⟨as.map Tr.pv, []⟩ s := by simp only [Tr.pv, pvs_map, seqI, seqS, ifS, setS, augS, dropS, retS, retN, nxS, bkS, ctS, asgS, subS, R.toS, R.bind, R.of, opF, unF, varF, cstF, chF, isB, asB, andT, orT, notT, andF, orF, notF, ifF, nilA, consA, tupF, lstF, cbF, callF, bmF', truT, truV, nameG, nilG, consG, tupG, List.set_cons_zero, List.set_cons_succ, List.getElem?_cons_zero, List.getElem?_cons_succ, Option.bind_some, Option.bind_none, Option.map_some, Option.map_none, List.length_cons, List.length_nil, List.cons_append, List.nil_append, List.append_nil, if_true, if_false, ite_true, ite_false, Bool.false_eq_true, reduceIte, reduceCtorEq, List.map_cons, List.map_nil, Nat.sub_self, List.replicate_succ, List.replicate_zero, Nat.reduceSub, Nat.reduceAdd, Nat.reduceLT, Nat.reduceLeDiff, Nat.reduceEqDiff, Nat.reduceMul, Nat.reducePow, Int.reduceLT, Int.reduceLE, Int.reduceAdd, Int.reduceMul, Int.reduceSub, Int.reduceNeg, Int.reduceEq, Int.reducePow, Int.reduceMod, Int.reduceDiv, Int.reduceToNat, decide_true, decide_false, and_true, true_and, and_self, Option.some.injEq, idxV, at0, at1, at2, at3, at4, at5, seqAt, lstAt, lenV, isiV, typV, kb1, kb2, kb3, kb4, kb5, kb6, kb7, kb8, kb9, kb10, kb11, gdOf]
        rw [hi, bind_ok]
        show R.of (lcL [] (nameG 2) yesT (b_L_put_e1 (F_L_put f)) s.length [some (.ref r), some (Tr.of w as).pv, none] (as.map Tr.pv) (s ++ [.lst []])) = _
        rw [lc0, of_some, List.nil_append]
      have h := fin (putL us as) [.lst (as.map fun a => .int (ix (putL us as) a))] none k1.ok (by omega) ⟨hf.1, hf.2.1, k2⟩
      rw [enc_of] at h
      refine run_set (g := [.lst (as.map fun a => .int (ix (putL us as) a))]) ?_ rfl rl (rows_ok _ _)
      unfold b_L_put
      simp only [putT]
      have g2 : (s.set r (.lst (rows (putL us as))) ++ [PO.lst (as.map fun a => .int (ix (putL us as) a))])[s.length]? = some (.lst (as.map fun a => .int (ix (putL us as) a))) := by
        have := getS0 (st := s.set r (.lst (rows (putL us as)))) (g := [PO.lst (as.map fun a => .int (ix (putL us as) a))])
        rw [List.length_set] at this
        rw [this]; rfl
      simp only [Tr.pv, pvs_map] at lc
      have step : ifS (isB (opF eqV (opF idxV (varF 1) (cstF (.int 0))) (cstF (.str ("of" : Str))))) (setS 1 (tupF (consA (cstF (.str ("of" : Str))) (consA (opF idxV (varF 1) (cstF (.int 1))) (consA (cbF tupleV (consA (lcF (seqI (opF idxV (varF 1) (cstF (.int 2)))) [2] (nameG 2) yesT (b_L_put_e1 (F_L_put f))) nilA)) nilA))))) nxS [some (.ref r), some (Tr.of w as).pv, none] s = .nx [some (.ref r), some (.tup [.str "of", .str w, .tup (as.map fun a => .int (ix (putL us as) a))]), none] (s.set r (.lst (rows (putL us as))) ++ [.lst (as.map fun a => .int (ix (putL us as) a))]) := by
        simp only [Tr.pv, pvs_map, seqS, ifS, setS, augS, dropS, retS, retN, nxS, bkS, ctS, asgS, subS, R.toS, R.bind, R.of, opF, unF, varF, cstF, chF, isB, asB, andT, orT, notT, andF, orF, notF, ifF, nilA, consA, tupF, lstF, cbF, callF, bmF', truT, truV, nameG, nilG, consG, tupG, List.set_cons_zero, List.set_cons_succ, List.getElem?_cons_zero, List.getElem?_cons_succ, Option.bind_some, Option.bind_none, Option.map_some, Option.map_none, List.length_cons, List.length_nil, List.cons_append, List.nil_append, List.append_nil, if_true, if_false, ite_true, ite_false, Bool.false_eq_true, reduceIte, reduceCtorEq, List.map_cons, List.map_nil, Nat.sub_self, List.replicate_succ, List.replicate_zero, Nat.reduceSub, Nat.reduceAdd, Nat.reduceLT, Nat.reduceLeDiff, Nat.reduceEqDiff, Nat.reduceMul, Nat.reducePow, Int.reduceLT, Int.reduceLE, Int.reduceAdd, Int.reduceMul, Int.reduceSub, Int.reduceNeg, Int.reduceEq, Int.reducePow, Int.reduceMod, Int.reduceDiv, Int.reduceToNat, decide_true, decide_false, and_true, true_and, and_self, Option.some.injEq, eqV, neV, eqB, scEq, t1, t2, t3, t4, t5, t6, t7, t8, t9, t10, t11, t12, t13, t14, t15, t16, idxV, at0, at1, at2, at3, at4, at5, seqAt, lstAt, lenV, isiV, typV, kb1, kb2, kb3, kb4, kb5, kb6, kb7, kb8, kb9, kb10, kb11, sizeLine_eq, lc, tupleV, g2]
      show seqS _ _ [some (.ref r), some (Tr.of w as).pv, none] s = _
      rw [seqS_nx step]
      exact h
end Bk
end
end FL
end
section
set_option linter.all false
set_option maxRecDepth 100000
namespace FL
open PySem PySem.Spec PyProof.Rows L2
noncomputable section
def b_L_term_2_e1 : FE :=
    (callF 3 F_L_draw [] (consA (varF 1) (consA (opF mulV (opF addV (varF 5) (cstF (.int 2))) (cstF (.int 742938285))) (consA (varF 2) nilA))))
def b_L_term_2 : FS :=
    (seqS (ifS (orT (isB (opF eqV (varF 2) (cstF (.int 0)))) (isB (opF ltV (callF 3 F_L_draw [] (consA (varF 1) (consA (cstF (.int 48271)) (consA (cstF (.int 8)) nilA)))) (cstF (.int 3))))) (retS (callF 2 F_L_leaf_4 [] (consA (varF 0) (consA (varF 1) nilA)))) nxS)
    (seqS (setS 3 (opF addV (cstF (.int 1)) (opF fdivV (callF 3 F_L_draw [] (consA (varF 1) (consA (cstF (.int 16807)) (consA (cstF (.int 13)) nilA)))) (cstF (.int 4)))))
    (seqS (setS 4 (lcF (rng1I (consA (varF 3) nilA)) [5] (nameG 5) yesT b_L_term_2_e1))
    (retS (tupF (consA (cstF (.str ("of" : Str))) (consA (callF 2 F_L_word_3 [] (consA (varF 0) (consA (callF 3 F_L_draw [] (consA (varF 1) (consA (cstF (.int 1664525)) (consA (cstF (.int 3)) nilA)))) nilA))) (consA (cbF tupleV (consA (varF 4) nilA)) nilA))))))))
def F_L_term_2 : Fn := runFn 6 b_L_term_2
end
end FL
end
section
set_option linter.all false
set_option maxRecDepth 100000
namespace FL
open PySem PySem.Spec PyProof.Rows L2
noncomputable section
def b_L_terms_e1 : FE :=
    (opF idxV (varF 0) (varF 4))
def b_L_terms_t2 : FT :=
    (isB (opF eqV (opF modV (varF 4) (cstF (.int 2))) (cstF (.int 1))))
def b_L_terms_s3 : FS :=
    (seqS (setS 3 (callF 3 F_L_term_2 [] (consA (varF 0) (consA (varF 2) (consA (cbF lenV (consA (varF 1) nilA)) nilA)))))
    (ifS (isB (opF ninV (varF 3) (varF 1))) (dropS (bmF' "list" appendV (varF 1) (consA (varF 3) nilA))) nxS))
def b_L_terms : FS :=
    (seqS (setS 1 (lstF nilA))
    (seqS (forS (seqI (sliF (lcF (rng1I (consA (cbF lenV (consA (varF 0) nilA)) nilA)) [4] (nameG 4) b_L_terms_t2 b_L_terms_e1) noO (someO (cstF (.int 32))))) (nameG 2) b_L_terms_s3)
    (retS (varF 1))))
def F_L_terms : Fn := runFn 5 b_L_terms
end
end FL
end
section
set_option linter.all false
set_option maxRecDepth 100000
namespace FL
open PySem PySem.Spec PyProof.Rows L2
noncomputable section
def b_L_edges_e1 : FE :=
    (opF idxV (varF 0) (varF 6))
def b_L_edges_t2 : FT :=
    (isB (opF eqV (opF modV (varF 6) (cstF (.int 2))) (cstF (.int 0))))
def b_L_edges_s3 : FS :=
    (ifS (andT (isB (opF gtV (varF 1) (cstF (.int 0)))) (isB (opF gtV (callF 3 F_L_draw [] (consA (varF 3) (consA (cstF (.int 1226874159)) (consA (cstF (.int 3)) nilA)))) (cstF (.int 0))))) (seqS (setS 4 (callF 3 F_L_draw [] (consA (varF 3) (consA (cstF (.int 22695477)) (consA (varF 1) nilA)))))
    (seqS (setS 5 (callF 3 F_L_draw [] (consA (varF 3) (consA (cstF (.int 950706376)) (consA (varF 1) nilA)))))
    (dropS (bmF' "list" appendV (varF 2) (consA (tupF (consA (varF 4) (consA (varF 5) (consA (opF addV (cstF (.int 1)) (opF modV (varF 3) (opF powV (cstF (.int 10)) (cstF (.int 12))))) (consA (tupF (consA (cstF (.str ("told" : Str))) nilA)) nilA))))) nilA))))) nxS)
def b_L_edges : FS :=
    (seqS (setS 2 (lstF nilA))
    (seqS (forS (seqI (sliF (lcF (rng2I (consA (cstF (.int 2)) (consA (cbF lenV (consA (varF 0) nilA)) nilA))) [6] (nameG 6) b_L_edges_t2 b_L_edges_e1) noO (someO (cstF (.int 32))))) (nameG 3) b_L_edges_s3)
    (retS (varF 2))))
def F_L_edges : Fn := runFn 7 b_L_edges
end
end FL
end
section
set_option linter.all false
set_option maxRecDepth 100000
namespace FL
open PySem PySem.Spec PyProof.Rows L2
noncomputable section
def b_L_whole_2 : FS :=
    (retS (andF (cbF isiV (consA (varF 0) (consA (cstF (.ty "int")) nilA))) (notF (cbF isiV (consA (varF 0) (consA (cstF (.ty "bool")) nilA))))))
def F_L_whole_2 : Fn := runFn 1 b_L_whole_2
end
end FL
end
section
set_option linter.all false
set_option maxRecDepth 100000
namespace FL
open PySem PySem.Spec PyProof.Rows L2
noncomputable section
namespace Ct
open Tm (az_S Az md)
abbrev T := Tm.Tm
def drawI (c f m : Int) : Int := (c % 2147483647 + 5) * f % 2147483629 / 89 % m
theorem F_draw {c f m : Int} {st : Store} (hf : f.natAbs < 2 ^ 200) (hm : 0 < m) : F_L_draw [.int c, .int f, .int m] st = .ok (.int (drawI c f m)) st := by
  have q := md c 2147483647 (by decide)
  have m1 : mulOk (c % 2147483647 + 5) f = true := mulOk_of (by omega) (by omega)
  have c89 : (0 < (89 : Int) ∧ (89 : Int).natAbs.log2 < 9000) := by decide
  unfold F_L_draw drawI
  refine run_rt0 ?_ rfl
  simp only [b_L_draw, seqS, ifS, setS, augS, dropS, retS, retN, nxS, bkS, ctS, asgS, subS, R.toS, R.bind, R.of, opF, unF, varF, cstF, chF, isB, asB, andT, orT, notT, andF, orF, notF, ifF, nilA, consA, tupF, lstF, cbF, callF, bmF', truT, truV, nameG, nilG, consG, tupG, List.set_cons_zero, List.set_cons_succ, List.getElem?_cons_zero, List.getElem?_cons_succ, Option.bind_some, Option.bind_none, Option.map_some, Option.map_none, List.length_cons, List.length_nil, List.cons_append, List.nil_append, List.append_nil, if_true, if_false, ite_true, ite_false, Bool.false_eq_true, reduceIte, reduceCtorEq, List.map_cons, List.map_nil, Nat.sub_self, List.replicate_succ, List.replicate_zero, Nat.reduceSub, Nat.reduceAdd, Nat.reduceLT, Nat.reduceLeDiff, Nat.reduceEqDiff, Nat.reduceMul, Nat.reducePow, Int.reduceLT, Int.reduceLE, Int.reduceAdd, Int.reduceMul, Int.reduceSub, Int.reduceNeg, Int.reduceEq, Int.reducePow, Int.reduceMod, Int.reduceDiv, Int.reduceToNat, decide_true, decide_false, and_true, true_and, and_self, Option.some.injEq, addV, iaddV, subV, mulV, fdivV, modV, powV, negV, cmpV, isNonV, notNonV, m1, c89, hm]
theorem draw_lt (c f m : Int) (h : 0 < m) : 0 ≤ drawI c f m ∧ drawI c f m < m := md _ _ h
theorem F_at {ns : List Int} {k : Int} {st : Store} (h0 : 0 ≤ k) : F_L_at [.frz (ns.map PV.int), .int k] st = .ok (.int (ns.getD k.toNat 0)) st := by
  unfold F_L_at
  refine run_rt0 ?_ rfl
  by_cases h : k < (ns.length : Int)
  · have ha : atI (ns.map PV.int) k = some (.int (ns.getD k.toNat 0)) := atI_nat' h0 (by
      rw [List.getElem?_map, List.getD_eq_getElem?_getD, List.getElem?_eq_getElem (by omega)]; rfl)
    simp only [b_L_at, seqS, ifS, setS, augS, dropS, retS, retN, nxS, bkS, ctS, asgS, subS, R.toS, R.bind, R.of, opF, unF, varF, cstF, chF, isB, asB, andT, orT, notT, andF, orF, notF, ifF, nilA, consA, tupF, lstF, cbF, callF, bmF', truT, truV, nameG, nilG, consG, tupG, List.set_cons_zero, List.set_cons_succ, List.getElem?_cons_zero, List.getElem?_cons_succ, Option.bind_some, Option.bind_none, Option.map_some, Option.map_none, List.length_cons, List.length_nil, List.cons_append, List.nil_append, List.append_nil, if_true, if_false, ite_true, ite_false, Bool.false_eq_true, reduceIte, reduceCtorEq, List.map_cons, List.map_nil, Nat.sub_self, List.replicate_succ, List.replicate_zero, Nat.reduceSub, Nat.reduceAdd, Nat.reduceLT, Nat.reduceLeDiff, Nat.reduceEqDiff, Nat.reduceMul, Nat.reducePow, Int.reduceLT, Int.reduceLE, Int.reduceAdd, Int.reduceMul, Int.reduceSub, Int.reduceNeg, Int.reduceEq, Int.reducePow, Int.reduceMod, Int.reduceDiv, Int.reduceToNat, decide_true, decide_false, and_true, true_and, and_self, Option.some.injEq, addV, iaddV, subV, mulV, fdivV, modV, powV, negV, cmpV, isNonV, notNonV, idxV, at0, at1, at2, at3, at4, at5, seqAt, lstAt, lenV, isiV, typV, kb1, kb2, kb3, kb4, kb5, kb6, kb7, kb8, kb9, kb10, kb11, List.length_map, h, ha]
  · have e : ns.getD k.toNat 0 = 0 := by rw [List.getD_eq_getElem?_getD, List.getElem?_eq_none (by omega)]; rfl
    simp only [b_L_at, seqS, ifS, setS, augS, dropS, retS, retN, nxS, bkS, ctS, asgS, subS, R.toS, R.bind, R.of, opF, unF, varF, cstF, chF, isB, asB, andT, orT, notT, andF, orF, notF, ifF, nilA, consA, tupF, lstF, cbF, callF, bmF', truT, truV, nameG, nilG, consG, tupG, List.set_cons_zero, List.set_cons_succ, List.getElem?_cons_zero, List.getElem?_cons_succ, Option.bind_some, Option.bind_none, Option.map_some, Option.map_none, List.length_cons, List.length_nil, List.cons_append, List.nil_append, List.append_nil, if_true, if_false, ite_true, ite_false, Bool.false_eq_true, reduceIte, reduceCtorEq, List.map_cons, List.map_nil, Nat.sub_self, List.replicate_succ, List.replicate_zero, Nat.reduceSub, Nat.reduceAdd, Nat.reduceLT, Nat.reduceLeDiff, Nat.reduceEqDiff, Nat.reduceMul, Nat.reducePow, Int.reduceLT, Int.reduceLE, Int.reduceAdd, Int.reduceMul, Int.reduceSub, Int.reduceNeg, Int.reduceEq, Int.reducePow, Int.reduceMod, Int.reduceDiv, Int.reduceToNat, decide_true, decide_false, and_true, true_and, and_self, Option.some.injEq, addV, iaddV, subV, mulV, fdivV, modV, powV, negV, cmpV, isNonV, notNonV, idxV, at0, at1, at2, at3, at4, at5, seqAt, lstAt, lenV, isiV, typV, kb1, kb2, kb3, kb4, kb5, kb6, kb7, kb8, kb9, kb10, kb11, List.length_map, h, e]
theorem F_wordW {ns : List Int} {w : Int} {st : Store} : ∃ x, F_L_word_3 [.frz (ns.map PV.int), .int w] st = .ok (.str x) st ∧ Az x ∧ x.length ≤ 8 := by
  obtain ⟨m, hm⟩ : ∃ m, m = ns.getD 0 0 := ⟨_, rfl⟩
  have hat : ∀ s, F_L_at [.frz (ns.map PV.int), .int 0] s = .ok (.int m) s := fun s => by rw [hm]; exact F_at (k := 0) (by decide)
  have z1 := md m 8 (by decide)
  have z3 := md (m / 64) 26 (by decide)
  have z4 := md (m / 1664 + w) 26 (by decide)
  have a := md (m / 8) (1 + m % 8) (by omega)
  have c8 : (0 < (8 : Int) ∧ (8 : Int).natAbs.log2 < 9000) := by decide
  have c64 : (0 < (64 : Int) ∧ (64 : Int).natAbs.log2 < 9000) := by decide
  have c1664 : (0 < (1664 : Int) ∧ (1664 : Int).natAbs.log2 < 9000) := by decide
  have np : 0 < 1 + m % 8 := by omega
  have r1 : 0 ≤ m / 8 % (1 + m % 8) ∧ m / 8 % (1 + m % 8) ≤ 1000 ∧ (1 : Nat) ≤ 1000 := by omega
  have r2 : 0 ≤ 1 + m % 8 - 1 - m / 8 % (1 + m % 8) ∧ 1 + m % 8 - 1 - m / 8 % (1 + m % 8) ≤ 1000 ∧ (1 : Nat) ≤ 1000 := by omega
  refine ⟨S (List.replicate (m / 8 % (1 + m % 8)).toNat (97 + (m / 64 % 26).toNat) ++ [97 + ((m / 1664 + w) % 26).toNat] ++ List.replicate (1 + m % 8 - 1 - m / 8 % (1 + m % 8)).toNat (97 + (m / 64 % 26).toNat)), ?_, az_S fun x hx => ?_, ?_⟩
  · unfold F_L_word_3
    refine run_rt0 ?_ rfl
    simp only [b_L_word_3, seqS, ifS, setS, augS, dropS, retS, retN, nxS, bkS, ctS, asgS, subS, R.toS, R.bind, R.of, opF, unF, varF, cstF, chF, isB, asB, andT, orT, notT, andF, orF, notF, ifF, nilA, consA, tupF, lstF, cbF, callF, bmF', truT, truV, nameG, nilG, consG, tupG, List.set_cons_zero, List.set_cons_succ, List.getElem?_cons_zero, List.getElem?_cons_succ, Option.bind_some, Option.bind_none, Option.map_some, Option.map_none, List.length_cons, List.length_nil, List.cons_append, List.nil_append, List.append_nil, if_true, if_false, ite_true, ite_false, Bool.false_eq_true, reduceIte, reduceCtorEq, List.map_cons, List.map_nil, Nat.sub_self, List.replicate_succ, List.replicate_zero, Nat.reduceSub, Nat.reduceAdd, Nat.reduceLT, Nat.reduceLeDiff, Nat.reduceEqDiff, Nat.reduceMul, Nat.reducePow, Int.reduceLT, Int.reduceLE, Int.reduceAdd, Int.reduceMul, Int.reduceSub, Int.reduceNeg, Int.reduceEq, Int.reducePow, Int.reduceMod, Int.reduceDiv, Int.reduceToNat, decide_true, decide_false, and_true, true_and, and_self, Option.some.injEq, addV, iaddV, subV, mulV, fdivV, modV, powV, negV, cmpV, isNonV, notNonV, idxV, at0, at1, at2, at3, at4, at5, seqAt, lstAt, lenV, isiV, typV, kb1, kb2, kb3, kb4, kb5, kb6, kb7, kb8, kb9, kb10, kb11, hat, c8, c64, c1664, np, letters_eq, S_cps, S_len, List.length_map, List.length_range, sizeLine_eq, letters_at z3.1 z3.2, letters_at z4.1 z4.2, S_one, r1, r2, S_mul _ _ a.1, S_mul _ _ r2.1, flat_one, List.length_replicate, S_app, List.length_append]
    rw [if_pos (by omega)]
    simp only [S_len, S_app, List.length_append, List.length_replicate, List.length_cons, List.length_nil]
    rw [if_pos (by omega)]
  · simp only [List.mem_append, List.mem_replicate, List.mem_singleton] at hx
    omega
  · simp only [S_len, List.length_append, List.length_replicate, List.length_cons, List.length_nil]
    omega
theorem F_word {ns : List Int} {w : Int} {st : Store} : ∃ x, F_L_word_3 [.frz (ns.map PV.int), .int w] st = .ok (.str x) st ∧ Az x := by
  obtain ⟨x, h1, h2, _⟩ := F_wordW (ns := ns) (w := w) (st := st)
  exact ⟨x, h1, h2⟩
/-- words are short -/
def Ws : T → Prop
  | .num _ => True
  | .name x => x.length ≤ 8
  | .of w _ => w.length ≤ 8
theorem F_leaf {ns : List Int} {c : Int} {st : Store} : ∃ t : T, F_L_leaf_4 [.frz (ns.map PV.int), .int c] st = .ok t.pv st ∧ (∀ n, t.Good n) ∧ Ws t := by
  have d1 := fun s => F_draw (c := c) (f := 69621) (m := 4) (st := s) (by decide) (by decide)
  have d2 := fun s => F_draw (c := c) (f := 40692) (m := 5) (st := s) (by decide) (by decide)
  have d3 := fun s => F_draw (c := c) (f := 40692) (m := 4) (st := s) (by decide) (by decide)
  obtain ⟨x, hx, ax, aw⟩ := F_wordW (ns := ns) (w := drawI c 40692 4) (st := st)
  have c1 : ((0 : Int) ≤ 60 ∧ (60 : Int) ≤ 1000000 ∧ (10 : Int).natAbs < 2 ^ 64) := by decide
  have m4 : mulOk 2 1000000000000000000000000000000000000000000000000000000000000 = true := by decide +kernel
  unfold F_L_leaf_4
  by_cases e0 : drawI c 69621 4 = 0
  · refine ⟨.num (c % 1999999999999999999999999999999999999999999999999999999999999 - 999999999999999999999999999999999999999999999999999999999999), run_rt0 ?_ (Tm.pv_pure _), fun _ => trivial, trivial⟩
    simp only [b_L_leaf_4, Tm.Tm.pv, seqS, ifS, setS, augS, dropS, retS, retN, nxS, bkS, ctS, asgS, subS, R.toS, R.bind, R.of, opF, unF, varF, cstF, chF, isB, asB, andT, orT, notT, andF, orF, notF, ifF, nilA, consA, tupF, lstF, cbF, callF, bmF', truT, truV, nameG, nilG, consG, tupG, List.set_cons_zero, List.set_cons_succ, List.getElem?_cons_zero, List.getElem?_cons_succ, Option.bind_some, Option.bind_none, Option.map_some, Option.map_none, List.length_cons, List.length_nil, List.cons_append, List.nil_append, List.append_nil, if_true, if_false, ite_true, ite_false, Bool.false_eq_true, reduceIte, reduceCtorEq, List.map_cons, List.map_nil, Nat.sub_self, List.replicate_succ, List.replicate_zero, Nat.reduceSub, Nat.reduceAdd, Nat.reduceLT, Nat.reduceLeDiff, Nat.reduceEqDiff, Nat.reduceMul, Nat.reducePow, Int.reduceLT, Int.reduceLE, Int.reduceAdd, Int.reduceMul, Int.reduceSub, Int.reduceNeg, Int.reduceEq, Int.reducePow, Int.reduceMod, Int.reduceDiv, Int.reduceToNat, decide_true, decide_false, and_true, true_and, and_self, Option.some.injEq, addV, iaddV, subV, mulV, fdivV, modV, powV, negV, cmpV, isNonV, notNonV, eqV, neV, eqB, scEq, t1, t2, t3, t4, t5, t6, t7, t8, t9, t10, t11, t12, t13, t14, t15, t16, sizeLine_eq, d1, e0, c1, m4]
  by_cases e1 : drawI c 69621 4 = 1
  · refine ⟨.num (drawI c 40692 5 - 2), run_rt0 ?_ (Tm.pv_pure _), fun _ => trivial, trivial⟩
    simp only [b_L_leaf_4, Tm.Tm.pv, seqS, ifS, setS, augS, dropS, retS, retN, nxS, bkS, ctS, asgS, subS, R.toS, R.bind, R.of, opF, unF, varF, cstF, chF, isB, asB, andT, orT, notT, andF, orF, notF, ifF, nilA, consA, tupF, lstF, cbF, callF, bmF', truT, truV, nameG, nilG, consG, tupG, List.set_cons_zero, List.set_cons_succ, List.getElem?_cons_zero, List.getElem?_cons_succ, Option.bind_some, Option.bind_none, Option.map_some, Option.map_none, List.length_cons, List.length_nil, List.cons_append, List.nil_append, List.append_nil, if_true, if_false, ite_true, ite_false, Bool.false_eq_true, reduceIte, reduceCtorEq, List.map_cons, List.map_nil, Nat.sub_self, List.replicate_succ, List.replicate_zero, Nat.reduceSub, Nat.reduceAdd, Nat.reduceLT, Nat.reduceLeDiff, Nat.reduceEqDiff, Nat.reduceMul, Nat.reducePow, Int.reduceLT, Int.reduceLE, Int.reduceAdd, Int.reduceMul, Int.reduceSub, Int.reduceNeg, Int.reduceEq, Int.reducePow, Int.reduceMod, Int.reduceDiv, Int.reduceToNat, decide_true, decide_false, and_true, true_and, and_self, Option.some.injEq, addV, iaddV, subV, mulV, fdivV, modV, powV, negV, cmpV, isNonV, notNonV, eqV, neV, eqB, scEq, t1, t2, t3, t4, t5, t6, t7, t8, t9, t10, t11, t12, t13, t14, t15, t16, sizeLine_eq, d1, d2, e0, e1]
  · refine ⟨.name x, run_rt0 ?_ (Tm.pv_pure _), fun _ => ax, aw⟩
    simp only [b_L_leaf_4, Tm.Tm.pv, seqS, ifS, setS, augS, dropS, retS, retN, nxS, bkS, ctS, asgS, subS, R.toS, R.bind, R.of, opF, unF, varF, cstF, chF, isB, asB, andT, orT, notT, andF, orF, notF, ifF, nilA, consA, tupF, lstF, cbF, callF, bmF', truT, truV, nameG, nilG, consG, tupG, List.set_cons_zero, List.set_cons_succ, List.getElem?_cons_zero, List.getElem?_cons_succ, Option.bind_some, Option.bind_none, Option.map_some, Option.map_none, List.length_cons, List.length_nil, List.cons_append, List.nil_append, List.append_nil, if_true, if_false, ite_true, ite_false, Bool.false_eq_true, reduceIte, reduceCtorEq, List.map_cons, List.map_nil, Nat.sub_self, List.replicate_succ, List.replicate_zero, Nat.reduceSub, Nat.reduceAdd, Nat.reduceLT, Nat.reduceLeDiff, Nat.reduceEqDiff, Nat.reduceMul, Nat.reducePow, Int.reduceLT, Int.reduceLE, Int.reduceAdd, Int.reduceMul, Int.reduceSub, Int.reduceNeg, Int.reduceEq, Int.reducePow, Int.reduceMod, Int.reduceDiv, Int.reduceToNat, decide_true, decide_false, and_true, true_and, and_self, Option.some.injEq, addV, iaddV, subV, mulV, fdivV, modV, powV, negV, cmpV, isNonV, notNonV, eqV, neV, eqB, scEq, t1, t2, t3, t4, t5, t6, t7, t8, t9, t10, t11, t12, t13, t14, t15, t16, sizeLine_eq, d1, d3, e0, e1, hx]
theorem cut32 (cs0 : List Int) : cutP (cs0.map PV.int) none (some 32) = (cs0.take 32).map PV.int := by
  unfold cutP
  rw [sIx_some (by decide), HT.sIx_none, List.map_take, List.drop_zero, Nat.sub_zero]
  show List.take (min 32 _) _ = List.take 32 _
  rcases Nat.le_total 32 (cs0.map PV.int).length with q | q
  · rw [Nat.min_eq_left q]
  · rw [Nat.min_eq_right q, List.take_of_length_le (Nat.le_refl _), List.take_of_length_le q]

theorem rng1_ok {f : FA} {e : Env} {s : Store} {j : Int} (h : f e s = .ok [.int j] s) (h0 : 0 ≤ j) (hj : j < 1000000) : rng1I f e s = .ok ⟨intL 0 1 j.toNat, []⟩ s := by
  exact rng1I_ok h (by omega) (by omega)
theorem rng2_ok {f : FA} {e : Env} {s : Store} {i j : Int} (h : f e s = .ok [.int i, .int j] s) (h0 : 0 ≤ i) (hi : i < 1000000) (h1 : 0 ≤ j) (hj : j < 1000000) : rng2I f e s = .ok ⟨intL i 1 (j - i).toNat, []⟩ s := by
  exact rng2I_ok h (by omega) (by omega) (by omega) (by omega)
theorem F_term {ns : List Int} {c : Int} {n : Nat} {st : Store} (hn : n ≤ 1000) : ∃ t : T, F_L_term_2 [.frz (ns.map PV.int), .int c, .int (n : Int)] st = .ok t.pv st ∧ t.Good n ∧ Ws t := by
  have dr : ∀ f m s, f.natAbs < 2 ^ 200 → 0 < m → F_L_draw [.int c, .int f, .int m] s = .ok (.int (drawI c f m)) s := fun f m s h1 h2 => F_draw h1 h2
  have d8 := fun s => dr 48271 8 s (by decide) (by decide)
  have d13 := fun s => dr 16807 13 s (by decide) (by decide)
  have d3 := fun s => dr 1664525 3 s (by decide) (by decide)
  have c4 : (0 < (4 : Int) ∧ (4 : Int).natAbs.log2 < 9000) := by decide
  obtain ⟨l, hl, gl, wl⟩ := F_leaf (ns := ns) (c := c) (st := st)
  unfold F_L_term_2
  by_cases h0 : n = 0
  · subst h0
    refine ⟨l, run_rt0 ?_ (Tm.pv_pure _), gl _, wl⟩
    simp only [b_L_term_2, seqS, ifS, setS, augS, dropS, retS, retN, nxS, bkS, ctS, asgS, subS, R.toS, R.bind, R.of, opF, unF, varF, cstF, chF, isB, asB, andT, orT, notT, andF, orF, notF, ifF, nilA, consA, tupF, lstF, cbF, callF, bmF', truT, truV, nameG, nilG, consG, tupG, List.set_cons_zero, List.set_cons_succ, List.getElem?_cons_zero, List.getElem?_cons_succ, Option.bind_some, Option.bind_none, Option.map_some, Option.map_none, List.length_cons, List.length_nil, List.cons_append, List.nil_append, List.append_nil, if_true, if_false, ite_true, ite_false, Bool.false_eq_true, reduceIte, reduceCtorEq, List.map_cons, List.map_nil, Nat.sub_self, List.replicate_succ, List.replicate_zero, Nat.reduceSub, Nat.reduceAdd, Nat.reduceLT, Nat.reduceLeDiff, Nat.reduceEqDiff, Nat.reduceMul, Nat.reducePow, Int.reduceLT, Int.reduceLE, Int.reduceAdd, Int.reduceMul, Int.reduceSub, Int.reduceNeg, Int.reduceEq, Int.reducePow, Int.reduceMod, Int.reduceDiv, Int.reduceToNat, decide_true, decide_false, and_true, true_and, and_self, Option.some.injEq, addV, iaddV, subV, mulV, fdivV, modV, powV, negV, cmpV, isNonV, notNonV, eqV, neV, eqB, scEq, t1, t2, t3, t4, t5, t6, t7, t8, t9, t10, t11, t12, t13, t14, t15, t16, Int.natCast_zero, hl]
  have h0' : ¬ (n : Int) = 0 := by omega
  by_cases h1 : drawI c 48271 8 < 3
  · refine ⟨l, run_rt0 ?_ (Tm.pv_pure _), gl _, wl⟩
    simp only [b_L_term_2, seqS, ifS, setS, augS, dropS, retS, retN, nxS, bkS, ctS, asgS, subS, R.toS, R.bind, R.of, opF, unF, varF, cstF, chF, isB, asB, andT, orT, notT, andF, orF, notF, ifF, nilA, consA, tupF, lstF, cbF, callF, bmF', truT, truV, nameG, nilG, consG, tupG, List.set_cons_zero, List.set_cons_succ, List.getElem?_cons_zero, List.getElem?_cons_succ, Option.bind_some, Option.bind_none, Option.map_some, Option.map_none, List.length_cons, List.length_nil, List.cons_append, List.nil_append, List.append_nil, if_true, if_false, ite_true, ite_false, Bool.false_eq_true, reduceIte, reduceCtorEq, List.map_cons, List.map_nil, Nat.sub_self, List.replicate_succ, List.replicate_zero, Nat.reduceSub, Nat.reduceAdd, Nat.reduceLT, Nat.reduceLeDiff, Nat.reduceEqDiff, Nat.reduceMul, Nat.reducePow, Int.reduceLT, Int.reduceLE, Int.reduceAdd, Int.reduceMul, Int.reduceSub, Int.reduceNeg, Int.reduceEq, Int.reducePow, Int.reduceMod, Int.reduceDiv, Int.reduceToNat, decide_true, decide_false, and_true, true_and, and_self, Option.some.injEq, addV, iaddV, subV, mulV, fdivV, modV, powV, negV, cmpV, isNonV, notNonV, eqV, neV, eqB, scEq, t1, t2, t3, t4, t5, t6, t7, t8, t9, t10, t11, t12, t13, t14, t15, t16, h0', d8, h1, hl]
  have z13 := draw_lt c 16807 13 (by decide)
  obtain ⟨k, hk⟩ : ∃ k : Int, k = 1 + drawI c 16807 13 / 4 := ⟨_, rfl⟩
  have k4 : 1 ≤ k ∧ k ≤ 4 := by omega
  let as : List Int := (List.range k.toNat).map fun j : Nat => drawI c ((0 + (j : Int) * 1 + 2) * 742938285) n
  obtain ⟨x, hx, ax, aw⟩ := F_wordW (ns := ns) (w := drawI c 1664525 3) (st := st ++ [.lst (as.map PV.int)])
  have lc : lcF (rng1I (consA (varF 3) nilA)) [5] (nameG 5) yesT b_L_term_2_e1 [some (.frz (ns.map PV.int)), some (.int c), some (.int (n : Int)), some (.int k), none, none] st = .ok (.ref st.length) (st ++ [.lst (as.map PV.int)]) := by
    have e : as.map PV.int = (List.range k.toNat).map (PV.int ∘ fun j : Nat => drawI c ((0 + (j : Int) * 1 + 2) * 742938285) n) := by simp only [as, List.map_map]
    rw [e]
    refine lcF_map (gd := []) (List.range k.toNat) (fun i : Nat => PV.int (0 + (i : Nat) * 1)) _ (rng1_ok (j := k) (by simp only [seqS, ifS, setS, augS, dropS, retS, retN, nxS, bkS, ctS, asgS, subS, R.toS, R.bind, R.of, opF, unF, varF, cstF, chF, isB, asB, andT, orT, notT, andF, orF, notF, ifF, nilA, consA, tupF, lstF, cbF, callF, bmF', truT, truV, nameG, nilG, consG, tupG, List.set_cons_zero, List.set_cons_succ, List.getElem?_cons_zero, List.getElem?_cons_succ, Option.bind_some, Option.bind_none, Option.map_some, Option.map_none, List.length_cons, List.length_nil, List.cons_append, List.nil_append, List.append_nil, if_true, if_false, ite_true, ite_false, Bool.false_eq_true, reduceIte, reduceCtorEq, List.map_cons, List.map_nil, Nat.sub_self, List.replicate_succ, List.replicate_zero, Nat.reduceSub, Nat.reduceAdd, Nat.reduceLT, Nat.reduceLeDiff, Nat.reduceEqDiff, Nat.reduceMul, Nat.reducePow, Int.reduceLT, Int.reduceLE, Int.reduceAdd, Int.reduceMul, Int.reduceSub, Int.reduceNeg, Int.reduceEq, Int.reducePow, Int.reduceMod, Int.reduceDiv, Int.reduceToNat, decide_true, decide_false, and_true, true_and, and_self, Option.some.injEq]) (by omega) (by omega)) (fun _ => gd_nil _) (by rw [sizeLine_eq, List.length_range]; omega) fun j hj => ⟨_, rfl, fun acc => ?_⟩
    have jl := List.mem_range.mp hj
    have mk : mulOk (0 + (j : Int) * 1 + 2) 742938285 = true := mulOk_of (by omega) (by decide)
    have dd := dr ((0 + (j : Int) * 1 + 2) * 742938285) (n : Int) (st ++ [PO.lst acc]) (by omega) (by omega)
    simp only [b_L_term_2_e1, wipeE, seqS, ifS, setS, augS, dropS, retS, retN, nxS, bkS, ctS, asgS, subS, R.toS, R.bind, R.of, opF, unF, varF, cstF, chF, isB, asB, andT, orT, notT, andF, orF, notF, ifF, nilA, consA, tupF, lstF, cbF, callF, bmF', truT, truV, nameG, nilG, consG, tupG, List.set_cons_zero, List.set_cons_succ, List.getElem?_cons_zero, List.getElem?_cons_succ, Option.bind_some, Option.bind_none, Option.map_some, Option.map_none, List.length_cons, List.length_nil, List.cons_append, List.nil_append, List.append_nil, if_true, if_false, ite_true, ite_false, Bool.false_eq_true, reduceIte, reduceCtorEq, List.map_cons, List.map_nil, Nat.sub_self, List.replicate_succ, List.replicate_zero, Nat.reduceSub, Nat.reduceAdd, Nat.reduceLT, Nat.reduceLeDiff, Nat.reduceEqDiff, Nat.reduceMul, Nat.reducePow, Int.reduceLT, Int.reduceLE, Int.reduceAdd, Int.reduceMul, Int.reduceSub, Int.reduceNeg, Int.reduceEq, Int.reducePow, Int.reduceMod, Int.reduceDiv, Int.reduceToNat, decide_true, decide_false, and_true, true_and, and_self, Option.some.injEq, addV, iaddV, subV, mulV, fdivV, modV, powV, negV, cmpV, isNonV, notNonV, mk, dd, Function.comp]
  refine ⟨.of x as, run_rt (g := [.lst (as.map PV.int)]) ?_ (Tm.pv_pure _), ⟨ax, by simp [as]; omega, fun z hz => ?_⟩, aw⟩
  · simp only [b_L_term_2, seqS, ifS, setS, augS, dropS, retS, retN, nxS, bkS, ctS, asgS, subS, R.toS, R.bind, R.of, opF, unF, varF, cstF, chF, isB, asB, andT, orT, notT, andF, orF, notF, ifF, nilA, consA, tupF, lstF, cbF, callF, bmF', truT, truV, nameG, nilG, consG, tupG, List.set_cons_zero, List.set_cons_succ, List.getElem?_cons_zero, List.getElem?_cons_succ, Option.bind_some, Option.bind_none, Option.map_some, Option.map_none, List.length_cons, List.length_nil, List.cons_append, List.nil_append, List.append_nil, if_true, if_false, ite_true, ite_false, Bool.false_eq_true, reduceIte, reduceCtorEq, List.map_cons, List.map_nil, Nat.sub_self, List.replicate_succ, List.replicate_zero, Nat.reduceSub, Nat.reduceAdd, Nat.reduceLT, Nat.reduceLeDiff, Nat.reduceEqDiff, Nat.reduceMul, Nat.reducePow, Int.reduceLT, Int.reduceLE, Int.reduceAdd, Int.reduceMul, Int.reduceSub, Int.reduceNeg, Int.reduceEq, Int.reducePow, Int.reduceMod, Int.reduceDiv, Int.reduceToNat, decide_true, decide_false, and_true, true_and, and_self, Option.some.injEq, addV, iaddV, subV, mulV, fdivV, modV, powV, negV, cmpV, isNonV, notNonV, eqV, neV, eqB, scEq, t1, t2, t3, t4, t5, t6, t7, t8, t9, t10, t11, t12, t13, t14, t15, t16, h0', d8, h1, d13, c4, ← hk, lc, d3, hx, tupleV, seqAt, lstAt, getS0, sizeLine_eq, Tm.Tm.pv]
  · obtain ⟨j, _, rfl⟩ := List.mem_map.mp hz
    exact draw_lt _ _ _ (by omega)
open Classical
/-- is a term among some -/
theorem in_T {ts : List T} {t : T} {n m r : Nat} {s : Store} (h : s[r]? = some (.lst (ts.map Tm.Tm.pv))) (ht : t.Good n) (hts : ∀ u ∈ ts, u.Good m) : inB t.pv (.ref r) s = some (decide (t ∈ ts)) := by
  have e1 : flatP t.pv = false := by cases t <;> rfl
  have e2 := Bk.toD_T (k := 61) (s := s) ht
  have e3 : ∀ ts : List T, (∀ u ∈ ts, u.Good m) → toDs (toD 63 s) (ts.map Tm.Tm.pv) = some (ts.map Bk.dT) := fun ts => by
    induction ts with
    | nil => intro _; rfl
    | cons a r ih =>
      intro h
      rw [List.map_cons, List.map_cons]
      simp only [toDs, Bk.toD_T (k := 60) (s := s) (h a List.mem_cons_self), ih fun u hu => h u (List.mem_cons_of_mem _ hu)]
  have e4 : ∀ ts : List T, (ts.map Bk.dT).any (fun z => PyData.eqv z (Bk.dT t)) = decide (t ∈ ts) := fun ts => by
    induction ts with
    | nil => simp
    | cons a r ih =>
      rw [List.map_cons, List.any_cons, ih, Bk.eqv_T]
      by_cases q : a = t
      · subst q; simp
      · rw [decide_eq_false q]
        simp [show ¬ t = a from fun z => q z.symm]
  unfold inB
  simp only [seqAt, lstAt, h, e1, Bool.false_eq_true, false_and, if_false, e2, e3 ts hts, e4]
/-- good one behind the other -/
def Row (ts : List T) : Prop := ∀ (i : Nat) t, ts[i]? = some t → t.Good i
theorem Row.good {ts : List T} (h : Row ts) {t : T} (ht : t ∈ ts) : t.Good ts.length := by
  obtain ⟨i, hi, rfl⟩ := List.getElem_of_mem ht
  exact Tm.Good.up (by omega) (h i _ (List.getElem?_eq_getElem hi))
theorem Row.app {ts : List T} {t : T} (h : Row ts) (ht : t.Good ts.length) : Row (ts ++ [t]) := fun i u hu => by
  by_cases hi : i < ts.length
  · rw [List.getElem?_append_left hi] at hu
    exact h i u hu
  · have : i = ts.length := by
      have := (List.getElem?_eq_some_iff.mp hu).1
      simp at this
      omega
    subst this
    simp at hu
    subst hu
    exact ht
theorem pvs_pure (ts : List T) : puresP (ts.map Tm.Tm.pv) = true := pures_iff.mpr fun x hx => by
  obtain ⟨t, _, rfl⟩ := List.mem_map.mp hx
  exact Tm.pv_pure t
theorem at_cell {ns : List Int} {k : Int} (h0 : 0 ≤ k) (h : k < ns.length) : atI (ns.map PV.int) k = some (.int (ns.getD k.toNat 0)) := atI_nat' h0 (by
  rw [List.getElem?_map, List.getElem?_eq_getElem (by omega), List.getD_eq_getElem?_getD, List.getElem?_eq_getElem (by omega)]; rfl)
theorem F_termsW {ns : List Int} {st : Store} (hns : ns.length ≤ 63) : ∃ ts : List T, F_L_terms [.frz (ns.map PV.int)] st = .ok (.ref st.length) (st ++ [.lst (ts.map Tm.Tm.pv)]) ∧ Row ts ∧ ts.Nodup ∧ ts.length ≤ 32 ∧ ∀ t ∈ ts, Ws t := by
  let cs0 : List Int := ((List.range ns.length).filter fun i : Nat => decide ((0 + (i : Int) * 1) % 2 = 1)).map fun i => ns.getD i 0
  have lc : lcF (rng1I (consA (cbF lenV (consA (varF 0) nilA)) nilA)) [4] (nameG 4) b_L_terms_t2 b_L_terms_e1 [some (.frz (ns.map PV.int)), some (.ref st.length), none, none, none] (st ++ [PO.lst []]) = .ok (.ref (st ++ [PO.lst []]).length) (st ++ [PO.lst []] ++ [.lst (cs0.map PV.int)]) := by
    simp only [cs0, List.map_map]
    refine lcF_filter (gd := []) (List.range ns.length) (fun i : Nat => PV.int (0 + (i : Nat) * 1)) (fun i : Nat => decide ((0 + (i : Int) * 1) % 2 = 1)) (PV.int ∘ fun i => ns.getD i 0) (rng1_ok (j := (ns.length : Int)) (by simp only [seqS, ifS, setS, augS, dropS, retS, retN, nxS, bkS, ctS, asgS, subS, R.toS, R.bind, R.of, opF, unF, varF, cstF, chF, isB, asB, andT, orT, notT, andF, orF, notF, ifF, nilA, consA, tupF, lstF, cbF, callF, bmF', truT, truV, nameG, nilG, consG, tupG, List.set_cons_zero, List.set_cons_succ, List.getElem?_cons_zero, List.getElem?_cons_succ, Option.bind_some, Option.bind_none, Option.map_some, Option.map_none, List.length_cons, List.length_nil, List.cons_append, List.nil_append, List.append_nil, if_true, if_false, ite_true, ite_false, Bool.false_eq_true, reduceIte, reduceCtorEq, List.map_cons, List.map_nil, Nat.sub_self, List.replicate_succ, List.replicate_zero, Nat.reduceSub, Nat.reduceAdd, Nat.reduceLT, Nat.reduceLeDiff, Nat.reduceEqDiff, Nat.reduceMul, Nat.reducePow, Int.reduceLT, Int.reduceLE, Int.reduceAdd, Int.reduceMul, Int.reduceSub, Int.reduceNeg, Int.reduceEq, Int.reducePow, Int.reduceMod, Int.reduceDiv, Int.reduceToNat, decide_true, decide_false, and_true, true_and, and_self, Option.some.injEq, idxV, at0, at1, at2, at3, at4, at5, seqAt, lstAt, lenV, isiV, typV, kb1, kb2, kb3, kb4, kb5, kb6, kb7, kb8, kb9, kb10, kb11, List.length_map]) (by omega) (by omega)) (fun _ => gd_nil _) (by rw [sizeLine_eq, List.length_range]; omega) fun j hj => ⟨[some (.frz (ns.map PV.int)), some (.ref st.length), none, none, some (.int (0 + (j : Nat) * 1))], rfl, fun acc => ⟨?_, fun _ => ?_⟩⟩
    · simp only [b_L_terms_t2, seqS, ifS, setS, augS, dropS, retS, retN, nxS, bkS, ctS, asgS, subS, R.toS, R.bind, R.of, opF, unF, varF, cstF, chF, isB, asB, andT, orT, notT, andF, orF, notF, ifF, nilA, consA, tupF, lstF, cbF, callF, bmF', truT, truV, nameG, nilG, consG, tupG, List.set_cons_zero, List.set_cons_succ, List.getElem?_cons_zero, List.getElem?_cons_succ, Option.bind_some, Option.bind_none, Option.map_some, Option.map_none, List.length_cons, List.length_nil, List.cons_append, List.nil_append, List.append_nil, if_true, if_false, ite_true, ite_false, Bool.false_eq_true, reduceIte, reduceCtorEq, List.map_cons, List.map_nil, Nat.sub_self, List.replicate_succ, List.replicate_zero, Nat.reduceSub, Nat.reduceAdd, Nat.reduceLT, Nat.reduceLeDiff, Nat.reduceEqDiff, Nat.reduceMul, Nat.reducePow, Int.reduceLT, Int.reduceLE, Int.reduceAdd, Int.reduceMul, Int.reduceSub, Int.reduceNeg, Int.reduceEq, Int.reducePow, Int.reduceMod, Int.reduceDiv, Int.reduceToNat, decide_true, decide_false, and_true, true_and, and_self, Option.some.injEq, addV, iaddV, subV, mulV, fdivV, modV, powV, negV, cmpV, isNonV, notNonV, eqV, neV, eqB, scEq, t1, t2, t3, t4, t5, t6, t7, t8, t9, t10, t11, t12, t13, t14, t15, t16]
    · have jl := List.mem_range.mp hj
      have ha := at_cell (ns := ns) (k := 0 + (j : Int) * 1) (by omega) (by omega)
      rw [show (0 + (j : Int) * 1).toNat = j by omega] at ha
      simp only [b_L_terms_e1, seqS, ifS, setS, augS, dropS, retS, retN, nxS, bkS, ctS, asgS, subS, R.toS, R.bind, R.of, opF, unF, varF, cstF, chF, isB, asB, andT, orT, notT, andF, orF, notF, ifF, nilA, consA, tupF, lstF, cbF, callF, bmF', truT, truV, nameG, nilG, consG, tupG, List.set_cons_zero, List.set_cons_succ, List.getElem?_cons_zero, List.getElem?_cons_succ, Option.bind_some, Option.bind_none, Option.map_some, Option.map_none, List.length_cons, List.length_nil, List.cons_append, List.nil_append, List.append_nil, if_true, if_false, ite_true, ite_false, Bool.false_eq_true, reduceIte, reduceCtorEq, List.map_cons, List.map_nil, Nat.sub_self, List.replicate_succ, List.replicate_zero, Nat.reduceSub, Nat.reduceAdd, Nat.reduceLT, Nat.reduceLeDiff, Nat.reduceEqDiff, Nat.reduceMul, Nat.reducePow, Int.reduceLT, Int.reduceLE, Int.reduceAdd, Int.reduceMul, Int.reduceSub, Int.reduceNeg, Int.reduceEq, Int.reducePow, Int.reduceMod, Int.reduceDiv, Int.reduceToNat, decide_true, decide_false, and_true, true_and, and_self, Option.some.injEq, idxV, at0, at1, at2, at3, at4, at5, seqAt, lstAt, lenV, isiV, typV, kb1, kb2, kb3, kb4, kb5, kb6, kb7, kb8, kb9, kb10, kb11, ha]
      rfl
  have cut := cut32 cs0
  obtain ⟨cs, hcs⟩ : ∃ cs, cs = cs0.take 32 := ⟨_, rfl⟩
  have cl : cs.length ≤ 32 := by rw [hcs, List.length_take]; omega
  rw [← hcs] at cut
  have getc : ∀ (o : PO), (st ++ [o, .lst (cs0.map PV.int), .lst (cs.map PV.int)])[st.length + 2]? = some (.lst (cs.map PV.int)) := fun o => by rw [getS]; rfl
  obtain ⟨e', st', h1, h2⟩ := forL_inv (gd := [(st.length + 2, .lst (cs.map PV.int))]) (g := nameG 2) (b := b_L_terms_s3) (xs := cs.map PV.int)
    (fun i e s => ∃ (ts : List T) (o2 o3 : Option PV), s = st ++ [.lst (ts.map Tm.Tm.pv), .lst (cs0.map PV.int), .lst (cs.map PV.int)] ∧ e = [some (.frz (ns.map PV.int)), some (.ref st.length), o2, o3, none] ∧ Row ts ∧ ts.Nodup ∧ ts.length ≤ i ∧ ∀ t ∈ ts, Ws t)
    (e := [some (.frz (ns.map PV.int)), some (.ref st.length), none, none, none]) (st := st ++ [.lst [], .lst (cs0.map PV.int), .lst (cs.map PV.int)])
    ⟨[], none, none, rfl, rfl, (fun i t h => by simp at h), List.nodup_nil, Nat.le_refl _, fun t h => by cases h⟩
    (fun i v e s hv ⟨ts, o2, o3, h1, h2, hr, hd, hl, hw⟩ => by
      subst h1 h2
      rw [List.getElem?_map] at hv
      obtain ⟨c, hc', rfl⟩ := Option.map_eq_some_iff.mp hv
      have il : i < cs.length := (List.getElem?_eq_some_iff.mp hc').1
      refine ⟨gd_one (getc _), _, rfl, ?_⟩
      obtain ⟨t, ht, gt, wt⟩ := F_term (ns := ns) (c := c) (n := ts.length) (st := st ++ [.lst (ts.map Tm.Tm.pv), .lst (cs0.map PV.int), .lst (cs.map PV.int)]) (by omega)
      have hr0 : (st ++ [PO.lst (ts.map Tm.Tm.pv), .lst (cs0.map PV.int), .lst (cs.map PV.int)])[st.length]? = some (.lst (ts.map Tm.Tm.pv)) := getS0
      have hin := in_T hr0 gt fun u hu => hr.good hu
      have lz : ts.length < 16777216 := by omega
      by_cases q : t ∈ ts
      · refine ⟨[some (.frz (ns.map PV.int)), some (.ref st.length), some (.int c), some t.pv, none], _, ?_, ts, _, _, rfl, rfl, hr, hd, by omega, hw⟩
        simp only [b_L_terms_s3, seqS, ifS, setS, augS, dropS, retS, retN, nxS, bkS, ctS, asgS, subS, R.toS, R.bind, R.of, opF, unF, varF, cstF, chF, isB, asB, andT, orT, notT, andF, orF, notF, ifF, nilA, consA, tupF, lstF, cbF, callF, bmF', truT, truV, nameG, nilG, consG, tupG, List.set_cons_zero, List.set_cons_succ, List.getElem?_cons_zero, List.getElem?_cons_succ, Option.bind_some, Option.bind_none, Option.map_some, Option.map_none, List.length_cons, List.length_nil, List.cons_append, List.nil_append, List.append_nil, if_true, if_false, ite_true, ite_false, Bool.false_eq_true, reduceIte, reduceCtorEq, List.map_cons, List.map_nil, Nat.sub_self, List.replicate_succ, List.replicate_zero, Nat.reduceSub, Nat.reduceAdd, Nat.reduceLT, Nat.reduceLeDiff, Nat.reduceEqDiff, Nat.reduceMul, Nat.reducePow, Int.reduceLT, Int.reduceLE, Int.reduceAdd, Int.reduceMul, Int.reduceSub, Int.reduceNeg, Int.reduceEq, Int.reducePow, Int.reduceMod, Int.reduceDiv, Int.reduceToNat, decide_true, decide_false, and_true, true_and, and_self, Option.some.injEq, lenV, hr0, List.length_map, ht, ninV, hin, q, Bool.not_true]
      · refine ⟨[some (.frz (ns.map PV.int)), some (.ref st.length), some (.int c), some t.pv, none], _, ?_, ts ++ [t], _, _, rfl, rfl, hr.app gt, ?_, by rw [List.length_append, List.length_singleton]; omega, fun u hu => by
          rcases List.mem_append.mp hu with hu | hu
          · exact hw u hu
          · rw [List.mem_singleton] at hu; subst hu; exact wt⟩
        · have tok : tyOk "list" (.ref st.length) (st ++ [PO.lst (ts.map Tm.Tm.pv), .lst (cs0.map PV.int), .lst (cs.map PV.int)]) = true := by simp only [tyOk, hr0]; rfl
          simp only [b_L_terms_s3, seqS, ifS, setS, augS, dropS, retS, retN, nxS, bkS, ctS, asgS, subS, R.toS, R.bind, R.of, opF, unF, varF, cstF, chF, isB, asB, andT, orT, notT, andF, orF, notF, ifF, nilA, consA, tupF, lstF, cbF, callF, bmF', truT, truV, nameG, nilG, consG, tupG, List.set_cons_zero, List.set_cons_succ, List.getElem?_cons_zero, List.getElem?_cons_succ, Option.bind_some, Option.bind_none, Option.map_some, Option.map_none, List.length_cons, List.length_nil, List.cons_append, List.nil_append, List.append_nil, if_true, if_false, ite_true, ite_false, Bool.false_eq_true, reduceIte, reduceCtorEq, List.map_cons, List.map_nil, Nat.sub_self, List.replicate_succ, List.replicate_zero, Nat.reduceSub, Nat.reduceAdd, Nat.reduceLT, Nat.reduceLeDiff, Nat.reduceEqDiff, Nat.reduceMul, Nat.reducePow, Int.reduceLT, Int.reduceLE, Int.reduceAdd, Int.reduceMul, Int.reduceSub, Int.reduceNeg, Int.reduceEq, Int.reducePow, Int.reduceMod, Int.reduceDiv, Int.reduceToNat, decide_true, decide_false, and_true, true_and, and_self, Option.some.injEq, lenV, hr0, List.length_map, ht, ninV, hin, q, Bool.not_false, tok, appendV, sizeLine_eq, lz, setS0_app, List.map_append]
        · rw [List.nodup_append]
          exact ⟨hd, List.nodup_cons.mpr ⟨List.not_mem_nil, List.nodup_nil⟩, fun x hx y hy => by rw [List.mem_singleton] at hy; subst hy; exact fun z => q (z ▸ hx)⟩)
    (fun e s ⟨ts, o2, o3, h1, _⟩ => by subst h1; exact gd_one (getc _))
  obtain ⟨ts, o2, o3, h3, h4, hr, hd, hl, hw⟩ := h2
  subst h3 h4
  rw [List.length_map] at hl
  refine ⟨ts, ?_, hr, hd, by omega, hw⟩
  unfold F_L_terms
  refine run_new (g := [.lst (ts.map Tm.Tm.pv), .lst (cs0.map PV.int), .lst (cs.map PV.int)]) (r := st.length) ?_ getS0 (Nat.le_refl _) (by simp only [objOk]; exact pures_refs _ (pvs_pure _))
  have hi : seqI (sliF (lcF (rng1I (consA (cbF lenV (consA (varF 0) nilA)) nilA)) [4] (nameG 4) b_L_terms_t2 b_L_terms_e1) noO (someO (cstF (.int 32)))) [some (.frz (ns.map PV.int)), some (.ref st.length), none, none, none] (st ++ [.lst []]) = .ok ⟨cs.map PV.int, [(st.length + 2, .lst (cs.map PV.int))]⟩ (st ++ [.lst [], .lst (cs0.map PV.int), .lst (cs.map PV.int)]) := by
    unfold seqI sliF
    rw [lc, bind_ok]
    simp only [noO, someO, asI, slV, seqS, ifS, setS, augS, dropS, retS, retN, nxS, bkS, ctS, asgS, subS, R.toS, R.bind, R.of, opF, unF, varF, cstF, chF, isB, asB, andT, orT, notT, andF, orF, notF, ifF, nilA, consA, tupF, lstF, cbF, callF, bmF', truT, truV, nameG, nilG, consG, tupG, List.set_cons_zero, List.set_cons_succ, List.getElem?_cons_zero, List.getElem?_cons_succ, Option.bind_some, Option.bind_none, Option.map_some, Option.map_none, List.length_cons, List.length_nil, List.cons_append, List.nil_append, List.append_nil, if_true, if_false, ite_true, ite_false, Bool.false_eq_true, reduceIte, reduceCtorEq, List.map_cons, List.map_nil, Nat.sub_self, List.replicate_succ, List.replicate_zero, Nat.reduceSub, Nat.reduceAdd, Nat.reduceLT, Nat.reduceLeDiff, Nat.reduceEqDiff, Nat.reduceMul, Nat.reducePow, Int.reduceLT, Int.reduceLE, Int.reduceAdd, Int.reduceMul, Int.reduceSub, Int.reduceNeg, Int.reduceEq, Int.reducePow, Int.reduceMod, Int.reduceDiv, Int.reduceToNat, decide_true, decide_false, and_true, true_and, and_self, Option.some.injEq, lstAt, seqAt, appS, lenS, getS, cut, gdOf]
  unfold b_L_terms
  refine (seqS_nx (e1 := [some (.frz (ns.map PV.int)), some (.ref st.length), none, none, none]) (s1 := st ++ [.lst []]) (by simp only [seqS, ifS, setS, augS, dropS, retS, retN, nxS, bkS, ctS, asgS, subS, R.toS, R.bind, R.of, opF, unF, varF, cstF, chF, isB, asB, andT, orT, notT, andF, orF, notF, ifF, nilA, consA, tupF, lstF, cbF, callF, bmF', truT, truV, nameG, nilG, consG, tupG, List.set_cons_zero, List.set_cons_succ, List.getElem?_cons_zero, List.getElem?_cons_succ, Option.bind_some, Option.bind_none, Option.map_some, Option.map_none, List.length_cons, List.length_nil, List.cons_append, List.nil_append, List.append_nil, if_true, if_false, ite_true, ite_false, Bool.false_eq_true, reduceIte, reduceCtorEq, List.map_cons, List.map_nil, Nat.sub_self, List.replicate_succ, List.replicate_zero, Nat.reduceSub, Nat.reduceAdd, Nat.reduceLT, Nat.reduceLeDiff, Nat.reduceEqDiff, Nat.reduceMul, Nat.reducePow, Int.reduceLT, Int.reduceLE, Int.reduceAdd, Int.reduceMul, Int.reduceSub, Int.reduceNeg, Int.reduceEq, Int.reducePow, Int.reduceMod, Int.reduceDiv, Int.reduceToNat, decide_true, decide_false, and_true, true_and, and_self, Option.some.injEq, sizeLine_eq])).trans ?_
  refine (seqS_nx (e1 := [some (.frz (ns.map PV.int)), some (.ref st.length), o2, o3, none]) (s1 := st ++ [.lst (ts.map Tm.Tm.pv), .lst (cs0.map PV.int), .lst (cs.map PV.int)]) ?_).trans ?_
  · unfold forS
    rw [hi, toS_ok]
    exact h1
  · simp only [seqS, ifS, setS, augS, dropS, retS, retN, nxS, bkS, ctS, asgS, subS, R.toS, R.bind, R.of, opF, unF, varF, cstF, chF, isB, asB, andT, orT, notT, andF, orF, notF, ifF, nilA, consA, tupF, lstF, cbF, callF, bmF', truT, truV, nameG, nilG, consG, tupG, List.set_cons_zero, List.set_cons_succ, List.getElem?_cons_zero, List.getElem?_cons_succ, Option.bind_some, Option.bind_none, Option.map_some, Option.map_none, List.length_cons, List.length_nil, List.cons_append, List.nil_append, List.append_nil, if_true, if_false, ite_true, ite_false, Bool.false_eq_true, reduceIte, reduceCtorEq, List.map_cons, List.map_nil, Nat.sub_self, List.replicate_succ, List.replicate_zero, Nat.reduceSub, Nat.reduceAdd, Nat.reduceLT, Nat.reduceLeDiff, Nat.reduceEqDiff, Nat.reduceMul, Nat.reducePow, Int.reduceLT, Int.reduceLE, Int.reduceAdd, Int.reduceMul, Int.reduceSub, Int.reduceNeg, Int.reduceEq, Int.reducePow, Int.reduceMod, Int.reduceDiv, Int.reduceToNat, decide_true, decide_false, and_true, true_and, and_self, Option.some.injEq]
theorem F_terms {ns : List Int} {st : Store} (hns : ns.length ≤ 63) : ∃ ts : List T, F_L_terms [.frz (ns.map PV.int)] st = .ok (.ref st.length) (st ++ [.lst (ts.map Tm.Tm.pv)]) ∧ Row ts ∧ ts.Nodup ∧ ts.length ≤ 32 := by
  obtain ⟨ts, h1, h2, h3, h4, _⟩ := F_termsW (ns := ns) (st := st) hns
  exact ⟨ts, h1, h2, h3, h4⟩
/-! ### edges -/
structure Ed where
  a : Nat
  b : Nat
  w : Int
def Ed.pv (e : Ed) : PV := .tup [.int (e.a : Int), .int (e.b : Int), .int e.w, .tup [.str "told"]]
def Ed.ok (n : Nat) (e : Ed) : Prop := e.a < n ∧ e.b < n ∧ 1 ≤ e.w ∧ e.w ≤ 10 ^ 12
theorem ed_pure (e : Ed) : pureP e.pv = true := rfl
theorem eds_pure (es : List Ed) : puresP (es.map Ed.pv) = true := pures_iff.mpr fun x hx => by
  obtain ⟨t, _, rfl⟩ := List.mem_map.mp hx
  rfl
theorem F_edges {ns : List Int} {n : Nat} {st : Store} (hns : ns.length ≤ 63) (hn : n ≤ 1000) : ∃ es : List Ed, F_L_edges [.frz (ns.map PV.int), .int (n : Int)] st = .ok (.ref st.length) (st ++ [.lst (es.map Ed.pv)]) ∧ (∀ e ∈ es, e.ok n) ∧ es.length ≤ 32 := by
  let cs0 : List Int := ((List.range ((ns.length : Int) - 2).toNat).filter fun i : Nat => decide ((2 + (i : Int) * 1) % 2 = 0)).map fun i => ns.getD (i + 2) 0
  have lc : lcF (rng2I (consA (cstF (.int 2)) (consA (cbF lenV (consA (varF 0) nilA)) nilA))) [6] (nameG 6) b_L_edges_t2 b_L_edges_e1 [some (.frz (ns.map PV.int)), some (.int (n : Int)), some (.ref st.length), none, none, none, none] (st ++ [PO.lst []]) = .ok (.ref (st ++ [PO.lst []]).length) (st ++ [PO.lst []] ++ [.lst (cs0.map PV.int)]) := by
    simp only [cs0, List.map_map]
    refine lcF_filter (gd := []) (List.range ((ns.length : Int) - 2).toNat) (fun i : Nat => PV.int (2 + (i : Nat) * 1)) (fun i : Nat => decide ((2 + (i : Int) * 1) % 2 = 0)) (PV.int ∘ fun i => ns.getD (i + 2) 0) (rng2_ok (i := 2) (j := (ns.length : Int)) (by simp only [seqS, ifS, setS, augS, dropS, retS, retN, nxS, bkS, ctS, asgS, subS, R.toS, R.bind, R.of, opF, unF, varF, cstF, chF, isB, asB, andT, orT, notT, andF, orF, notF, ifF, nilA, consA, tupF, lstF, cbF, callF, bmF', truT, truV, nameG, nilG, consG, tupG, List.set_cons_zero, List.set_cons_succ, List.getElem?_cons_zero, List.getElem?_cons_succ, Option.bind_some, Option.bind_none, Option.map_some, Option.map_none, List.length_cons, List.length_nil, List.cons_append, List.nil_append, List.append_nil, if_true, if_false, ite_true, ite_false, Bool.false_eq_true, reduceIte, reduceCtorEq, List.map_cons, List.map_nil, Nat.sub_self, List.replicate_succ, List.replicate_zero, Nat.reduceSub, Nat.reduceAdd, Nat.reduceLT, Nat.reduceLeDiff, Nat.reduceEqDiff, Nat.reduceMul, Nat.reducePow, Int.reduceLT, Int.reduceLE, Int.reduceAdd, Int.reduceMul, Int.reduceSub, Int.reduceNeg, Int.reduceEq, Int.reducePow, Int.reduceMod, Int.reduceDiv, Int.reduceToNat, decide_true, decide_false, and_true, true_and, and_self, Option.some.injEq, idxV, at0, at1, at2, at3, at4, at5, seqAt, lstAt, lenV, isiV, typV, kb1, kb2, kb3, kb4, kb5, kb6, kb7, kb8, kb9, kb10, kb11, List.length_map]) (by omega) (by omega) (by omega) (by omega)) (fun _ => gd_nil _) (by rw [sizeLine_eq, List.length_range]; omega) fun j hj => ⟨[some (.frz (ns.map PV.int)), some (.int (n : Int)), some (.ref st.length), none, none, none, some (.int (2 + (j : Nat) * 1))], rfl, fun acc => ⟨?_, fun _ => ?_⟩⟩
    · simp only [b_L_edges_t2, seqS, ifS, setS, augS, dropS, retS, retN, nxS, bkS, ctS, asgS, subS, R.toS, R.bind, R.of, opF, unF, varF, cstF, chF, isB, asB, andT, orT, notT, andF, orF, notF, ifF, nilA, consA, tupF, lstF, cbF, callF, bmF', truT, truV, nameG, nilG, consG, tupG, List.set_cons_zero, List.set_cons_succ, List.getElem?_cons_zero, List.getElem?_cons_succ, Option.bind_some, Option.bind_none, Option.map_some, Option.map_none, List.length_cons, List.length_nil, List.cons_append, List.nil_append, List.append_nil, if_true, if_false, ite_true, ite_false, Bool.false_eq_true, reduceIte, reduceCtorEq, List.map_cons, List.map_nil, Nat.sub_self, List.replicate_succ, List.replicate_zero, Nat.reduceSub, Nat.reduceAdd, Nat.reduceLT, Nat.reduceLeDiff, Nat.reduceEqDiff, Nat.reduceMul, Nat.reducePow, Int.reduceLT, Int.reduceLE, Int.reduceAdd, Int.reduceMul, Int.reduceSub, Int.reduceNeg, Int.reduceEq, Int.reducePow, Int.reduceMod, Int.reduceDiv, Int.reduceToNat, decide_true, decide_false, and_true, true_and, and_self, Option.some.injEq, addV, iaddV, subV, mulV, fdivV, modV, powV, negV, cmpV, isNonV, notNonV, eqV, neV, eqB, scEq, t1, t2, t3, t4, t5, t6, t7, t8, t9, t10, t11, t12, t13, t14, t15, t16]
    · have jl := List.mem_range.mp hj
      have ha := at_cell (ns := ns) (k := 2 + (j : Int) * 1) (by omega) (by omega)
      rw [show (2 + (j : Int) * 1).toNat = j + 2 by omega] at ha
      simp only [b_L_edges_e1, seqS, ifS, setS, augS, dropS, retS, retN, nxS, bkS, ctS, asgS, subS, R.toS, R.bind, R.of, opF, unF, varF, cstF, chF, isB, asB, andT, orT, notT, andF, orF, notF, ifF, nilA, consA, tupF, lstF, cbF, callF, bmF', truT, truV, nameG, nilG, consG, tupG, List.set_cons_zero, List.set_cons_succ, List.getElem?_cons_zero, List.getElem?_cons_succ, Option.bind_some, Option.bind_none, Option.map_some, Option.map_none, List.length_cons, List.length_nil, List.cons_append, List.nil_append, List.append_nil, if_true, if_false, ite_true, ite_false, Bool.false_eq_true, reduceIte, reduceCtorEq, List.map_cons, List.map_nil, Nat.sub_self, List.replicate_succ, List.replicate_zero, Nat.reduceSub, Nat.reduceAdd, Nat.reduceLT, Nat.reduceLeDiff, Nat.reduceEqDiff, Nat.reduceMul, Nat.reducePow, Int.reduceLT, Int.reduceLE, Int.reduceAdd, Int.reduceMul, Int.reduceSub, Int.reduceNeg, Int.reduceEq, Int.reducePow, Int.reduceMod, Int.reduceDiv, Int.reduceToNat, decide_true, decide_false, and_true, true_and, and_self, Option.some.injEq, idxV, at0, at1, at2, at3, at4, at5, seqAt, lstAt, lenV, isiV, typV, kb1, kb2, kb3, kb4, kb5, kb6, kb7, kb8, kb9, kb10, kb11, ha]
      rfl
  have cut := cut32 cs0
  obtain ⟨cs, hcs⟩ : ∃ cs, cs = cs0.take 32 := ⟨_, rfl⟩
  have cl : cs.length ≤ 32 := by rw [hcs, List.length_take]; omega
  rw [← hcs] at cut
  have getc : ∀ (o : PO), (st ++ [o, .lst (cs0.map PV.int), .lst (cs.map PV.int)])[st.length + 2]? = some (.lst (cs.map PV.int)) := fun o => by rw [getS]; rfl
  have c12 : ((0 : Int) ≤ 12 ∧ (12 : Int) ≤ 1000000 ∧ (10 : Int).natAbs < 2 ^ 64) := by decide
  obtain ⟨e', st', h1, h2⟩ := forL_inv (gd := [(st.length + 2, .lst (cs.map PV.int))]) (g := nameG 3) (b := b_L_edges_s3) (xs := cs.map PV.int)
    (fun i e s => ∃ (es : List Ed) (o3 o4 o5 : Option PV), s = st ++ [.lst (es.map Ed.pv), .lst (cs0.map PV.int), .lst (cs.map PV.int)] ∧ e = [some (.frz (ns.map PV.int)), some (.int (n : Int)), some (.ref st.length), o3, o4, o5, none] ∧ (∀ e ∈ es, e.ok n) ∧ es.length ≤ i)
    (e := [some (.frz (ns.map PV.int)), some (.int (n : Int)), some (.ref st.length), none, none, none, none]) (st := st ++ [.lst [], .lst (cs0.map PV.int), .lst (cs.map PV.int)])
    ⟨[], none, none, none, rfl, rfl, (fun e h => by cases h), Nat.le_refl _⟩
    (fun i v e s hv ⟨es, o3, o4, o5, h1, h2, hr, hl⟩ => by
      subst h1 h2
      rw [List.getElem?_map] at hv
      obtain ⟨c, hc', rfl⟩ := Option.map_eq_some_iff.mp hv
      have il : i < cs.length := (List.getElem?_eq_some_iff.mp hc').1
      refine ⟨gd_one (getc _), _, rfl, ?_⟩
      have dr : ∀ f m s, f.natAbs < 2 ^ 200 → 0 < m → F_L_draw [.int c, .int f, .int m] s = .ok (.int (drawI c f m)) s := fun f m s h1 h2 => F_draw h1 h2
      have d3 := fun s => dr 1226874159 3 s (by decide) (by decide)
      have hr0 : (st ++ [PO.lst (es.map Ed.pv), .lst (cs0.map PV.int), .lst (cs.map PV.int)])[st.length]? = some (.lst (es.map Ed.pv)) := getS0
      have lz : es.length < 16777216 := by omega
      by_cases q : 0 < (n : Int)
      · by_cases q2 : 0 < drawI c 1226874159 3
        · have a1 := fun s => dr 22695477 n s (by decide) q
          have a2 := fun s => dr 950706376 n s (by decide) q
          have z1 := draw_lt c 22695477 n q
          have z2 := draw_lt c 950706376 n q
          have w1 := md c (10 ^ 12) (by decide)
          refine ⟨[some (.frz (ns.map PV.int)), some (.int (n : Int)), some (.ref st.length), some (.int c), some (.int (drawI c 22695477 n)), some (.int (drawI c 950706376 n)), none], _, ?_, es ++ [⟨(drawI c 22695477 n).toNat, (drawI c 950706376 n).toNat, 1 + c % 10 ^ 12⟩], _, _, _, rfl, rfl, fun e he => ?_, by rw [List.length_append, List.length_singleton]; omega⟩
          · have tok : tyOk "list" (.ref st.length) (st ++ [PO.lst (es.map Ed.pv), .lst (cs0.map PV.int), .lst (cs.map PV.int)]) = true := by simp only [tyOk, hr0]; rfl
            have e1 : (((drawI c 22695477 n).toNat : Nat) : Int) = drawI c 22695477 n := by omega
            have e2 : (((drawI c 950706376 n).toNat : Nat) : Int) = drawI c 950706376 n := by omega
            simp only [b_L_edges_s3, seqS, ifS, setS, augS, dropS, retS, retN, nxS, bkS, ctS, asgS, subS, R.toS, R.bind, R.of, opF, unF, varF, cstF, chF, isB, asB, andT, orT, notT, andF, orF, notF, ifF, nilA, consA, tupF, lstF, cbF, callF, bmF', truT, truV, nameG, nilG, consG, tupG, List.set_cons_zero, List.set_cons_succ, List.getElem?_cons_zero, List.getElem?_cons_succ, Option.bind_some, Option.bind_none, Option.map_some, Option.map_none, List.length_cons, List.length_nil, List.cons_append, List.nil_append, List.append_nil, if_true, if_false, ite_true, ite_false, Bool.false_eq_true, reduceIte, reduceCtorEq, List.map_cons, List.map_nil, Nat.sub_self, List.replicate_succ, List.replicate_zero, Nat.reduceSub, Nat.reduceAdd, Nat.reduceLT, Nat.reduceLeDiff, Nat.reduceEqDiff, Nat.reduceMul, Nat.reducePow, Int.reduceLT, Int.reduceLE, Int.reduceAdd, Int.reduceMul, Int.reduceSub, Int.reduceNeg, Int.reduceEq, Int.reducePow, Int.reduceMod, Int.reduceDiv, Int.reduceToNat, decide_true, decide_false, and_true, true_and, and_self, Option.some.injEq, addV, iaddV, subV, mulV, fdivV, modV, powV, negV, cmpV, isNonV, notNonV, d3, q, q2, a1, a2, c12, tok, appendV, hr0, sizeLine_eq, lz, List.length_map, setS0_app, List.map_append, Ed.pv, e1, e2]
          · rcases List.mem_append.mp he with he | he
            · exact hr e he
            · rw [List.mem_singleton] at he
              subst he
              refine ⟨?_, ?_, ?_, ?_⟩
              · show (drawI c 22695477 n).toNat < n; omega
              · show (drawI c 950706376 n).toNat < n; omega
              · show 1 ≤ 1 + c % 10 ^ 12; omega
              · show 1 + c % 10 ^ 12 ≤ 10 ^ 12; omega
        · refine ⟨[some (.frz (ns.map PV.int)), some (.int (n : Int)), some (.ref st.length), some (.int c), o4, o5, none], _, ?_, es, _, _, _, rfl, rfl, hr, by omega⟩
          simp only [b_L_edges_s3, seqS, ifS, setS, augS, dropS, retS, retN, nxS, bkS, ctS, asgS, subS, R.toS, R.bind, R.of, opF, unF, varF, cstF, chF, isB, asB, andT, orT, notT, andF, orF, notF, ifF, nilA, consA, tupF, lstF, cbF, callF, bmF', truT, truV, nameG, nilG, consG, tupG, List.set_cons_zero, List.set_cons_succ, List.getElem?_cons_zero, List.getElem?_cons_succ, Option.bind_some, Option.bind_none, Option.map_some, Option.map_none, List.length_cons, List.length_nil, List.cons_append, List.nil_append, List.append_nil, if_true, if_false, ite_true, ite_false, Bool.false_eq_true, reduceIte, reduceCtorEq, List.map_cons, List.map_nil, Nat.sub_self, List.replicate_succ, List.replicate_zero, Nat.reduceSub, Nat.reduceAdd, Nat.reduceLT, Nat.reduceLeDiff, Nat.reduceEqDiff, Nat.reduceMul, Nat.reducePow, Int.reduceLT, Int.reduceLE, Int.reduceAdd, Int.reduceMul, Int.reduceSub, Int.reduceNeg, Int.reduceEq, Int.reducePow, Int.reduceMod, Int.reduceDiv, Int.reduceToNat, decide_true, decide_false, and_true, true_and, and_self, Option.some.injEq, addV, iaddV, subV, mulV, fdivV, modV, powV, negV, cmpV, isNonV, notNonV, d3, q, q2]
      · refine ⟨[some (.frz (ns.map PV.int)), some (.int (n : Int)), some (.ref st.length), some (.int c), o4, o5, none], _, ?_, es, _, _, _, rfl, rfl, hr, by omega⟩
        simp only [b_L_edges_s3, seqS, ifS, setS, augS, dropS, retS, retN, nxS, bkS, ctS, asgS, subS, R.toS, R.bind, R.of, opF, unF, varF, cstF, chF, isB, asB, andT, orT, notT, andF, orF, notF, ifF, nilA, consA, tupF, lstF, cbF, callF, bmF', truT, truV, nameG, nilG, consG, tupG, List.set_cons_zero, List.set_cons_succ, List.getElem?_cons_zero, List.getElem?_cons_succ, Option.bind_some, Option.bind_none, Option.map_some, Option.map_none, List.length_cons, List.length_nil, List.cons_append, List.nil_append, List.append_nil, if_true, if_false, ite_true, ite_false, Bool.false_eq_true, reduceIte, reduceCtorEq, List.map_cons, List.map_nil, Nat.sub_self, List.replicate_succ, List.replicate_zero, Nat.reduceSub, Nat.reduceAdd, Nat.reduceLT, Nat.reduceLeDiff, Nat.reduceEqDiff, Nat.reduceMul, Nat.reducePow, Int.reduceLT, Int.reduceLE, Int.reduceAdd, Int.reduceMul, Int.reduceSub, Int.reduceNeg, Int.reduceEq, Int.reducePow, Int.reduceMod, Int.reduceDiv, Int.reduceToNat, decide_true, decide_false, and_true, true_and, and_self, Option.some.injEq, addV, iaddV, subV, mulV, fdivV, modV, powV, negV, cmpV, isNonV, notNonV, q])
    (fun e s ⟨ts, o2, o3, _, h1, _⟩ => by subst h1; exact gd_one (getc _))
  obtain ⟨es, o3, o4, o5, h3, h4, hr, hl⟩ := h2
  subst h3 h4
  rw [List.length_map] at hl
  refine ⟨es, ?_, hr, by omega⟩
  unfold F_L_edges
  refine run_new (g := [.lst (es.map Ed.pv), .lst (cs0.map PV.int), .lst (cs.map PV.int)]) (r := st.length) ?_ getS0 (Nat.le_refl _) (by simp only [objOk]; exact pures_refs _ (eds_pure _))
  have hi : seqI (sliF (lcF (rng2I (consA (cstF (.int 2)) (consA (cbF lenV (consA (varF 0) nilA)) nilA))) [6] (nameG 6) b_L_edges_t2 b_L_edges_e1) noO (someO (cstF (.int 32)))) [some (.frz (ns.map PV.int)), some (.int (n : Int)), some (.ref st.length), none, none, none, none] (st ++ [.lst []]) = .ok ⟨cs.map PV.int, [(st.length + 2, .lst (cs.map PV.int))]⟩ (st ++ [.lst [], .lst (cs0.map PV.int), .lst (cs.map PV.int)]) := by
    unfold seqI sliF
    rw [lc, bind_ok]
    simp only [noO, someO, asI, slV, seqS, ifS, setS, augS, dropS, retS, retN, nxS, bkS, ctS, asgS, subS, R.toS, R.bind, R.of, opF, unF, varF, cstF, chF, isB, asB, andT, orT, notT, andF, orF, notF, ifF, nilA, consA, tupF, lstF, cbF, callF, bmF', truT, truV, nameG, nilG, consG, tupG, List.set_cons_zero, List.set_cons_succ, List.getElem?_cons_zero, List.getElem?_cons_succ, Option.bind_some, Option.bind_none, Option.map_some, Option.map_none, List.length_cons, List.length_nil, List.cons_append, List.nil_append, List.append_nil, if_true, if_false, ite_true, ite_false, Bool.false_eq_true, reduceIte, reduceCtorEq, List.map_cons, List.map_nil, Nat.sub_self, List.replicate_succ, List.replicate_zero, Nat.reduceSub, Nat.reduceAdd, Nat.reduceLT, Nat.reduceLeDiff, Nat.reduceEqDiff, Nat.reduceMul, Nat.reducePow, Int.reduceLT, Int.reduceLE, Int.reduceAdd, Int.reduceMul, Int.reduceSub, Int.reduceNeg, Int.reduceEq, Int.reducePow, Int.reduceMod, Int.reduceDiv, Int.reduceToNat, decide_true, decide_false, and_true, true_and, and_self, Option.some.injEq, lstAt, seqAt, appS, lenS, getS, cut, gdOf]
  unfold b_L_edges
  refine (seqS_nx (e1 := [some (.frz (ns.map PV.int)), some (.int (n : Int)), some (.ref st.length), none, none, none, none]) (s1 := st ++ [.lst []]) (by simp only [seqS, ifS, setS, augS, dropS, retS, retN, nxS, bkS, ctS, asgS, subS, R.toS, R.bind, R.of, opF, unF, varF, cstF, chF, isB, asB, andT, orT, notT, andF, orF, notF, ifF, nilA, consA, tupF, lstF, cbF, callF, bmF', truT, truV, nameG, nilG, consG, tupG, List.set_cons_zero, List.set_cons_succ, List.getElem?_cons_zero, List.getElem?_cons_succ, Option.bind_some, Option.bind_none, Option.map_some, Option.map_none, List.length_cons, List.length_nil, List.cons_append, List.nil_append, List.append_nil, if_true, if_false, ite_true, ite_false, Bool.false_eq_true, reduceIte, reduceCtorEq, List.map_cons, List.map_nil, Nat.sub_self, List.replicate_succ, List.replicate_zero, Nat.reduceSub, Nat.reduceAdd, Nat.reduceLT, Nat.reduceLeDiff, Nat.reduceEqDiff, Nat.reduceMul, Nat.reducePow, Int.reduceLT, Int.reduceLE, Int.reduceAdd, Int.reduceMul, Int.reduceSub, Int.reduceNeg, Int.reduceEq, Int.reducePow, Int.reduceMod, Int.reduceDiv, Int.reduceToNat, decide_true, decide_false, and_true, true_and, and_self, Option.some.injEq, sizeLine_eq])).trans ?_
  refine (seqS_nx (e1 := [some (.frz (ns.map PV.int)), some (.int (n : Int)), some (.ref st.length), o3, o4, o5, none]) (s1 := st ++ [.lst (es.map Ed.pv), .lst (cs0.map PV.int), .lst (cs.map PV.int)]) ?_).trans ?_
  · unfold forS
    rw [hi, toS_ok]
    exact h1
  · simp only [seqS, ifS, setS, augS, dropS, retS, retN, nxS, bkS, ctS, asgS, subS, R.toS, R.bind, R.of, opF, unF, varF, cstF, chF, isB, asB, andT, orT, notT, andF, orF, notF, ifF, nilA, consA, tupF, lstF, cbF, callF, bmF', truT, truV, nameG, nilG, consG, tupG, List.set_cons_zero, List.set_cons_succ, List.getElem?_cons_zero, List.getElem?_cons_succ, Option.bind_some, Option.bind_none, Option.map_some, Option.map_none, List.length_cons, List.length_nil, List.cons_append, List.nil_append, List.append_nil, if_true, if_false, ite_true, ite_false, Bool.false_eq_true, reduceIte, reduceCtorEq, List.map_cons, List.map_nil, Nat.sub_self, List.replicate_succ, List.replicate_zero, Nat.reduceSub, Nat.reduceAdd, Nat.reduceLT, Nat.reduceLeDiff, Nat.reduceEqDiff, Nat.reduceMul, Nat.reducePow, Int.reduceLT, Int.reduceLE, Int.reduceAdd, Int.reduceMul, Int.reduceSub, Int.reduceNeg, Int.reduceEq, Int.reducePow, Int.reduceMod, Int.reduceDiv, Int.reduceToNat, decide_true, decide_false, and_true, true_and, and_self, Option.some.injEq]
theorem F_whole {i : Int} {st : Store} : F_L_whole_2 [.int i] st = .ok (.bl true) st := by
  unfold F_L_whole_2
  refine run_rt0 ?_ rfl
  simp only [b_L_whole_2, seqS, ifS, setS, augS, dropS, retS, retN, nxS, bkS, ctS, asgS, subS, R.toS, R.bind, R.of, opF, unF, varF, cstF, chF, isB, asB, andT, orT, notT, andF, orF, notF, ifF, nilA, consA, tupF, lstF, cbF, callF, bmF', truT, truV, nameG, nilG, consG, tupG, List.set_cons_zero, List.set_cons_succ, List.getElem?_cons_zero, List.getElem?_cons_succ, Option.bind_some, Option.bind_none, Option.map_some, Option.map_none, List.length_cons, List.length_nil, List.cons_append, List.nil_append, List.append_nil, if_true, if_false, ite_true, ite_false, Bool.false_eq_true, reduceIte, reduceCtorEq, List.map_cons, List.map_nil, Nat.sub_self, List.replicate_succ, List.replicate_zero, Nat.reduceSub, Nat.reduceAdd, Nat.reduceLT, Nat.reduceLeDiff, Nat.reduceEqDiff, Nat.reduceMul, Nat.reducePow, Int.reduceLT, Int.reduceLE, Int.reduceAdd, Int.reduceMul, Int.reduceSub, Int.reduceNeg, Int.reduceEq, Int.reducePow, Int.reduceMod, Int.reduceDiv, Int.reduceToNat, decide_true, decide_false, and_true, true_and, and_self, Option.some.injEq, idxV, at0, at1, at2, at3, at4, at5, seqAt, lstAt, lenV, isiV, typV, kb1, kb2, kb3, kb4, kb5, kb6, kb7, kb8, kb9, kb10, kb11, Bool.not_false]
end Ct
end
end FL
end
section
set_option linter.all false
set_option maxRecDepth 100000
namespace FL
open PySem PySem.Spec PyProof.Rows L2
noncomputable section
/-! ## walks that pass -/
theorem for_pass {fi : FI} {g : FG} {b : FS} {e : Env} {st s1 : Store} {xs : List PV} {gd : List (Nat × PO)} (P : Env → Prop) (hi : fi e st = .ok ⟨xs, gd⟩ s1) (hg : GdOk gd s1) (h0 : P e)
    (hs : ∀ (i : Nat) x e, xs[i]? = some x → P e → ∃ e1, g x e = some e1 ∧ ∃ e2, b e1 s1 = .nx e2 s1 ∧ P e2) : ∃ e', forS fi g b e st = .nx e' s1 ∧ P e' := by
  unfold forS
  rw [hi, toS_ok]
  obtain ⟨e', s', h1, rfl, h2⟩ := forL_inv (gd := gd) (g := g) (b := b) (xs := xs) (fun i e st => st = s1 ∧ P e) (e := e) (st := s1) ⟨rfl, h0⟩
    (fun i x e st hx ⟨h1, h2⟩ => by
      subst h1
      obtain ⟨e1, q1, e2, q2, q3⟩ := hs i x e hx h2
      exact ⟨hg, e1, q1, e2, _, q2, rfl, q3⟩) (fun e st ⟨h, _⟩ => by rw [h]; exact hg)
  exact ⟨e', h1, h2⟩
/-- over range(n) -/
theorem for_rng {f : FA} {i0 : Nat} {b : FS} {e : Env} {st : Store} {n : Nat} (P : Nat → Env → Prop) (Q : Nat → Store → Prop) (hi : f e st = .ok [.int (n : Int)] st) (hn : n < 1000000) (h0 : P 0 e) (q0 : Q 0 st)
    (hs : ∀ (i : Nat) e s, i < n → P i e → Q i s → ∃ e2 s2, b (e.set i0 (some (.int (i : Int)))) s = .nx e2 s2 ∧ P (i + 1) e2 ∧ Q (i + 1) s2) : ∃ e' s', forS (rng1I f) (nameG i0) b e st = .nx e' s' ∧ P n e' ∧ Q n s' := by
  have hw : rng1I f e st = .ok ⟨intL 0 1 n, []⟩ st := by
    have := rng1I_ok hi (by omega) (by omega)
    rwa [Int.toNat_natCast] at this
  unfold forS
  rw [hw, toS_ok]
  obtain ⟨e', s', h1, h2⟩ := forL_inv (gd := []) (g := nameG i0) (b := b) (xs := intL 0 1 n) (fun i e st => P i e ∧ Q i st) (e := e) (st := st) ⟨h0, q0⟩
    (fun i x e st hx ⟨h1, h2⟩ => by
      rw [intL_get] at hx
      split at hx
      · rename_i hi'
        cases hx
        rw [Int.mul_one, Int.zero_add]
        obtain ⟨e2, s2, a, b, c⟩ := hs i e st hi' h1 h2
        exact ⟨gd_nil _, _, rfl, e2, s2, a, b, c⟩
      · cases hx) (fun e st _ => gd_nil _)
  rw [intL_len] at h2
  exact ⟨e', s', h1, h2⟩
theorem seqI_ref {f : FE} {e : Env} {st s1 : Store} {r : Nat} {xs : List PV} (h : f e st = .ok (.ref r) s1) (hr : s1[r]? = some (.lst xs)) : seqI f e st = .ok ⟨xs, [(r, .lst xs)]⟩ s1 := by
  simp only [seqI, h, R.bind, seqAt, lstAt, hr, gdOf]
theorem gd1 {s : Store} {r : Nat} {o : PO} (h : s[r]? = some o) : GdOk [(r, o)] s := fun p hp => by
  rw [List.mem_singleton] at hp
  subst hp
  exact h
namespace Dt
open Classical
/-! ## plain data: None, ints, texts, tuples of them; equality -/
mutual
def dk : Nat → PV → Bool
  | 0, _ => false
  | n + 1, .non => true
  | n + 1, .int _ => true
  | n + 1, .str x => PyData.strOk x
  | n + 1, .tup xs => dks n xs
  | _, _ => false
def dks : Nat → List PV → Bool
  | _, [] => true
  | n, x :: xs => dk n x && dks n xs
end
theorem dks_iff {n : Nat} {xs : List PV} : dks n xs = true ↔ ∀ x ∈ xs, dk n x = true := by
  induction xs with
  | nil => simp [dks]
  | cons x xs ih => simp [dks, ih]
theorem dks_map {α : Type} {n : Nat} {f : α → PV} {as : List α} (h : ∀ a ∈ as, dk n (f a) = true) : dks n (as.map f) = true := dks_iff.mpr fun x hx => by
  obtain ⟨a, ha, rfl⟩ := List.mem_map.mp hx
  exact h a ha
/-! the data of a value -/
mutual
def dat : PV → PyData
  | .int i => .int i
  | .str x => .str x
  | .tup xs => .tuple (dats xs)
  | _ => .none
def dats : List PV → List PyData
  | [] => []
  | x :: xs => dat x :: dats xs
end
theorem toD_dk : ∀ (n : Nat) (v : PV) (s : Store) (k : Nat), dk n v = true → n ≤ k → toD k s v = some (dat v) := by
  intro n
  induction n with
  | zero => intro v s k h; simp [dk] at h
  | succ n ih =>
    intro v s k h hk
    obtain ⟨k, rfl⟩ : ∃ j, k = j + 1 := ⟨k - 1, by omega⟩
    cases v with
    | non => rfl
    | int i => rfl
    | str x => simp only [dk] at h; simp only [toD, h, if_true, dat]
    | tup xs =>
      simp only [dk] at h
      have key : ∀ xs : List PV, dks n xs = true → toDs (toD k s) xs = some (dats xs) := fun xs => by
        induction xs with
        | nil => intro _; rfl
        | cons x xs ihx =>
          intro h
          simp only [dks, Bool.and_eq_true] at h
          simp only [toDs, ih x s k h.1 (by omega), ihx h.2, dats]
      simp only [toD, key xs h, Option.map_some, dat]
    | _ => simp [dk] at h
theorem toDs_dk {n k : Nat} {s : Store} (hk : n ≤ k) : ∀ {xs : List PV}, dks n xs = true → toDs (toD k s) xs = some (dats xs)
  | [], _ => rfl
  | x :: xs, h => by
    simp only [dks, Bool.and_eq_true] at h
    simp only [toDs, toD_dk n x s k h.1 hk, toDs_dk hk h.2, dats]
theorem eqv_dat : ∀ (n : Nat) (v w : PV) (m : Nat), dk n v = true → dk m w = true → (PyData.eqv (dat v) (dat w) = true ↔ v = w) := by
  intro n
  induction n with
  | zero => intro v w m h; simp [dk] at h
  | succ n ih =>
    intro v w m hv hw
    obtain ⟨m, rfl⟩ : ∃ j, m = j + 1 := ⟨m - 1, by
      cases m with
      | zero => simp [dk] at hw
      | succ m => omega⟩
    have key : ∀ xs ys : List PV, dks n xs = true → dks m ys = true → (PyData.eqvAll (dats xs) (dats ys) = true ↔ xs = ys) := fun xs => by
      induction xs with
      | nil => intro ys _ _; cases ys <;> simp [dats, PyData.eqvAll]
      | cons x xs ihx =>
        intro ys h1 h2
        cases ys with
        | nil => simp [dats, PyData.eqvAll]
        | cons y ys =>
          simp only [dks, Bool.and_eq_true] at h1 h2
          simp only [dats, PyData.eqvAll, Bool.and_eq_true, ih x y m h1.1 h2.1, ihx ys h1.2 h2.2, List.cons.injEq]
    cases v <;> cases w <;> simp only [dk, Bool.false_eq_true] at hv hw <;> simp only [dat, PyData.eqv, beq_iff_eq, reduceCtorEq, Bool.false_eq_true, PV.int.injEq, PV.str.injEq, PV.tup.injEq, true_iff, iff_self]
    exact key _ _ hv hw
theorem scEq_dk {n m : Nat} {v w : PV} {b : Bool} (hv : dk n v = true) (hw : dk m w = true) (e : scEq v w = some b) : b = decide (v = w) := by
  cases v <;> cases w <;> simp only [scEq, Option.some.injEq, reduceCtorEq] at e <;> subst e <;> simp
theorem eqB_dk {n m : Nat} {v w : PV} {s : Store} (hv : dk n v = true) (hw : dk m w = true) (hn : n ≤ 64) (hm : m ≤ 64) : eqB v w s = some (decide (v = w)) := by
  unfold eqB
  cases e : scEq v w with
  | some b => simp only [scEq_dk hv hw e]
  | none =>
    simp only [toD_dk n v s 64 hv hn, toD_dk m w s 64 hw hm]
    have := eqv_dat n v w m hv hw
    by_cases q : v = w
    · rw [decide_eq_true q, this.mpr q]
    · rw [decide_eq_false q]
      cases c : PyData.eqv (dat v) (dat w) with
      | false => rfl
      | true => exact absurd (this.mp c) q
theorem eq_dk {n m : Nat} {v w : PV} {s : Store} (hv : dk n v = true) (hw : dk m w = true) (hn : n ≤ 64 := by decide) (hm : m ≤ 64 := by decide) : eqV v w s = some (.bl (decide (v = w)), s) := by
  unfold eqV
  rw [eqB_dk hv hw hn hm]
  rfl
theorem ne_dk {n m : Nat} {v w : PV} {s : Store} (hv : dk n v = true) (hw : dk m w = true) (hn : n ≤ 64 := by decide) (hm : m ≤ 64 := by decide) : neV v w s = some (.bl (!decide (v = w)), s) := by
  unfold neV
  rw [eqB_dk hv hw hn hm]
  rfl
/-! ### lists of them -/
theorem eqvAll_dats {n m : Nat} {xs ys : List PV} (h1 : dks n xs = true) (h2 : dks m ys = true) : (PyData.eqvAll (dats xs) (dats ys) = true ↔ xs = ys) := by
  have := eqv_dat (n + 1) (.tup xs) (.tup ys) (m + 1) (by simpa [dk] using h1) (by simpa [dk] using h2)
  simpa [dat, PyData.eqv] using this
theorem toD_lst {n k a : Nat} {xs : List PV} {s : Store} (h : s[a]? = some (.lst xs)) (hx : dks n xs = true) (hk : n < k) : toD k s (.ref a) = some (.list (dats xs)) := by
  obtain ⟨k, rfl⟩ : ∃ j, k = j + 1 := ⟨k - 1, by omega⟩
  simp only [toD, h, toDs_dk (show n ≤ k by omega) hx, Option.map_some]
theorem eqB_lst {n m a b : Nat} {xs ys : List PV} {s : Store} (ha : s[a]? = some (.lst xs)) (hb : s[b]? = some (.lst ys)) (hx : dks n xs = true) (hy : dks m ys = true) (hn : n < 64) (hm : m < 64) : eqB (.ref a) (.ref b) s = some (decide (xs = ys)) := by
  unfold eqB
  rw [show scEq (.ref a) (.ref b) = none from rfl]
  simp only [toD_lst ha hx hn, toD_lst hb hy hm]
  show some (PyData.eqvAll (dats xs) (dats ys)) = _
  have := eqvAll_dats hx hy
  by_cases q : xs = ys
  · rw [decide_eq_true q, this.mpr q]
  · rw [decide_eq_false q]
    cases c : PyData.eqvAll (dats xs) (dats ys) with
    | false => rfl
    | true => exact absurd (this.mp c) q
theorem eq_lst {n m a b : Nat} {xs ys : List PV} {s : Store} (ha : s[a]? = some (.lst xs)) (hb : s[b]? = some (.lst ys)) (hx : dks n xs = true) (hy : dks m ys = true) (hn : n < 64 := by decide) (hm : m < 64 := by decide) : eqV (.ref a) (.ref b) s = some (.bl (decide (xs = ys)), s) := by
  unfold eqV
  rw [eqB_lst ha hb hx hy hn hm]
  rfl
theorem ne_lst {n m a b : Nat} {xs ys : List PV} {s : Store} (ha : s[a]? = some (.lst xs)) (hb : s[b]? = some (.lst ys)) (hx : dks n xs = true) (hy : dks m ys = true) (hn : n < 64 := by decide) (hm : m < 64 := by decide) : neV (.ref a) (.ref b) s = some (.bl (!decide (xs = ys)), s) := by
  unfold neV
  rw [eqB_lst ha hb hx hy hn hm]
  rfl
/-! ### things that are the same -/
theorem eqv_self : ∀ (k : Nat) (s : Store) (x : PV) (d : PyData), toD k s x = some d → PyData.eqv d d = true := by
  intro k
  induction k with
  | zero => intro s x d h; cases h
  | succ k ih =>
    intro s x d h
    have key : ∀ (xs : List PV) (ds : List PyData), toDs (toD k s) xs = some ds → PyData.eqvAll ds ds = true := fun xs => by
      induction xs with
      | nil => intro ds h; simp only [toDs, Option.some.injEq] at h; subst h; rfl
      | cons x xs ihx =>
        intro ds h
        simp only [toDs] at h
        split at h
        · rename_i d ds' h1 h2
          cases h
          simp only [PyData.eqvAll, ih s x d h1, ihx ds' h2, Bool.and_self]
        · cases h
    cases x with
    | non => simp only [toD, Option.some.injEq] at h; subst h; rfl
    | bl b => simp only [toD, Option.some.injEq] at h; subst h; simp [PyData.eqv]
    | int b => simp only [toD, Option.some.injEq] at h; subst h; simp [PyData.eqv]
    | str b =>
      simp only [toD] at h
      split at h
      · cases h; simp [PyData.eqv]
      · cases h
    | tup xs =>
      simp only [toD] at h
      obtain ⟨ds, h1, rfl⟩ := Option.map_eq_some_iff.mp h
      simp only [PyData.eqv]
      exact key _ _ h1
    | frz xs =>
      simp only [toD] at h
      obtain ⟨ds, h1, rfl⟩ := Option.map_eq_some_iff.mp h
      simp only [PyData.eqv]
      exact key _ _ h1
    | ref n =>
      simp only [toD] at h
      split at h
      · obtain ⟨ds, h1, rfl⟩ := Option.map_eq_some_iff.mp h
        simp only [PyData.eqv]
        exact key _ _ h1
      · cases h
    | _ => cases h
theorem same_ref {a b : Nat} {s : Store} {d : PyData} (h1 : toD 64 s (.ref a) = some d) (h2 : toD 64 s (.ref b) = some d) : eqV (.ref a) (.ref b) s = some (.bl true, s) ∧ neV (.ref a) (.ref b) s = some (.bl false, s) := by
  unfold eqV neV eqB
  rw [show scEq (.ref a) (.ref b) = none from rfl]
  simp only [h1, h2, eqv_self _ _ _ _ h1]
  exact ⟨rfl, rfl⟩
/-- a list of lists of plain data -/
theorem toD_lst2 {n k a : Nat} {rs : List Nat} {xss : List (List PV)} {s : Store} (h : s[a]? = some (.lst (rs.map PV.ref))) (hl : rs.length = xss.length) (hx : ∀ (i : Nat) r xs, rs[i]? = some r → xss[i]? = some xs → s[r]? = some (.lst xs) ∧ dks n xs = true) (hk : n + 1 < k) :
    toD k s (.ref a) = some (.list (xss.map fun xs => .list (dats xs))) := by
  obtain ⟨k, rfl⟩ : ∃ j, k = j + 1 := ⟨k - 1, by omega⟩
  have key : ∀ (rs : List Nat) (xss : List (List PV)), rs.length = xss.length → (∀ (i : Nat) r xs, rs[i]? = some r → xss[i]? = some xs → s[r]? = some (.lst xs) ∧ dks n xs = true) → toDs (toD k s) (rs.map PV.ref) = some (xss.map fun xs => .list (dats xs)) := fun rs => by
    induction rs with
    | nil => intro xss hl _; cases xss with | nil => rfl | cons _ _ => cases hl
    | cons r rs ih =>
      intro xss hl hx
      cases xss with
      | nil => cases hl
      | cons xs xss =>
        obtain ⟨h1, h2⟩ := hx 0 r xs rfl rfl
        rw [List.map_cons, List.map_cons]
        simp only [toDs, toD_lst h1 h2 (show n < k by omega), ih xss (by simpa using hl) fun i r xs a b => hx (i + 1) r xs (by simpa using a) (by simpa using b)]
  simp only [toD, h, key rs xss hl hx, Option.map_some]
end Dt
end
end FL
end
section
set_option linter.all false
set_option maxRecDepth 100000
namespace FL
open PySem PySem.Spec PyProof.Rows L2
noncomputable section
namespace Sz
abbrev T := Tm.Tm
/-! ## how great the tree of a term is -/
def ga (acc : List (Int × Int)) (a : Int) : Int × Int := acc.getD a.toNat (0, 0)
def one (acc : List (Int × Int)) : T → Int × Int
  | .of _ as => (1 + (as.map fun a => (ga acc a).1).sum, 1 + maxL (as.map fun a => (ga acc a).2))
  | _ => (1, 1)
def szs (ts : List T) : List (Int × Int) := ts.foldl (fun acc t => acc ++ [one acc t]) []
theorem szs_app (ts : List T) (t : T) : szs (ts ++ [t]) = szs ts ++ [one (szs ts) t] := by
  unfold szs
  rw [List.foldl_append]
  rfl
theorem szs_len (ts : List T) : (szs ts).length = ts.length := by
  have : ∀ (ts : List T) (acc : List (Int × Int)), (ts.foldl (fun acc t => acc ++ [one acc t]) acc).length = acc.length + ts.length := fun ts => by
    induction ts with
    | nil => intro acc; rfl
    | cons t r ih => intro acc; rw [List.foldl_cons, ih]; simp; omega
  have := this ts []
  simpa [szs] using this
theorem szs_pre (ts us : List T) : ∃ r, szs (ts ++ us) = szs ts ++ r := by
  have : ∀ (us : List T) (acc : List (Int × Int)), ∃ r, us.foldl (fun acc t => acc ++ [one acc t]) acc = acc ++ r := fun us => by
    induction us with
    | nil => intro acc; exact ⟨[], by simp⟩
    | cons t q ih =>
      intro acc
      obtain ⟨r, hr⟩ := ih (acc ++ [one acc t])
      exact ⟨one acc t :: r, by rw [List.foldl_cons, hr]; simp⟩
  unfold szs
  rw [List.foldl_append]
  exact this us _
theorem szs_take (ts : List T) (k : Nat) : szs (ts.take k) = (szs ts).take k := by
  by_cases h : k ≤ ts.length
  · obtain ⟨r, hr⟩ := szs_pre (ts.take k) (ts.drop k)
    rw [List.take_append_drop] at hr
    have ll : (szs (ts.take k)).length = k := by rw [szs_len, List.length_take]; omega
    rw [hr, List.take_append_of_le_length (by omega), List.take_of_length_le (l := szs (ts.take k)) (by omega)]
  · rw [List.take_of_length_le (l := ts) (by omega), List.take_of_length_le (l := szs ts) (by rw [szs_len]; omega)]
/-- the terms' rows: each stands on earlier ones, and no knot is bare -/
def Ne : T → Prop
  | .of _ as => as ≠ []
  | _ => True
structure Rw (ts : List T) : Prop where
  row : Ct.Row ts
  ne : ∀ t ∈ ts, Ne t
theorem Rw.nil : Rw [] := ⟨fun i t h => by simp at h, fun t h => by cases h⟩
theorem Rw.app {ts : List T} {t : T} (h : Rw ts) (ht : t.Good ts.length) (hn : Ne t) : Rw (ts ++ [t]) := ⟨h.row.app ht, fun u hu => by
  rcases List.mem_append.mp hu with hu | hu
  · exact h.ne u hu
  · rw [List.mem_singleton] at hu; subst hu; exact hn⟩
theorem Rw.take {ts : List T} (h : Rw ts) (k : Nat) : Rw (ts.take k) := ⟨fun i t ht => (by
  rw [List.getElem?_take] at ht
  split at ht
  · exact h.row i t ht
  · cases ht), fun t ht => h.ne t (List.mem_of_mem_take ht)⟩
theorem sz_at {ts : List T} {i : Nat} {t : T} (h : ts[i]? = some t) : (szs ts)[i]? = some (one (szs (ts.take i)) t) := by
  have hi : i < ts.length := (List.getElem?_eq_some_iff.mp h).1
  have e : ts.take (i + 1) = ts.take i ++ [t] := by
    rw [List.take_add_one, h]; rfl
  have := szs_take ts (i + 1)
  rw [e, szs_app] at this
  have q : ((szs ts).take (i + 1))[i]? = (szs ts)[i]? := by rw [List.getElem?_take, if_pos (by omega)]
  rw [← q, ← this, List.getElem?_append_right (by rw [szs_len, List.length_take]; omega)]
  rw [szs_len, List.length_take, show i - min i ts.length = 0 by omega]
  rfl
theorem ga_take {ts : List T} {i : Nat} {a : Int} (h : a.toNat < i) : ga (szs (ts.take i)) a = ga (szs ts) a := by
  unfold ga
  rw [szs_take, List.getD_eq_getElem?_getD, List.getD_eq_getElem?_getD, List.getElem?_take, if_pos h]
/-- the size of a knot by its arms' sizes -/
theorem sz_of {ts : List T} (hr : Rw ts) {i : Nat} {w : Str} {as : List Int} (h : ts[i]? = some (.of w as)) : (szs ts)[i]? = some (one (szs ts) (.of w as)) := by
  rw [sz_at h]
  have g := hr.row i _ h
  have e1 : ∀ {β : Type} (f : Int × Int → β), (as.map fun a => f (ga (szs (ts.take i)) a)) = as.map fun a => f (ga (szs ts) a) := fun f => List.map_congr_left fun a ha => by
    rw [ga_take]
    have := g.2.2 a ha
    omega
  have q1 := e1 Prod.fst
  have q2 := e1 Prod.snd
  simp only [one, q1, q2]
theorem maxL_ge {ns : List Int} {a : Int} (h : a ∈ ns) : a ≤ maxL ns := (maxL_ok ns _).2.1 a h
/-- every size is 1 or more -/
theorem sz_pos {ts : List T} (hr : Rw ts) : ∀ (i : Nat) p, (szs ts)[i]? = some p → 1 ≤ p.1 ∧ 1 ≤ p.2 := by
  intro i
  induction i using Nat.strongRecOn with
  | ind i ih =>
    intro p hp
    have hi : i < ts.length := by rw [← szs_len]; exact (List.getElem?_eq_some_iff.mp hp).1
    obtain ⟨t, ht⟩ : ∃ t, ts[i]? = some t := ⟨_, List.getElem?_eq_getElem hi⟩
    cases t with
    | num n => rw [sz_at ht] at hp; cases hp; exact ⟨Int.le_refl _, Int.le_refl _⟩
    | name n => rw [sz_at ht] at hp; cases hp; exact ⟨Int.le_refl _, Int.le_refl _⟩
    | of w as =>
      rw [sz_of hr ht] at hp
      cases hp
      have g := hr.row i _ ht
      have q : ∀ a ∈ as, 1 ≤ (ga (szs ts) a).1 ∧ 1 ≤ (ga (szs ts) a).2 := fun a ha => by
        have la := g.2.2 a ha
        have : (szs ts)[a.toNat]? = some (ga (szs ts) a) := by
          unfold ga
          rw [List.getD_eq_getElem?_getD, List.getElem?_eq_getElem (by rw [szs_len]; omega)]; rfl
        exact ih a.toNat (by omega) _ this
      have s0 : ∀ l : List Int, (∀ a ∈ l, 1 ≤ (ga (szs ts) a).1) → 0 ≤ (l.map fun a => (ga (szs ts) a).1).sum := fun l => by
        induction l with
        | nil => intro _; simp
        | cons a r ihr =>
          intro h
          have h1 := h a List.mem_cons_self
          have h2 := ihr fun x hx => h x (List.mem_cons_of_mem _ hx)
          simp only [List.map_cons, List.sum_cons]
          omega
      have hne : as ≠ [] := hr.ne _ (List.mem_of_getElem? ht)
      obtain ⟨a, ha⟩ := List.exists_mem_of_ne_nil _ hne
      have m1 := maxL_ge (List.mem_map.mpr ⟨a, ha, rfl⟩ : (ga (szs ts) a).2 ∈ as.map fun a => (ga (szs ts) a).2)
      have m2 := (q a ha).2
      exact ⟨by show 1 ≤ 1 + _; have := s0 as fun a ha => (q a ha).1; omega, by show 1 ≤ 1 + _; omega⟩
def pz (p : Int × Int) : PV := .tup [.int p.1, .int p.2]
theorem pz_pure (p : Int × Int) : pureP (pz p) = true := rfl
theorem pzs_pure (l : List (Int × Int)) : puresP (l.map pz) = true := pures_iff.mpr fun x hx => by
  obtain ⟨t, _, rfl⟩ := List.mem_map.mp hx
  rfl
theorem at_pz {l : List (Int × Int)} {a : Int} (h0 : 0 ≤ a) (h : a.toNat < l.length) : atI (l.map pz) a = some (pz (ga l a)) := atI_nat' h0 (by
  rw [List.getElem?_map, List.getElem?_eq_getElem h]
  unfold ga
  rw [List.getD_eq_getElem?_getD, List.getElem?_eq_getElem h]; rfl)
theorem pz0 {p : Int × Int} {s : Store} : idxV (pz p) (.int 0) s = some (.int p.1, s) := by
  unfold idxV pz
  simp only [seqAt, at0, Option.map_some]
theorem pz1 {p : Int × Int} {s : Store} : idxV (pz p) (.int 1) s = some (.int p.2, s) := by
  unfold idxV pz
  simp only [seqAt, at1, Option.map_some]
theorem ix_pz {l : List (Int × Int)} {a : Int} {r : Nat} {s : Store} (hr : s[r]? = some (.lst (l.map pz))) (h0 : 0 ≤ a) (h : a.toNat < l.length) : idxV (.ref r) (.int a) s = some (pz (ga l a), s) := by
  have := at_pz h0 h
  simp only [idxV, seqAt, lstAt, hr, this, Option.map_some]
theorem maxL_fold {ns : List Int} (hn : ns ≠ []) (h : ∀ x ∈ ns, 0 ≤ x) : ns.foldl max 0 = maxL ns := by
  cases ns with
  | nil => exact absurd rfl hn
  | cons a r =>
    unfold maxL
    simp only [List.foldl_cons, List.headD_cons]
    rw [show max (0 : Int) a = a from Int.max_eq_right (h a List.mem_cons_self), Int.max_self]
/-! ### size_of -/
theorem cut_to {ts : List T} {k : Nat} (h : k < ts.length) : cutP (ts.map Tm.Tm.pv) none (some ((k : Int) + 1)) = (ts.take (k + 1)).map Tm.Tm.pv := by
  unfold cutP
  rw [sIx_some (by omega), HT.sIx_none, List.map_take, List.drop_zero, Nat.sub_zero]
  rw [show min ((k : Int) + 1).toNat (ts.map Tm.Tm.pv).length = k + 1 by rw [List.length_map]; omega]
theorem size_row {ts : List T} {t : T} {s : Store} {q r : Nat} {v0 v1 : Option PV} {x4 x5 x6 : Option PV} (hr : s[r]? = some (.lst ((szs ts).map pz))) (ht : t.Good ts.length) (hn : Ne t) (hp : Rw ts) (hl : ts.length ≤ 1000) :
    ∃ y4 y5 y6, b_size_of_s2 [v0, v1, some (.ref r), some t.pv, x4, x5, x6] s = .nx [v0, v1, some (.ref r), some t.pv, y4, y5, y6] (s.set r (.lst ((szs (ts ++ [t])).map pz))) := by
  have tok : tyOk "list" (.ref r) s = true := by simp only [tyOk, hr]; rfl
  have ln : ((szs ts).map pz).length < 16777216 := by rw [List.length_map, szs_len]; omega
  have fin : ∀ p, p = one (szs ts) t → (szs (ts ++ [t])).map pz = (szs ts).map pz ++ [pz p] := fun p e => by rw [szs_app, List.map_append, e]; rfl
  cases t with
  | num i =>
    refine ⟨some (.int 1), some (.int 0), x6, ?_⟩
    rw [fin (1, 1) rfl]
    simp only [b_size_of_s2, Tm.Tm.pv, seqS, ifS, setS, augS, dropS, retS, retN, nxS, bkS, ctS, asgS, subS, R.toS, R.bind, R.of, opF, unF, varF, cstF, chF, isB, asB, andT, orT, notT, andF, orF, notF, ifF, nilA, consA, tupF, lstF, cbF, callF, bmF', truT, truV, nameG, nilG, consG, tupG, List.set_cons_zero, List.set_cons_succ, List.getElem?_cons_zero, List.getElem?_cons_succ, Option.bind_some, Option.bind_none, Option.map_some, Option.map_none, List.length_cons, List.length_nil, List.cons_append, List.nil_append, List.append_nil, if_true, if_false, ite_true, ite_false, Bool.false_eq_true, reduceIte, reduceCtorEq, List.map_cons, List.map_nil, Nat.sub_self, List.replicate_succ, List.replicate_zero, Nat.reduceSub, Nat.reduceAdd, Nat.reduceLT, Nat.reduceLeDiff, Nat.reduceEqDiff, Nat.reduceMul, Nat.reducePow, Int.reduceLT, Int.reduceLE, Int.reduceAdd, Int.reduceMul, Int.reduceSub, Int.reduceNeg, Int.reduceEq, Int.reducePow, Int.reduceMod, Int.reduceDiv, Int.reduceToNat, decide_true, decide_false, and_true, true_and, and_self, Option.some.injEq, addV, iaddV, subV, mulV, fdivV, modV, powV, negV, cmpV, isNonV, notNonV, idxV, at0, at1, at2, at3, at4, at5, seqAt, lstAt, lenV, isiV, typV, kb1, kb2, kb3, kb4, kb5, kb6, kb7, kb8, kb9, kb10, kb11, eqV, neV, eqB, scEq, t1, t2, t3, t4, t5, t6, t7, t8, t9, t10, t11, t12, t13, t14, t15, t16, tok, appendV, hr, sizeLine_eq, ln, pz]
  | name i =>
    refine ⟨some (.int 1), some (.int 0), x6, ?_⟩
    rw [fin (1, 1) rfl]
    simp only [b_size_of_s2, Tm.Tm.pv, seqS, ifS, setS, augS, dropS, retS, retN, nxS, bkS, ctS, asgS, subS, R.toS, R.bind, R.of, opF, unF, varF, cstF, chF, isB, asB, andT, orT, notT, andF, orF, notF, ifF, nilA, consA, tupF, lstF, cbF, callF, bmF', truT, truV, nameG, nilG, consG, tupG, List.set_cons_zero, List.set_cons_succ, List.getElem?_cons_zero, List.getElem?_cons_succ, Option.bind_some, Option.bind_none, Option.map_some, Option.map_none, List.length_cons, List.length_nil, List.cons_append, List.nil_append, List.append_nil, if_true, if_false, ite_true, ite_false, Bool.false_eq_true, reduceIte, reduceCtorEq, List.map_cons, List.map_nil, Nat.sub_self, List.replicate_succ, List.replicate_zero, Nat.reduceSub, Nat.reduceAdd, Nat.reduceLT, Nat.reduceLeDiff, Nat.reduceEqDiff, Nat.reduceMul, Nat.reducePow, Int.reduceLT, Int.reduceLE, Int.reduceAdd, Int.reduceMul, Int.reduceSub, Int.reduceNeg, Int.reduceEq, Int.reducePow, Int.reduceMod, Int.reduceDiv, Int.reduceToNat, decide_true, decide_false, and_true, true_and, and_self, Option.some.injEq, addV, iaddV, subV, mulV, fdivV, modV, powV, negV, cmpV, isNonV, notNonV, idxV, at0, at1, at2, at3, at4, at5, seqAt, lstAt, lenV, isiV, typV, kb1, kb2, kb3, kb4, kb5, kb6, kb7, kb8, kb9, kb10, kb11, eqV, neV, eqB, scEq, t1, t2, t3, t4, t5, t6, t7, t8, t9, t10, t11, t12, t13, t14, t15, t16, tok, appendV, hr, sizeLine_eq, ln, pz]
  | of w as =>
    have key : ∃ o, forS (seqI (opF idxV (varF 3) (cstF (.int 2)))) (nameG 6) b_size_of_s1 [v0, v1, some (.ref r), some (Tm.Tm.of w as).pv, some (.int 1), some (.int 0), x6] s
        = .nx [v0, v1, some (.ref r), some (Tm.Tm.of w as).pv, some (.int (1 + (as.map fun a => (ga (szs ts) a).1).sum)), some (.int (maxL (as.map fun a => (ga (szs ts) a).2))), o] s := by
      obtain ⟨e', s', h1, ⟨o, h2⟩, h3⟩ := forL_inv (gd := []) (g := nameG 6) (b := b_size_of_s1) (xs := as.map PV.int)
        (fun i e st => (∃ o, e = [v0, v1, some (.ref r), some (Tm.Tm.of w as).pv, some (.int (1 + ((as.take i).map fun a => (ga (szs ts) a).1).sum)), some (.int (((as.take i).map fun a => (ga (szs ts) a).2).foldl max 0)), o]) ∧ st = s)
        (e := [v0, v1, some (.ref r), some (Tm.Tm.of w as).pv, some (.int 1), some (.int 0), x6]) (st := s)
        ⟨⟨x6, by simp⟩, rfl⟩
        (fun i x e st hx ⟨⟨o, he⟩, hs⟩ => by
          subst he hs
          rw [List.getElem?_map] at hx
          obtain ⟨a, ha, rfl⟩ := Option.map_eq_some_iff.mp hx
          have la := ht.2.2 a (List.mem_of_getElem? ha)
          have at1 := ix_pz (l := szs ts) (a := a) hr la.1 (by rw [szs_len]; omega)
          have q1 : 1 + ((as.take (i + 1)).map fun a => (ga (szs ts) a).1).sum = 1 + ((as.take i).map fun a => (ga (szs ts) a).1).sum + (ga (szs ts) a).1 := by
            rw [List.take_add_one, ha]
            simp only [Option.toList_some, List.map_append, List.map_cons, List.map_nil, List.sum_append, List.sum_cons, List.sum_nil, Int.add_zero, ← Int.add_assoc]
          have q2 : ((as.take (i + 1)).map fun a => (ga (szs ts) a).2).foldl max 0 = max (((as.take i).map fun a => (ga (szs ts) a).2).foldl max 0) (ga (szs ts) a).2 := by
            rw [List.take_add_one, ha]
            simp only [Option.toList_some, List.map_append, List.map_cons, List.map_nil, List.foldl_append, List.foldl_cons, List.foldl_nil]
          refine ⟨gd_nil _, _, rfl, _, _, ?_, ⟨some (.int a), rfl⟩, rfl⟩
          · rw [q1, q2]
            simp only [b_size_of_s1, seqS, ifS, setS, augS, dropS, retS, retN, nxS, bkS, ctS, asgS, subS, R.toS, R.bind, R.of, opF, unF, varF, cstF, chF, isB, asB, andT, orT, notT, andF, orF, notF, ifF, nilA, consA, tupF, lstF, cbF, callF, bmF', truT, truV, nameG, nilG, consG, tupG, List.set_cons_zero, List.set_cons_succ, List.getElem?_cons_zero, List.getElem?_cons_succ, Option.bind_some, Option.bind_none, Option.map_some, Option.map_none, List.length_cons, List.length_nil, List.cons_append, List.nil_append, List.append_nil, if_true, if_false, ite_true, ite_false, Bool.false_eq_true, reduceIte, reduceCtorEq, List.map_cons, List.map_nil, Nat.sub_self, List.replicate_succ, List.replicate_zero, Nat.reduceSub, Nat.reduceAdd, Nat.reduceLT, Nat.reduceLeDiff, Nat.reduceEqDiff, Nat.reduceMul, Nat.reducePow, Int.reduceLT, Int.reduceLE, Int.reduceAdd, Int.reduceMul, Int.reduceSub, Int.reduceNeg, Int.reduceEq, Int.reducePow, Int.reduceMod, Int.reduceDiv, Int.reduceToNat, decide_true, decide_false, and_true, true_and, and_self, Option.some.injEq, addV, iaddV, subV, mulV, fdivV, modV, powV, negV, cmpV, isNonV, notNonV, at1, pz0, pz1, maxV])
        (fun e st _ => gd_nil _)
      subst h2 h3
      refine ⟨o, ?_⟩
      rw [List.length_map, List.take_length] at h1
      rw [maxL_fold (by have : as ≠ [] := hn; simpa using this) (fun x hx => by
        obtain ⟨a, ha, rfl⟩ := List.mem_map.mp hx
        have la := ht.2.2 a ha
        have := (sz_pos hp a.toNat (ga (szs ts) a) (by
          unfold ga
          rw [List.getD_eq_getElem?_getD, List.getElem?_eq_getElem (by rw [szs_len]; omega)]; rfl)).2
        omega)] at h1
      have hi : seqI (opF idxV (varF 3) (cstF (.int 2))) [v0, v1, some (.ref r), some (Tm.Tm.of w as).pv, some (.int 1), some (.int 0), x6] s' = .ok ⟨as.map PV.int, []⟩ s' := by
        simp only [seqI, Tm.Tm.pv, seqS, ifS, setS, augS, dropS, retS, retN, nxS, bkS, ctS, asgS, subS, R.toS, R.bind, R.of, opF, unF, varF, cstF, chF, isB, asB, andT, orT, notT, andF, orF, notF, ifF, nilA, consA, tupF, lstF, cbF, callF, bmF', truT, truV, nameG, nilG, consG, tupG, List.set_cons_zero, List.set_cons_succ, List.getElem?_cons_zero, List.getElem?_cons_succ, Option.bind_some, Option.bind_none, Option.map_some, Option.map_none, List.length_cons, List.length_nil, List.cons_append, List.nil_append, List.append_nil, if_true, if_false, ite_true, ite_false, Bool.false_eq_true, reduceIte, reduceCtorEq, List.map_cons, List.map_nil, Nat.sub_self, List.replicate_succ, List.replicate_zero, Nat.reduceSub, Nat.reduceAdd, Nat.reduceLT, Nat.reduceLeDiff, Nat.reduceEqDiff, Nat.reduceMul, Nat.reducePow, Int.reduceLT, Int.reduceLE, Int.reduceAdd, Int.reduceMul, Int.reduceSub, Int.reduceNeg, Int.reduceEq, Int.reducePow, Int.reduceMod, Int.reduceDiv, Int.reduceToNat, decide_true, decide_false, and_true, true_and, and_self, Option.some.injEq, idxV, at0, at1, at2, at3, at4, at5, seqAt, lstAt, lenV, isiV, typV, kb1, kb2, kb3, kb4, kb5, kb6, kb7, kb8, kb9, kb10, kb11, gdOf]
      unfold forS
      rw [hi, toS_ok]
      exact h1
    obtain ⟨o, key⟩ := key
    refine ⟨some (.int (1 + (as.map fun a => (ga (szs ts) a).1).sum)), some (.int (maxL (as.map fun a => (ga (szs ts) a).2))), o, ?_⟩
    rw [fin (1 + (as.map fun a => (ga (szs ts) a).1).sum, maxL (as.map fun a => (ga (szs ts) a).2) + 1) (by unfold one; rw [Int.add_comm _ 1])]
    unfold b_size_of_s2
    refine (seqS_nx (e1 := [v0, v1, some (.ref r), some (Tm.Tm.of w as).pv, some (.int 1), x5, x6]) (s1 := s) (by simp only [seqS, ifS, setS, augS, dropS, retS, retN, nxS, bkS, ctS, asgS, subS, R.toS, R.bind, R.of, opF, unF, varF, cstF, chF, isB, asB, andT, orT, notT, andF, orF, notF, ifF, nilA, consA, tupF, lstF, cbF, callF, bmF', truT, truV, nameG, nilG, consG, tupG, List.set_cons_zero, List.set_cons_succ, List.getElem?_cons_zero, List.getElem?_cons_succ, Option.bind_some, Option.bind_none, Option.map_some, Option.map_none, List.length_cons, List.length_nil, List.cons_append, List.nil_append, List.append_nil, if_true, if_false, ite_true, ite_false, Bool.false_eq_true, reduceIte, reduceCtorEq, List.map_cons, List.map_nil, Nat.sub_self, List.replicate_succ, List.replicate_zero, Nat.reduceSub, Nat.reduceAdd, Nat.reduceLT, Nat.reduceLeDiff, Nat.reduceEqDiff, Nat.reduceMul, Nat.reducePow, Int.reduceLT, Int.reduceLE, Int.reduceAdd, Int.reduceMul, Int.reduceSub, Int.reduceNeg, Int.reduceEq, Int.reducePow, Int.reduceMod, Int.reduceDiv, Int.reduceToNat, decide_true, decide_false, and_true, true_and, and_self, Option.some.injEq])).trans ?_
    refine (seqS_nx (e1 := [v0, v1, some (.ref r), some (Tm.Tm.of w as).pv, some (.int 1), some (.int 0), x6]) (s1 := s) (by simp only [seqS, ifS, setS, augS, dropS, retS, retN, nxS, bkS, ctS, asgS, subS, R.toS, R.bind, R.of, opF, unF, varF, cstF, chF, isB, asB, andT, orT, notT, andF, orF, notF, ifF, nilA, consA, tupF, lstF, cbF, callF, bmF', truT, truV, nameG, nilG, consG, tupG, List.set_cons_zero, List.set_cons_succ, List.getElem?_cons_zero, List.getElem?_cons_succ, Option.bind_some, Option.bind_none, Option.map_some, Option.map_none, List.length_cons, List.length_nil, List.cons_append, List.nil_append, List.append_nil, if_true, if_false, ite_true, ite_false, Bool.false_eq_true, reduceIte, reduceCtorEq, List.map_cons, List.map_nil, Nat.sub_self, List.replicate_succ, List.replicate_zero, Nat.reduceSub, Nat.reduceAdd, Nat.reduceLT, Nat.reduceLeDiff, Nat.reduceEqDiff, Nat.reduceMul, Nat.reducePow, Int.reduceLT, Int.reduceLE, Int.reduceAdd, Int.reduceMul, Int.reduceSub, Int.reduceNeg, Int.reduceEq, Int.reducePow, Int.reduceMod, Int.reduceDiv, Int.reduceToNat, decide_true, decide_false, and_true, true_and, and_self, Option.some.injEq])).trans ?_
    refine (seqS_nx ((ifS_t (s1 := s) (by simp only [Tm.Tm.pv, seqS, ifS, setS, augS, dropS, retS, retN, nxS, bkS, ctS, asgS, subS, R.toS, R.bind, R.of, opF, unF, varF, cstF, chF, isB, asB, andT, orT, notT, andF, orF, notF, ifF, nilA, consA, tupF, lstF, cbF, callF, bmF', truT, truV, nameG, nilG, consG, tupG, List.set_cons_zero, List.set_cons_succ, List.getElem?_cons_zero, List.getElem?_cons_succ, Option.bind_some, Option.bind_none, Option.map_some, Option.map_none, List.length_cons, List.length_nil, List.cons_append, List.nil_append, List.append_nil, if_true, if_false, ite_true, ite_false, Bool.false_eq_true, reduceIte, reduceCtorEq, List.map_cons, List.map_nil, Nat.sub_self, List.replicate_succ, List.replicate_zero, Nat.reduceSub, Nat.reduceAdd, Nat.reduceLT, Nat.reduceLeDiff, Nat.reduceEqDiff, Nat.reduceMul, Nat.reducePow, Int.reduceLT, Int.reduceLE, Int.reduceAdd, Int.reduceMul, Int.reduceSub, Int.reduceNeg, Int.reduceEq, Int.reducePow, Int.reduceMod, Int.reduceDiv, Int.reduceToNat, decide_true, decide_false, and_true, true_and, and_self, Option.some.injEq, idxV, at0, at1, at2, at3, at4, at5, seqAt, lstAt, lenV, isiV, typV, kb1, kb2, kb3, kb4, kb5, kb6, kb7, kb8, kb9, kb10, kb11, eqV, neV, eqB, scEq, t1, t2, t3, t4, t5, t6, t7, t8, t9, t10, t11, t12, t13, t14, t15, t16])).trans key)).trans ?_
    simp only [seqS, ifS, setS, augS, dropS, retS, retN, nxS, bkS, ctS, asgS, subS, R.toS, R.bind, R.of, opF, unF, varF, cstF, chF, isB, asB, andT, orT, notT, andF, orF, notF, ifF, nilA, consA, tupF, lstF, cbF, callF, bmF', truT, truV, nameG, nilG, consG, tupG, List.set_cons_zero, List.set_cons_succ, List.getElem?_cons_zero, List.getElem?_cons_succ, Option.bind_some, Option.bind_none, Option.map_some, Option.map_none, List.length_cons, List.length_nil, List.cons_append, List.nil_append, List.append_nil, if_true, if_false, ite_true, ite_false, Bool.false_eq_true, reduceIte, reduceCtorEq, List.map_cons, List.map_nil, Nat.sub_self, List.replicate_succ, List.replicate_zero, Nat.reduceSub, Nat.reduceAdd, Nat.reduceLT, Nat.reduceLeDiff, Nat.reduceEqDiff, Nat.reduceMul, Nat.reducePow, Int.reduceLT, Int.reduceLE, Int.reduceAdd, Int.reduceMul, Int.reduceSub, Int.reduceNeg, Int.reduceEq, Int.reducePow, Int.reduceMod, Int.reduceDiv, Int.reduceToNat, decide_true, decide_false, and_true, true_and, and_self, Option.some.injEq, addV, iaddV, subV, mulV, fdivV, modV, powV, negV, cmpV, isNonV, notNonV, tok, appendV, hr, sizeLine_eq, ln, pz]
theorem F_size_of {ts : List T} {s : Store} {q k : Nat} (hq : s[q]? = some (.lst (ts.map Tm.Tm.pv))) (hr : Rw ts) (hl : ts.length ≤ 1000) (hk : k < ts.length) : FL.F_size_of [.ref q, .int (k : Int)] s = .ok (pz (ga (szs ts) (k : Int))) s := by
  have q1 : q < s.length := (List.getElem?_eq_some_iff.mp hq).1
  obtain ⟨xs, hxs⟩ : ∃ xs, xs = ts.take (k + 1) := ⟨_, rfl⟩
  have xl : xs.length = k + 1 := by rw [hxs, List.length_take]; omega
  have rx : Rw xs := hxs ▸ hr.take _
  obtain ⟨e', s', h1, h2⟩ := forL_inv (gd := [(s.length + 1, .lst (xs.map Tm.Tm.pv))]) (g := nameG 3) (b := b_size_of_s2) (xs := xs.map Tm.Tm.pv)
    (fun i e st => (∃ a b c d, e = [some (.ref q), some (.int (k : Int)), some (.ref s.length), a, b, c, d]) ∧ st = s ++ [.lst ((szs (xs.take i)).map pz), .lst (xs.map Tm.Tm.pv)])
    (e := [some (.ref q), some (.int (k : Int)), some (.ref s.length), none, none, none, none]) (st := s ++ [.lst [], .lst (xs.map Tm.Tm.pv)])
    ⟨⟨_, _, _, _, rfl⟩, rfl⟩
    (fun i x e st hx ⟨⟨a, b, c, d, he⟩, hs⟩ => by
      subst he hs
      rw [List.getElem?_map] at hx
      obtain ⟨t, ht, rfl⟩ := Option.map_eq_some_iff.mp hx
      have hi : i < xs.length := (List.getElem?_eq_some_iff.mp ht).1
      have tl : (xs.take i).length = i := by rw [List.length_take]; omega
      refine ⟨gd1 (by rw [getS]; rfl), _, rfl, ?_⟩
      obtain ⟨y4, y5, y6, hb⟩ := size_row (ts := xs.take i) (t := t) (s := s ++ [.lst ((szs (xs.take i)).map pz), .lst (xs.map Tm.Tm.pv)]) (q := q) (r := s.length) (v0 := some (.ref q)) (v1 := some (.int (k : Int))) (x4 := b) (x5 := c) (x6 := d) getS0 (by rw [tl]; exact rx.row i t ht) (rx.ne t (List.mem_of_getElem? ht)) (rx.take i) (by omega)
      refine ⟨_, _, hb, ⟨_, _, _, _, rfl⟩, ?_⟩
      rw [setS0_app, List.set_cons_zero, List.take_add_one, ht]
      rfl)
    (fun e st ⟨_, h⟩ => by subst h; exact gd1 (by rw [getS]; rfl))
  obtain ⟨⟨a, b, c, d, he⟩, hs⟩ := h2
  subst he hs
  rw [List.length_map, List.take_length] at h1
  have hi : seqI (sliF (varF 0) noO (someO (opF addV (varF 1) (cstF (.int 1))))) [some (.ref q), some (.int (k : Int)), some (.ref s.length), none, none, none, none] (s ++ [.lst []]) = .ok ⟨xs.map Tm.Tm.pv, [(s.length + 1, .lst (xs.map Tm.Tm.pv))]⟩ (s ++ [.lst [], .lst (xs.map Tm.Tm.pv)]) := by
    have g0 : (s ++ [PO.lst []])[q]? = some (.lst (ts.map Tm.Tm.pv)) := getOld hq
    have cu := cut_to hk
    rw [← hxs] at cu
    simp only [seqI, sliF, noO, someO, asI, slV, seqS, ifS, setS, augS, dropS, retS, retN, nxS, bkS, ctS, asgS, subS, R.toS, R.bind, R.of, opF, unF, varF, cstF, chF, isB, asB, andT, orT, notT, andF, orF, notF, ifF, nilA, consA, tupF, lstF, cbF, callF, bmF', truT, truV, nameG, nilG, consG, tupG, List.set_cons_zero, List.set_cons_succ, List.getElem?_cons_zero, List.getElem?_cons_succ, Option.bind_some, Option.bind_none, Option.map_some, Option.map_none, List.length_cons, List.length_nil, List.cons_append, List.nil_append, List.append_nil, if_true, if_false, ite_true, ite_false, Bool.false_eq_true, reduceIte, reduceCtorEq, List.map_cons, List.map_nil, Nat.sub_self, List.replicate_succ, List.replicate_zero, Nat.reduceSub, Nat.reduceAdd, Nat.reduceLT, Nat.reduceLeDiff, Nat.reduceEqDiff, Nat.reduceMul, Nat.reducePow, Int.reduceLT, Int.reduceLE, Int.reduceAdd, Int.reduceMul, Int.reduceSub, Int.reduceNeg, Int.reduceEq, Int.reducePow, Int.reduceMod, Int.reduceDiv, Int.reduceToNat, decide_true, decide_false, and_true, true_and, and_self, Option.some.injEq, addV, iaddV, subV, mulV, fdivV, modV, powV, negV, cmpV, isNonV, notNonV, seqAt, lstAt, g0, cu, appS, lenS, getS, gdOf]
  have ga' : ga (szs xs) (k : Int) = ga (szs ts) (k : Int) := by rw [hxs]; exact ga_take (by omega)
  have la := at_pz (l := szs xs) (a := (k : Int)) (by omega) (by rw [szs_len]; omega)
  have gr : (s ++ [PO.lst ((szs xs).map pz), .lst (xs.map Tm.Tm.pv)])[s.length]? = some (.lst ((szs xs).map pz)) := getS0
  unfold FL.F_size_of
  refine run_rt (g := [.lst ((szs xs).map pz), .lst (xs.map Tm.Tm.pv)]) ?_ (pz_pure _)
  unfold b_size_of
  refine (seqS_nx (e1 := [some (.ref q), some (.int (k : Int)), some (.ref s.length), none, none, none, none]) (s1 := s ++ [.lst []]) (by simp only [seqS, ifS, setS, augS, dropS, retS, retN, nxS, bkS, ctS, asgS, subS, R.toS, R.bind, R.of, opF, unF, varF, cstF, chF, isB, asB, andT, orT, notT, andF, orF, notF, ifF, nilA, consA, tupF, lstF, cbF, callF, bmF', truT, truV, nameG, nilG, consG, tupG, List.set_cons_zero, List.set_cons_succ, List.getElem?_cons_zero, List.getElem?_cons_succ, Option.bind_some, Option.bind_none, Option.map_some, Option.map_none, List.length_cons, List.length_nil, List.cons_append, List.nil_append, List.append_nil, if_true, if_false, ite_true, ite_false, Bool.false_eq_true, reduceIte, reduceCtorEq, List.map_cons, List.map_nil, Nat.sub_self, List.replicate_succ, List.replicate_zero, Nat.reduceSub, Nat.reduceAdd, Nat.reduceLT, Nat.reduceLeDiff, Nat.reduceEqDiff, Nat.reduceMul, Nat.reducePow, Int.reduceLT, Int.reduceLE, Int.reduceAdd, Int.reduceMul, Int.reduceSub, Int.reduceNeg, Int.reduceEq, Int.reducePow, Int.reduceMod, Int.reduceDiv, Int.reduceToNat, decide_true, decide_false, and_true, true_and, and_self, Option.some.injEq, sizeLine_eq])).trans ?_
  refine (seqS_nx (e1 := [some (.ref q), some (.int (k : Int)), some (.ref s.length), a, b, c, d]) (s1 := s ++ [.lst ((szs xs).map pz), .lst (xs.map Tm.Tm.pv)]) ?_).trans ?_
  · unfold forS
    rw [hi, toS_ok]
    exact h1
  · simp only [seqS, ifS, setS, augS, dropS, retS, retN, nxS, bkS, ctS, asgS, subS, R.toS, R.bind, R.of, opF, unF, varF, cstF, chF, isB, asB, andT, orT, notT, andF, orF, notF, ifF, nilA, consA, tupF, lstF, cbF, callF, bmF', truT, truV, nameG, nilG, consG, tupG, List.set_cons_zero, List.set_cons_succ, List.getElem?_cons_zero, List.getElem?_cons_succ, Option.bind_some, Option.bind_none, Option.map_some, Option.map_none, List.length_cons, List.length_nil, List.cons_append, List.nil_append, List.append_nil, if_true, if_false, ite_true, ite_false, Bool.false_eq_true, reduceIte, reduceCtorEq, List.map_cons, List.map_nil, Nat.sub_self, List.replicate_succ, List.replicate_zero, Nat.reduceSub, Nat.reduceAdd, Nat.reduceLT, Nat.reduceLeDiff, Nat.reduceEqDiff, Nat.reduceMul, Nat.reducePow, Int.reduceLT, Int.reduceLE, Int.reduceAdd, Int.reduceMul, Int.reduceSub, Int.reduceNeg, Int.reduceEq, Int.reducePow, Int.reduceMod, Int.reduceDiv, Int.reduceToNat, decide_true, decide_false, and_true, true_and, and_self, Option.some.injEq, idxV, at0, at1, at2, at3, at4, at5, seqAt, lstAt, lenV, isiV, typV, kb1, kb2, kb3, kb4, kb5, kb6, kb7, kb8, kb9, kb10, kb11, gr, la, ga']
/-! ### sums -/
theorem intsOf_mapf' {α : Type} (xs : List α) (f : α → Int) : intsOf (xs.map fun a => PV.int (f a)) = some (xs.map f) := by
  have := intsOf_map (xs.map f)
  rwa [List.map_map] at this
theorem sums_row {ts : List T} {t : T} {s : Store} {r : Nat} {v0 x3 x4 : Option PV} (hr : s[r]? = some (.lst ((szs ts).map pz))) (ht : t.Good ts.length) (hn : Ne t) (hl : ts.length ≤ 1000) :
    ∃ y3 y4 g, b_L_sums_s3 [v0, some (.ref r), some t.pv, x3, x4] s = .nx [v0, some (.ref r), some t.pv, y3, y4] ((s ++ g).set r (.lst ((szs (ts ++ [t])).map pz))) := by
  have rl : r < s.length := (List.getElem?_eq_some_iff.mp hr).1
  have ln : ((szs ts).map pz).length < 16777216 := by rw [List.length_map, szs_len]; omega
  have fin : ∀ p, p = one (szs ts) t → (szs (ts ++ [t])).map pz = (szs ts).map pz ++ [pz p] := fun p e => by rw [szs_app, List.map_append, e]; rfl
  have tok : tyOk "list" (.ref r) s = true := by simp only [tyOk, hr]; rfl
  cases t with
  | num i =>
    refine ⟨x3, x4, [], ?_⟩
    rw [fin (1, 1) rfl, List.append_nil]
    simp only [b_L_sums_s3, Tm.Tm.pv, seqS, ifS, setS, augS, dropS, retS, retN, nxS, bkS, ctS, asgS, subS, R.toS, R.bind, R.of, opF, unF, varF, cstF, chF, isB, asB, andT, orT, notT, andF, orF, notF, ifF, nilA, consA, tupF, lstF, cbF, callF, bmF', truT, truV, nameG, nilG, consG, tupG, List.set_cons_zero, List.set_cons_succ, List.getElem?_cons_zero, List.getElem?_cons_succ, Option.bind_some, Option.bind_none, Option.map_some, Option.map_none, List.length_cons, List.length_nil, List.cons_append, List.nil_append, List.append_nil, if_true, if_false, ite_true, ite_false, Bool.false_eq_true, reduceIte, reduceCtorEq, List.map_cons, List.map_nil, Nat.sub_self, List.replicate_succ, List.replicate_zero, Nat.reduceSub, Nat.reduceAdd, Nat.reduceLT, Nat.reduceLeDiff, Nat.reduceEqDiff, Nat.reduceMul, Nat.reducePow, Int.reduceLT, Int.reduceLE, Int.reduceAdd, Int.reduceMul, Int.reduceSub, Int.reduceNeg, Int.reduceEq, Int.reducePow, Int.reduceMod, Int.reduceDiv, Int.reduceToNat, decide_true, decide_false, and_true, true_and, and_self, Option.some.injEq, addV, iaddV, subV, mulV, fdivV, modV, powV, negV, cmpV, isNonV, notNonV, idxV, at0, at1, at2, at3, at4, at5, seqAt, lstAt, lenV, isiV, typV, kb1, kb2, kb3, kb4, kb5, kb6, kb7, kb8, kb9, kb10, kb11, eqV, neV, eqB, scEq, t1, t2, t3, t4, t5, t6, t7, t8, t9, t10, t11, t12, t13, t14, t15, t16, tok, appendV, hr, sizeLine_eq, ln, pz, Bool.not_false]
  | name i =>
    refine ⟨x3, x4, [], ?_⟩
    rw [fin (1, 1) rfl, List.append_nil]
    simp only [b_L_sums_s3, Tm.Tm.pv, seqS, ifS, setS, augS, dropS, retS, retN, nxS, bkS, ctS, asgS, subS, R.toS, R.bind, R.of, opF, unF, varF, cstF, chF, isB, asB, andT, orT, notT, andF, orF, notF, ifF, nilA, consA, tupF, lstF, cbF, callF, bmF', truT, truV, nameG, nilG, consG, tupG, List.set_cons_zero, List.set_cons_succ, List.getElem?_cons_zero, List.getElem?_cons_succ, Option.bind_some, Option.bind_none, Option.map_some, Option.map_none, List.length_cons, List.length_nil, List.cons_append, List.nil_append, List.append_nil, if_true, if_false, ite_true, ite_false, Bool.false_eq_true, reduceIte, reduceCtorEq, List.map_cons, List.map_nil, Nat.sub_self, List.replicate_succ, List.replicate_zero, Nat.reduceSub, Nat.reduceAdd, Nat.reduceLT, Nat.reduceLeDiff, Nat.reduceEqDiff, Nat.reduceMul, Nat.reducePow, Int.reduceLT, Int.reduceLE, Int.reduceAdd, Int.reduceMul, Int.reduceSub, Int.reduceNeg, Int.reduceEq, Int.reducePow, Int.reduceMod, Int.reduceDiv, Int.reduceToNat, decide_true, decide_false, and_true, true_and, and_self, Option.some.injEq, addV, iaddV, subV, mulV, fdivV, modV, powV, negV, cmpV, isNonV, notNonV, idxV, at0, at1, at2, at3, at4, at5, seqAt, lstAt, lenV, isiV, typV, kb1, kb2, kb3, kb4, kb5, kb6, kb7, kb8, kb9, kb10, kb11, eqV, neV, eqB, scEq, t1, t2, t3, t4, t5, t6, t7, t8, t9, t10, t11, t12, t13, t14, t15, t16, tok, appendV, hr, sizeLine_eq, ln, pz, Bool.not_false]
  | of w as =>
    let m : Int := 1 + (as.map fun a => (ga (szs ts) a).1).sum
    let d : Int := 1 + maxL (as.map fun a => (ga (szs ts) a).2)
    let L1 : PO := .lst (as.map fun a => PV.int (ga (szs ts) a).1)
    let L2 : PO := .lst (as.map fun a => PV.int (ga (szs ts) a).2)
    have al : as.length ≤ 4 := ht.2.1
    have gx : ∀ (g : Store) a, a ∈ as → idxV (.ref r) (.int a) (s ++ g) = some (pz (ga (szs ts) a), s ++ g) := fun g a ha => by
      have la := ht.2.2 a ha
      exact ix_pz (getOld hr) la.1 (by rw [szs_len]; omega)
    have hi : ∀ (e : Env) (g : Store), e[2]? = some (some (Tm.Tm.of w as).pv) → seqI (opF idxV (varF 2) (cstF (.int 2))) e (s ++ g) = .ok ⟨as.map PV.int, []⟩ (s ++ g) := fun e g he => by
      simp only [seqI, opF, varF, he, Tm.Tm.pv, seqS, ifS, setS, augS, dropS, retS, retN, nxS, bkS, ctS, asgS, subS, R.toS, R.bind, R.of, opF, unF, varF, cstF, chF, isB, asB, andT, orT, notT, andF, orF, notF, ifF, nilA, consA, tupF, lstF, cbF, callF, bmF', truT, truV, nameG, nilG, consG, tupG, List.set_cons_zero, List.set_cons_succ, List.getElem?_cons_zero, List.getElem?_cons_succ, Option.bind_some, Option.bind_none, Option.map_some, Option.map_none, List.length_cons, List.length_nil, List.cons_append, List.nil_append, List.append_nil, if_true, if_false, ite_true, ite_false, Bool.false_eq_true, reduceIte, reduceCtorEq, List.map_cons, List.map_nil, Nat.sub_self, List.replicate_succ, List.replicate_zero, Nat.reduceSub, Nat.reduceAdd, Nat.reduceLT, Nat.reduceLeDiff, Nat.reduceEqDiff, Nat.reduceMul, Nat.reducePow, Int.reduceLT, Int.reduceLE, Int.reduceAdd, Int.reduceMul, Int.reduceSub, Int.reduceNeg, Int.reduceEq, Int.reducePow, Int.reduceMod, Int.reduceDiv, Int.reduceToNat, decide_true, decide_false, and_true, true_and, and_self, Option.some.injEq, idxV, at0, at1, at2, at3, at4, at5, seqAt, lstAt, lenV, isiV, typV, kb1, kb2, kb3, kb4, kb5, kb6, kb7, kb8, kb9, kb10, kb11, gdOf]
    have lc1 : lcF (seqI (opF idxV (varF 2) (cstF (.int 2)))) [4] (nameG 4) yesT b_L_sums_e2 [v0, some (.ref r), some (Tm.Tm.of w as).pv, x3, x4] s = .ok (.ref s.length) (s ++ [L1]) := by
      have h := hi [v0, some (.ref r), some (Tm.Tm.of w as).pv, x3, x4] [] rfl
      rw [List.append_nil] at h
      refine lcF_map (gd := []) as PV.int (fun a => PV.int (ga (szs ts) a).1) h (fun _ => gd_nil _) (by rw [sizeLine_eq]; omega) fun a ha => ⟨_, rfl, fun acc => ?_⟩
      have q := gx [.lst acc] a ha
      simp only [b_L_sums_e2, wipeE, seqS, ifS, setS, augS, dropS, retS, retN, nxS, bkS, ctS, asgS, subS, R.toS, R.bind, R.of, opF, unF, varF, cstF, chF, isB, asB, andT, orT, notT, andF, orF, notF, ifF, nilA, consA, tupF, lstF, cbF, callF, bmF', truT, truV, nameG, nilG, consG, tupG, List.set_cons_zero, List.set_cons_succ, List.getElem?_cons_zero, List.getElem?_cons_succ, Option.bind_some, Option.bind_none, Option.map_some, Option.map_none, List.length_cons, List.length_nil, List.cons_append, List.nil_append, List.append_nil, if_true, if_false, ite_true, ite_false, Bool.false_eq_true, reduceIte, reduceCtorEq, List.map_cons, List.map_nil, Nat.sub_self, List.replicate_succ, List.replicate_zero, Nat.reduceSub, Nat.reduceAdd, Nat.reduceLT, Nat.reduceLeDiff, Nat.reduceEqDiff, Nat.reduceMul, Nat.reducePow, Int.reduceLT, Int.reduceLE, Int.reduceAdd, Int.reduceMul, Int.reduceSub, Int.reduceNeg, Int.reduceEq, Int.reducePow, Int.reduceMod, Int.reduceDiv, Int.reduceToNat, decide_true, decide_false, and_true, true_and, and_self, Option.some.injEq, q, pz0]
    have lc2 : lcF (seqI (opF idxV (varF 2) (cstF (.int 2)))) [4] (nameG 4) yesT b_L_sums_e1 [v0, some (.ref r), some (Tm.Tm.of w as).pv, some (.int m), x4] (s ++ [L1]) = .ok (.ref (s ++ [L1]).length) (s ++ [L1] ++ [L2]) := by
      have h := hi [v0, some (.ref r), some (Tm.Tm.of w as).pv, some (.int m), x4] [L1] rfl
      refine lcF_map (gd := []) as PV.int (fun a => PV.int (ga (szs ts) a).2) h (fun _ => gd_nil _) (by rw [sizeLine_eq]; omega) fun a ha => ⟨_, rfl, fun acc => ?_⟩
      have q := gx ([L1] ++ [.lst acc]) a ha
      rw [← List.append_assoc] at q
      simp only [b_L_sums_e1, wipeE, seqS, ifS, setS, augS, dropS, retS, retN, nxS, bkS, ctS, asgS, subS, R.toS, R.bind, R.of, opF, unF, varF, cstF, chF, isB, asB, andT, orT, notT, andF, orF, notF, ifF, nilA, consA, tupF, lstF, cbF, callF, bmF', truT, truV, nameG, nilG, consG, tupG, List.set_cons_zero, List.set_cons_succ, List.getElem?_cons_zero, List.getElem?_cons_succ, Option.bind_some, Option.bind_none, Option.map_some, Option.map_none, List.length_cons, List.length_nil, List.cons_append, List.nil_append, List.append_nil, if_true, if_false, ite_true, ite_false, Bool.false_eq_true, reduceIte, reduceCtorEq, List.map_cons, List.map_nil, Nat.sub_self, List.replicate_succ, List.replicate_zero, Nat.reduceSub, Nat.reduceAdd, Nat.reduceLT, Nat.reduceLeDiff, Nat.reduceEqDiff, Nat.reduceMul, Nat.reducePow, Int.reduceLT, Int.reduceLE, Int.reduceAdd, Int.reduceMul, Int.reduceSub, Int.reduceNeg, Int.reduceEq, Int.reducePow, Int.reduceMod, Int.reduceDiv, Int.reduceToNat, decide_true, decide_false, and_true, true_and, and_self, Option.some.injEq, q, pz1]
    have s1 : sumV [.ref s.length] (s ++ [L1]) = some (.int (as.map fun a => (ga (szs ts) a).1).sum, s ++ [L1]) := by
      have g0 : (s ++ [L1])[s.length]? = some L1 := getS0
      simp only [sumV, lstAt, g0, L1, Option.bind_some, intsOf_mapf', Option.map_some]
    have ne : (as.map fun a => (ga (szs ts) a).2) ≠ [] := by have : as ≠ [] := hn; simpa using this
    have s2 : maxV [.ref (s ++ [L1]).length] (s ++ [L1] ++ [L2]) = some (.int (maxL (as.map fun a => (ga (szs ts) a).2)), s ++ [L1] ++ [L2]) := by
      have g0 : (s ++ [L1] ++ [L2])[(s ++ [L1]).length]? = some L2 := getS0
      simp only [maxV, lstAt, g0, L2, Option.bind_some, intsOf_mapf', ne, if_false]
    have g12 : (s ++ [L1] ++ [L2])[r]? = some (.lst ((szs ts).map pz)) := getOld (getOld hr)
    have g1 : (s ++ [L1])[r]? = some (.lst ((szs ts).map pz)) := getOld hr
    have tok2 : tyOk "list" (.ref r) (s ++ [L1]) = true := by simp only [tyOk, g1]; rfl
    refine ⟨some (.int m), x4, [L1] ++ [L2], ?_⟩
    rw [fin (m, d) rfl, ← List.append_assoc]
    have h0 : (isB (opF neV (opF idxV (varF 2) (cstF (.int 0))) (cstF (.str ("of" : Str))))) [v0, some (.ref r), some (Tm.Tm.of w as).pv, x3, x4] s = .ok false s := by
      simp only [Tm.Tm.pv, seqS, ifS, setS, augS, dropS, retS, retN, nxS, bkS, ctS, asgS, subS, R.toS, R.bind, R.of, opF, unF, varF, cstF, chF, isB, asB, andT, orT, notT, andF, orF, notF, ifF, nilA, consA, tupF, lstF, cbF, callF, bmF', truT, truV, nameG, nilG, consG, tupG, List.set_cons_zero, List.set_cons_succ, List.getElem?_cons_zero, List.getElem?_cons_succ, Option.bind_some, Option.bind_none, Option.map_some, Option.map_none, List.length_cons, List.length_nil, List.cons_append, List.nil_append, List.append_nil, if_true, if_false, ite_true, ite_false, Bool.false_eq_true, reduceIte, reduceCtorEq, List.map_cons, List.map_nil, Nat.sub_self, List.replicate_succ, List.replicate_zero, Nat.reduceSub, Nat.reduceAdd, Nat.reduceLT, Nat.reduceLeDiff, Nat.reduceEqDiff, Nat.reduceMul, Nat.reducePow, Int.reduceLT, Int.reduceLE, Int.reduceAdd, Int.reduceMul, Int.reduceSub, Int.reduceNeg, Int.reduceEq, Int.reducePow, Int.reduceMod, Int.reduceDiv, Int.reduceToNat, decide_true, decide_false, and_true, true_and, and_self, Option.some.injEq, idxV, at0, at1, at2, at3, at4, at5, seqAt, lstAt, lenV, isiV, typV, kb1, kb2, kb3, kb4, kb5, kb6, kb7, kb8, kb9, kb10, kb11, eqV, neV, eqB, scEq, t1, t2, t3, t4, t5, t6, t7, t8, t9, t10, t11, t12, t13, t14, t15, t16, Bool.not_true]
    unfold b_L_sums_s3
    refine (ifS_f h0).trans ((seqS_nx (e1 := [v0, some (.ref r), some (Tm.Tm.of w as).pv, some (.int m), x4]) (s1 := s ++ [L1]) ?_).trans ?_)
    · simp only [setS, opF, cstF, cbF, consA, nilA, lc1, bind_ok, s1, R.of, R.toS, addV, List.set_cons_succ, List.set_cons_zero]
      rfl
    · simp only [dropS, bmF', varF, List.getElem?_cons_succ, List.getElem?_cons_zero, consA, nilA, tupF, opF, cstF, cbF, lc2, bind_ok, s2, R.of, R.toS, addV, R.bind, tok2, appendV, g12, sizeLine_eq, ln, if_true, pz, List.length_cons, List.length_nil, Nat.reduceAdd, Nat.reduceLeDiff, reduceIte]
      rfl
theorem F_L_sums {ts : List T} {s : Store} {q : Nat} (hq : s[q]? = some (.lst (ts.map Tm.Tm.pv))) (hr : Rw ts) (hl : ts.length ≤ 1000) : FL.F_L_sums [.ref q] s = .ok (.ref s.length) (s ++ [.lst ((szs ts).map pz)]) := by
  obtain ⟨e', s', h1, h2⟩ := forL_inv (gd := [(q, .lst (ts.map Tm.Tm.pv))]) (g := nameG 2) (b := b_L_sums_s3) (xs := ts.map Tm.Tm.pv)
    (fun i e st => (∃ a b c, e = [some (.ref q), some (.ref s.length), a, b, c]) ∧ ∃ g, st = s ++ (.lst ((szs (ts.take i)).map pz) :: g))
    (e := [some (.ref q), some (.ref s.length), none, none, none]) (st := s ++ [.lst []])
    ⟨⟨_, _, _, rfl⟩, [], rfl⟩
    (fun i x e st hx ⟨⟨a, b, c, he⟩, g, hs⟩ => by
      subst he hs
      rw [List.getElem?_map] at hx
      obtain ⟨t, ht, rfl⟩ := Option.map_eq_some_iff.mp hx
      have hi : i < ts.length := (List.getElem?_eq_some_iff.mp ht).1
      have tl : (ts.take i).length = i := by rw [List.length_take]; omega
      refine ⟨gd1 (getOld hq), _, rfl, ?_⟩
      obtain ⟨y3, y4, g', hb⟩ := sums_row (ts := ts.take i) (t := t) (s := s ++ (.lst ((szs (ts.take i)).map pz) :: g)) (r := s.length) (v0 := some (.ref q)) (x3 := b) (x4 := c) getS0 (by rw [tl]; exact hr.row i t ht) (hr.ne t (List.mem_of_getElem? ht)) (by omega)
      refine ⟨_, _, hb, ⟨_, _, _, rfl⟩, g ++ g', ?_⟩
      rw [List.append_assoc, setS0_app, List.cons_append, List.set_cons_zero, List.take_add_one, ht]
      rfl)
    (fun e st ⟨_, g, h⟩ => by subst h; exact gd1 (getOld hq))
  obtain ⟨⟨a, b, c, he⟩, g, hs⟩ := h2
  subst he hs
  rw [List.length_map, List.take_length] at h1
  have hi : seqI (varF 0) [some (.ref q), some (.ref s.length), none, none, none] (s ++ [.lst []]) = .ok ⟨ts.map Tm.Tm.pv, [(q, .lst (ts.map Tm.Tm.pv))]⟩ (s ++ [.lst []]) := seqI_ref rfl (getOld hq)
  unfold FL.F_L_sums
  refine run_new (g := .lst ((szs ts).map pz) :: g) (r := s.length) ?_ getS0 (Nat.le_refl _) (by simp only [objOk]; exact pures_refs _ (pzs_pure _))
  unfold b_L_sums
  refine (seqS_nx (e1 := [some (.ref q), some (.ref s.length), none, none, none]) (s1 := s ++ [.lst []]) (by simp only [seqS, ifS, setS, augS, dropS, retS, retN, nxS, bkS, ctS, asgS, subS, R.toS, R.bind, R.of, opF, unF, varF, cstF, chF, isB, asB, andT, orT, notT, andF, orF, notF, ifF, nilA, consA, tupF, lstF, cbF, callF, bmF', truT, truV, nameG, nilG, consG, tupG, List.set_cons_zero, List.set_cons_succ, List.getElem?_cons_zero, List.getElem?_cons_succ, Option.bind_some, Option.bind_none, Option.map_some, Option.map_none, List.length_cons, List.length_nil, List.cons_append, List.nil_append, List.append_nil, if_true, if_false, ite_true, ite_false, Bool.false_eq_true, reduceIte, reduceCtorEq, List.map_cons, List.map_nil, Nat.sub_self, List.replicate_succ, List.replicate_zero, Nat.reduceSub, Nat.reduceAdd, Nat.reduceLT, Nat.reduceLeDiff, Nat.reduceEqDiff, Nat.reduceMul, Nat.reducePow, Int.reduceLT, Int.reduceLE, Int.reduceAdd, Int.reduceMul, Int.reduceSub, Int.reduceNeg, Int.reduceEq, Int.reducePow, Int.reduceMod, Int.reduceDiv, Int.reduceToNat, decide_true, decide_false, and_true, true_and, and_self, Option.some.injEq, sizeLine_eq])).trans ?_
  refine (seqS_nx (e1 := [some (.ref q), some (.ref s.length), a, b, c]) (s1 := s ++ (.lst ((szs ts).map pz) :: g)) ?_).trans ?_
  · unfold forS
    rw [hi, toS_ok]
    exact h1
  · simp only [seqS, ifS, setS, augS, dropS, retS, retN, nxS, bkS, ctS, asgS, subS, R.toS, R.bind, R.of, opF, unF, varF, cstF, chF, isB, asB, andT, orT, notT, andF, orF, notF, ifF, nilA, consA, tupF, lstF, cbF, callF, bmF', truT, truV, nameG, nilG, consG, tupG, List.set_cons_zero, List.set_cons_succ, List.getElem?_cons_zero, List.getElem?_cons_succ, Option.bind_some, Option.bind_none, Option.map_some, Option.map_none, List.length_cons, List.length_nil, List.cons_append, List.nil_append, List.append_nil, if_true, if_false, ite_true, ite_false, Bool.false_eq_true, reduceIte, reduceCtorEq, List.map_cons, List.map_nil, Nat.sub_self, List.replicate_succ, List.replicate_zero, Nat.reduceSub, Nat.reduceAdd, Nat.reduceLT, Nat.reduceLeDiff, Nat.reduceEqDiff, Nat.reduceMul, Nat.reducePow, Int.reduceLT, Int.reduceLE, Int.reduceAdd, Int.reduceMul, Int.reduceSub, Int.reduceNeg, Int.reduceEq, Int.reducePow, Int.reduceMod, Int.reduceDiv, Int.reduceToNat, decide_true, decide_false, and_true, true_and, and_self, Option.some.injEq]
end Sz
end
end FL
end
section
set_option linter.all false
set_option maxRecDepth 100000
namespace FL
open PySem PySem.Spec PyProof.Rows L2
noncomputable section
def b_unite_s1 : FS :=
    (ifS (isB (opF eqV (opF idxV (varF 0) (varF 5)) (varF 4))) (subS setLV (varF 3) (varF 0) (varF 5)) nxS)
def b_unite : FS :=
    (seqS (setS 3 (cbF minV (consA (opF idxV (varF 0) (varF 1)) (consA (opF idxV (varF 0) (varF 2)) nilA))))
    (seqS (setS 4 (cbF maxV (consA (opF idxV (varF 0) (varF 1)) (consA (opF idxV (varF 0) (varF 2)) nilA))))
    (seqS (ifS (isB (opF eqV (varF 3) (varF 4))) retN nxS)
    (forS (rng1I (consA (cbF lenV (consA (varF 0) nilA)) nilA)) (nameG 5) b_unite_s1))))
def F_unite : Fn := runFn 6 b_unite
end
end FL
end
section
set_option linter.all false
set_option maxRecDepth 100000
namespace FL
open PySem PySem.Spec PyProof.Rows L2
noncomputable section
def b_mark_e1 : FE :=
    (opF idxV (varF 1) (varF 2))
def b_mark : FS :=
    (seqS (ifS (isB (opF neV (opF idxV (varF 0) (cstF (.int 0))) (cstF (.str ("of" : Str))))) (retS (varF 0)) nxS)
    (retS (tupF (consA (cstF (.str ("of" : Str))) (consA (opF idxV (varF 0) (cstF (.int 1))) (consA (cbF tupleV (consA (lcF (seqI (opF idxV (varF 0) (cstF (.int 2)))) [2] (nameG 2) yesT b_mark_e1) nilA)) nilA))))))
def F_mark : Fn := runFn 3 b_mark
end
end FL
end
section
set_option linter.all false
set_option maxRecDepth 100000
namespace FL
open PySem PySem.Spec PyProof.Rows L2
noncomputable section
def b_unite_like_s1 : FS :=
    (seqS (setS 5 (callF 2 F_mark [] (consA (opF idxV (varF 0) (varF 4)) (consA (varF 1) nilA))))
    (ifS (isB (opF dninV (varF 5) (varF 2))) (subS dput (varF 4) (varF 2) (varF 5)) (ifS (isB (opF neV (opF idxV (varF 1) (opF dgetV (varF 2) (varF 5))) (opF idxV (varF 1) (varF 4)))) (seqS (dropS (callF 3 F_unite [] (consA (varF 1) (consA (opF dgetV (varF 2) (varF 5)) (consA (varF 4) nilA)))))
    (setS 3 (cstF (.bl true)))) nxS)))
def b_unite_like : FS :=
    (seqS (setS 2 newDN)
    (seqS (setS 3 (cstF (.bl false)))
    (seqS (forS (rng1I (consA (cbF lenV (consA (varF 0) nilA)) nilA)) (nameG 4) b_unite_like_s1)
    (retS (varF 3)))))
def F_unite_like : Fn := runFn 6 b_unite_like
end
end FL
end
section
set_option linter.all false
set_option maxRecDepth 100000
namespace FL
open PySem PySem.Spec PyProof.Rows L2
noncomputable section
def b_closed_t1 : FT :=
    (truT (callF 2 F_unite_like [] (consA (varF 0) (consA (varF 2) nilA))))
def b_closed_s2 : FS :=
    nxS
def b_closed_s3 : FS :=
    (dropS (callF 3 F_unite [] (consA (varF 2) (consA (opF idxV (varF 3) (cstF (.int 0))) (consA (opF idxV (varF 3) (cstF (.int 1))) nilA)))))
def b_closed : FS :=
    (seqS (setS 2 (lrgF (cbF lenV (consA (varF 0) nilA))))
    (seqS (forS (seqI (varF 1)) (nameG 3) b_closed_s3)
    (seqS (whS b_closed_t1 b_closed_s2)
    (retS (varF 2)))))
def F_closed : Fn := runFn 4 b_closed
end
end FL
end
section
set_option linter.all false
set_option maxRecDepth 100000
namespace FL
open PySem PySem.Spec PyProof.Rows L2
noncomputable section
namespace Cl
open Tm (Az)
abbrev T := Tm.Tm
/-! ## sameness -/
def LikeT (R : Nat → Nat → Prop) : T → T → Prop
  | .num i, .num j => i = j
  | .name x, .name y => x = y
  | .of w as, .of v bs => w = v ∧ as.length = bs.length ∧ ∀ (i : Nat) a b, as[i]? = some a → bs[i]? = some b → R a.toNat b.toNat
  | _, _ => False
theorem LikeT.imp {R S : Nat → Nat → Prop} (h : ∀ a b, R a b → S a b) : ∀ {t u : T}, LikeT R t u → LikeT S t u
  | .num _, .num _, q => q
  | .name _, .name _, q => q
  | .of _ _, .of _ _, q => ⟨q.1, q.2.1, fun i a b x y => h _ _ (q.2.2 i a b x y)⟩
/-- a relation by which the edges' ends and like terms are the same -/
structure Same (ts : List T) (E : List (Nat × Nat)) (R : Nat → Nat → Prop) : Prop where
  refl : ∀ a, R a a
  symm : ∀ a b, R a b → R b a
  trans : ∀ a b c, R a b → R b c → R a c
  edge : ∀ p ∈ E, R p.1 p.2
  like : ∀ (i j : Nat) t u, ts[i]? = some t → ts[j]? = some u → LikeT R t u → R i j
/-- the lead of a number -/
abbrev ld (L : List Nat) (a : Nat) : Nat := L.getD a 0
abbrev RL (L : List Nat) : Nat → Nat → Prop := fun a b => ld L a = ld L b
/-- leads on the way: each no greater than its number, leads lead themselves, only what must be the same is so -/
structure Way (ts : List T) (E : List (Nat × Nat)) (L : List Nat) : Prop where
  len : L.length = ts.length
  le : ∀ k, k < L.length → ld L k ≤ k
  idem : ∀ k, k < L.length → ld L (ld L k) = ld L k
  least : ∀ R, Same ts E R → ∀ i j, i < L.length → j < L.length → ld L i = ld L j → R i j
structure Leads (ts : List T) (E : List (Nat × Nat)) (L : List Nat) : Prop extends Way ts E L where
  edge : ∀ p ∈ E, ld L p.1 = ld L p.2
  like : ∀ (i j : Nat) t u, ts[i]? = some t → ts[j]? = some u → LikeT (RL L) t u → ld L i = ld L j
theorem Leads.same {ts : List T} {E : List (Nat × Nat)} {L : List Nat} (h : Leads ts E L) : Same ts E (RL L) := ⟨fun _ => rfl, fun _ _ e => e.symm, fun _ _ _ e f => e.trans f, h.edge, h.like⟩
/-- leads are told by their classes -/
theorem Leads.uniq {ts : List T} {E E' : List (Nat × Nat)} {L L' : List Nat} (h : Leads ts E L) (h' : Leads ts E' L') (hE : ∀ R, Same ts E R ↔ Same ts E' R) : L = L' := by
  have key : ∀ {E E' : List (Nat × Nat)} {L L' : List Nat}, Leads ts E L → Leads ts E' L' → (∀ R, Same ts E' R → Same ts E R) → ∀ k, k < ts.length → ld L' k ≤ ld L k := fun {E E' L L'} h h' hE k hk => by
    have kl : k < L.length := by rw [h.len]; exact hk
    have e1 := h.idem k kl
    have l1 : ld L k < L.length := Nat.lt_of_le_of_lt (h.le k kl) kl
    have e2 : ld L' (ld L k) = ld L' k := h.least _ (hE _ h'.same) _ _ l1 kl e1
    have := h'.le (ld L k) (by rw [h'.len, ← h.len]; exact l1)
    omega
  apply List.ext_getElem (by rw [h.len, h'.len])
  intro k h1 h2
  have a := key h h' (fun R q => (hE R).mpr q) k (by rw [← h.len]; exact h1)
  have b := key h' h (fun R q => (hE R).mp q) k (by rw [← h.len]; exact h1)
  have c : ld L k = ld L' k := by omega
  simpa [ld, List.getD_eq_getElem?_getD, List.getElem?_eq_getElem h1, List.getElem?_eq_getElem h2] using c
/-! ### two classes made one -/
def uniteL (L : List Nat) (a b : Nat) : List Nat := L.map fun x => if x = max (ld L a) (ld L b) then min (ld L a) (ld L b) else x
theorem unite_len (L : List Nat) (a b : Nat) : (uniteL L a b).length = L.length := by simp [uniteL]
theorem ld_map {L : List Nat} (f : Nat → Nat) {k : Nat} (h : k < L.length) : ld (L.map f) k = f (ld L k) := by
  simp [ld, List.getD_eq_getElem?_getD, List.getElem?_eq_getElem h]
theorem unite_ld {L : List Nat} {a b k : Nat} (h : k < L.length) : ld (uniteL L a b) k = if ld L k = max (ld L a) (ld L b) then min (ld L a) (ld L b) else ld L k := ld_map _ h
theorem unite_way {ts : List T} {E : List (Nat × Nat)} {L : List Nat} {a b : Nat} (w : Way ts E L) (ha : a < L.length) (hb : b < L.length) (hs : ∀ R, Same ts E R → R a b) : Way ts E (uniteL L a b) := by
  have la := w.le a ha
  have lb := w.le b hb
  have ia := w.idem a ha
  have ib := w.idem b hb
  have im : ld L (min (ld L a) (ld L b)) = min (ld L a) (ld L b) := by
    by_cases q : ld L a ≤ ld L b
    · rw [Nat.min_eq_left q]; exact ia
    · rw [Nat.min_eq_right (by omega)]; exact ib
  refine ⟨by rw [unite_len]; exact w.len, fun k hk => ?_, fun k hk => ?_, fun R hR i j hi hj e => ?_⟩
  · rw [unite_len] at hk
    rw [unite_ld hk]
    have := w.le k hk
    split <;> omega
  · rw [unite_len] at hk
    rw [unite_ld hk]
    have lk := w.le k hk
    split
    · rename_i q
      have hm : min (ld L a) (ld L b) < L.length := by omega
      rw [unite_ld hm, im]
      split <;> rfl
    · rename_i q
      rw [unite_ld (by omega), w.idem k hk, if_neg q]
  · rw [unite_len] at hi hj
    rw [unite_ld hi, unite_ld hj] at e
    have rab := hs R hR
    have sab := hR.symm _ _ rab
    have any : ∀ {i j : Nat}, i < L.length → j < L.length → ld L i = ld L j → R i j := fun h1 h2 h3 => w.least R hR _ _ h1 h2 h3
    -- whoever has the one of the two leads is the same as a
    have toA : ∀ {i : Nat}, i < L.length → (ld L i = ld L a ∨ ld L i = ld L b) → R i a := fun h q => by
      rcases q with q | q
      · exact any h ha q
      · exact hR.trans _ _ _ (any h hb q) sab
    have mm : ∀ x, x = max (ld L a) (ld L b) ∨ x = min (ld L a) (ld L b) → x = ld L a ∨ x = ld L b := fun x q => by omega
    split at e
    · rename_i q1
      have r1 := toA hi (mm _ (.inl q1))
      split at e
      · rename_i q2
        exact hR.trans _ _ _ r1 (hR.symm _ _ (toA hj (mm _ (.inl q2))))
      · exact hR.trans _ _ _ r1 (hR.symm _ _ (toA hj (mm _ (.inr e.symm))))
    · split at e
      · rename_i q2
        exact hR.trans _ _ _ (toA hi (mm _ (.inr e))) (hR.symm _ _ (toA hj (mm _ (.inl q2))))
      · exact any hi hj e
theorem unite_keeps {L : List Nat} {a b i j : Nat} (hi : i < L.length) (hj : j < L.length) (h : ld L i = ld L j) : ld (uniteL L a b) i = ld (uniteL L a b) j := by rw [unite_ld hi, unite_ld hj, h]
theorem unite_joins {L : List Nat} {a b : Nat} (ha : a < L.length) (hb : b < L.length) : ld (uniteL L a b) a = ld (uniteL L a b) b := by
  rw [unite_ld ha, unite_ld hb]
  split <;> split <;> omega
theorem sum_le_map {f : Nat → Nat} (hf : ∀ x, f x ≤ x) : ∀ L : List Nat, (L.map f).sum ≤ L.sum
  | [] => Nat.le_refl _
  | x :: r => by
    have := sum_le_map hf r
    have := hf x
    simp only [List.map_cons, List.sum_cons]
    omega
theorem unite_sum_le {L : List Nat} {a b : Nat} : (uniteL L a b).sum ≤ L.sum := sum_le_map (fun x => by split <;> omega) L
theorem sum_lt_map {f : Nat → Nat} (hf : ∀ x, f x ≤ x) : ∀ (L : List Nat) (y : Nat), y ∈ L → f y < y → (L.map f).sum < L.sum
  | x :: r, y, hy, h => by
    have := hf x
    simp only [List.map_cons, List.sum_cons]
    rcases List.mem_cons.mp hy with e | hy
    · subst e
      have := sum_le_map hf r
      omega
    · have := sum_lt_map hf r y hy h
      omega
theorem ld_mem {L : List Nat} {a : Nat} (h : a < L.length) : ld L a ∈ L := by
  have : ld L a = L[a] := by simp [ld, List.getD_eq_getElem?_getD, List.getElem?_eq_getElem h]
  rw [this]
  exact List.getElem_mem h
theorem unite_sum_lt {L : List Nat} {a b : Nat} (ha : a < L.length) (hb : b < L.length) (hn : ld L a ≠ ld L b) : (uniteL L a b).sum < L.sum := by
  refine sum_lt_map (fun x => by split <;> omega) L (max (ld L a) (ld L b)) ?_ (by rw [if_pos rfl]; omega)
  by_cases q : ld L a ≤ ld L b
  · rw [Nat.max_eq_right q]; exact ld_mem hb
  · rw [Nat.max_eq_left (by omega)]; exact ld_mem ha
/-! ### what unite does -/
abbrev lp (L : List Nat) : List PV := L.map fun n : Nat => PV.int (n : Int)
theorem at_ld {L : List Nat} {a : Nat} (h : a < L.length) : atI (lp L) (a : Int) = some (.int (ld L a : Nat)) := atI_nat' (by omega) (by
  rw [Int.toNat_natCast, List.getElem?_map, List.getElem?_eq_getElem h]
  simp [ld, List.getD_eq_getElem?_getD, List.getElem?_eq_getElem h])
theorem lp_len (L : List Nat) : (lp L).length = L.length := List.length_map _
theorem rng1_ok {f : FA} {e : Env} {s : Store} {j : Nat} (h : f e s = .ok [.int (j : Int)] s) (hj : j < 1000000) : rng1I f e s = .ok ⟨intL 0 1 j, []⟩ s := by
  have := rng1I_ok h (by omega) (by omega)
  rwa [Int.toNat_natCast] at this
theorem lp_set {L : List Nat} {k x : Nat} (h : k < L.length) : (lp L).set k (.int (x : Int)) = lp (L.set k x) := by
  unfold lp
  rw [List.map_set]
theorem ixN_nat {n k : Nat} (h : k < n) : ixN n (k : Int) = some k := by
  unfold ixN
  rw [if_pos (by omega), if_pos (by omega)]
  simp
theorem lp_pure (L : List Nat) : puresP (lp L) = true := pures_iff.mpr fun x hx => by
  obtain ⟨n, _, rfl⟩ := List.mem_map.mp hx
  rfl
theorem run_nx_set {n p : Nat} {body : FS} {args : List PV} {st g : Store} {e : Env} {o : PO} (h : body (args.map some ++ List.replicate (n - args.length) none) st = .nx e (st.set p o ++ g)) (hp : p < st.length) (ho : objOk st.length o = true) : runFn n body args st = .ok .non (st.set p o) := by
  unfold runFn
  rw [h]
  show gc st .non (st.set p o ++ g) = _
  unfold gc
  have c : st.length ≤ (st.set p o ++ g).length ∧ preOk st (st.set p o ++ g) := by
    refine ⟨by simp, fun k hk => ?_⟩
    rw [List.getElem?_append_left (by rw [List.length_set]; exact hk)]
    by_cases e : p = k
    · subst e
      exact .inr ⟨o, List.getElem?_set_self hp, ho⟩
    · exact .inl (List.getElem?_set_ne e)
  rw [if_pos c, if_pos (show refsOk st.length PV.non = true from rfl), List.take_left' (List.length_set ..)]
theorem F_unite {r a b : Nat} {L : List Nat} {s : Store} (hr : s[r]? = some (.lst (lp L))) (ha : a < L.length) (hb : b < L.length) (hl : L.length ≤ 1000) :
    F_unite [.ref r, .int (a : Int), .int (b : Int)] s = .ok .non (s.set r (.lst (lp (uniteL L a b)))) := by
  have A := at_ld ha
  have B := at_ld hb
  have rl := (List.getElem?_eq_some_iff.mp hr).1
  have hmin : min ((ld L a : Nat) : Int) (ld L b : Nat) = ((min (ld L a) (ld L b) : Nat) : Int) := by omega
  have hmax : max ((ld L a : Nat) : Int) (ld L b : Nat) = ((max (ld L a) (ld L b) : Nat) : Int) := by omega
  generalize hlo : min (ld L a) (ld L b) = lo at *
  generalize hhi : max (ld L a) (ld L b) = hi at *
  have same : lo = hi → uniteL L a b = L := fun e => by
    unfold uniteL
    rw [hlo, hhi, e]
    conv => rhs; rw [← List.map_id L]
    refine List.map_congr_left fun x _ => ?_
    by_cases q : x = hi
    · rw [if_pos q]; exact q.symm
    · rw [if_neg q]; rfl
  by_cases e : lo = hi
  · have h : b_unite [some (.ref r), some (.int (a : Int)), some (.int (b : Int)), none, none, none] s = .rt .non s := by
      simp only [b_unite, seqS, ifS, setS, augS, dropS, retS, retN, nxS, bkS, ctS, asgS, subS, R.toS, R.bind, R.of, opF, unF, varF, cstF, chF, isB, asB, andT, orT, notT, andF, orF, notF, ifF, nilA, consA, tupF, lstF, cbF, callF, bmF', truT, truV, nameG, nilG, consG, tupG, List.set_cons_zero, List.set_cons_succ, List.getElem?_cons_zero, List.getElem?_cons_succ, Option.bind_some, Option.bind_none, Option.map_some, Option.map_none, List.length_cons, List.length_nil, List.cons_append, List.nil_append, List.append_nil, if_true, if_false, ite_true, ite_false, Bool.false_eq_true, reduceIte, reduceCtorEq, List.map_cons, List.map_nil, Nat.sub_self, List.replicate_succ, List.replicate_zero, Nat.reduceSub, Nat.reduceAdd, Nat.reduceLT, Nat.reduceLeDiff, Nat.reduceEqDiff, Nat.reduceMul, Nat.reducePow, Int.reduceLT, Int.reduceLE, Int.reduceAdd, Int.reduceMul, Int.reduceSub, Int.reduceNeg, Int.reduceEq, Int.reducePow, Int.reduceMod, Int.reduceDiv, Int.reduceToNat, decide_true, decide_false, and_true, true_and, and_self, Option.some.injEq, addV, iaddV, subV, mulV, fdivV, modV, powV, negV, cmpV, isNonV, notNonV, idxV, at0, at1, at2, at3, at4, at5, seqAt, lstAt, lenV, isiV, typV, kb1, kb2, kb3, kb4, kb5, kb6, kb7, kb8, kb9, kb10, kb11, eqV, neV, eqB, scEq, t1, t2, t3, t4, t5, t6, t7, t8, t9, t10, t11, t12, t13, t14, t15, t16, hr, A, B, minV, maxV, hmin, hmax, e]
    unfold FL.F_unite
    rw [run_rt0 h rfl, same e]
    have : s.set r (.lst (lp L)) = s := Bk.set_same hr
    rw [this]
  · have ei : ¬ ((lo : Int) = (hi : Int)) := by omega
    -- the loop
    let M : Nat → List Nat := fun i => (L.take i).map (fun x => if x = hi then lo else x) ++ L.drop i
    have Ml : ∀ i, (M i).length = L.length := fun i => by simp [M]; omega
    have Mn : ∀ i, (h : i < L.length) → ld (M i) i = ld L i := fun i h => by
      simp only [ld, List.getD_eq_getElem?_getD, M]
      rw [List.getElem?_append_right (by simp; omega)]
      have : i - (List.map (fun x => if x = hi then lo else x) (List.take i L)).length = 0 := by simp; omega
      rw [this, List.getElem?_drop, Nat.add_zero]
    have Ms : ∀ i, (h : i < L.length) → M (i + 1) = (M i).set i (if ld L i = hi then lo else ld L i) := fun i h => by
      have e0 : ld L i = L[i] := by simp [ld, List.getD_eq_getElem?_getD, List.getElem?_eq_getElem h]
      simp only [M]
      rw [List.set_append_right _ _ (by simp; omega)]
      have : i - (List.map (fun x => if x = hi then lo else x) (List.take i L)).length = 0 := by simp; omega
      rw [this, List.drop_eq_getElem_cons h, List.set_cons_zero, List.take_succ_eq_append_getElem h, List.map_append, List.append_assoc, e0]
      rfl
    have lp1 : ∃ e' s', forS (rng1I (consA (cbF lenV (consA (varF 0) nilA)) nilA)) (nameG 5) b_unite_s1 [some (.ref r), some (.int (a : Int)), some (.int (b : Int)), some (.int (lo : Int)), some (.int (hi : Int)), none] s = .nx e' s' ∧ s' = s.set r (.lst (lp (uniteL L a b))) := by
      have hL : (cbF lenV (consA (varF 0) nilA)) [some (.ref r), some (.int (a : Int)), some (.int (b : Int)), some (.int (lo : Int)), some (.int (hi : Int)), none] s = .ok (.int (L.length : Nat)) s := by
        simp only [seqS, ifS, setS, augS, dropS, retS, retN, nxS, bkS, ctS, asgS, subS, R.toS, R.bind, R.of, opF, unF, varF, cstF, chF, isB, asB, andT, orT, notT, andF, orF, notF, ifF, nilA, consA, tupF, lstF, cbF, callF, bmF', truT, truV, nameG, nilG, consG, tupG, List.set_cons_zero, List.set_cons_succ, List.getElem?_cons_zero, List.getElem?_cons_succ, Option.bind_some, Option.bind_none, Option.map_some, Option.map_none, List.length_cons, List.length_nil, List.cons_append, List.nil_append, List.append_nil, if_true, if_false, ite_true, ite_false, Bool.false_eq_true, reduceIte, reduceCtorEq, List.map_cons, List.map_nil, Nat.sub_self, List.replicate_succ, List.replicate_zero, Nat.reduceSub, Nat.reduceAdd, Nat.reduceLT, Nat.reduceLeDiff, Nat.reduceEqDiff, Nat.reduceMul, Nat.reducePow, Int.reduceLT, Int.reduceLE, Int.reduceAdd, Int.reduceMul, Int.reduceSub, Int.reduceNeg, Int.reduceEq, Int.reducePow, Int.reduceMod, Int.reduceDiv, Int.reduceToNat, decide_true, decide_false, and_true, true_and, and_self, Option.some.injEq, lenV, hr, lp_len]
      have hw := rng1_ok (f := consA (cbF lenV (consA (varF 0) nilA)) nilA) (e := [some (.ref r), some (.int (a : Int)), some (.int (b : Int)), some (.int (lo : Int)), some (.int (hi : Int)), none]) (s := s) (j := L.length) (by simp only [consA, hL, nilA, bind_ok]) (by omega)
      unfold forS
      rw [hw, toS_ok]
      obtain ⟨e', s', h1, h2⟩ := forL_inv (gd := []) (g := nameG 5) (b := b_unite_s1) (xs := intL 0 1 L.length) (fun i e st => st = s.set r (.lst (lp (M i))) ∧ ∃ o, e = [some (.ref r), some (.int (a : Int)), some (.int (b : Int)), some (.int (lo : Int)), some (.int (hi : Int)), o])
        (e := [some (.ref r), some (.int (a : Int)), some (.int (b : Int)), some (.int (lo : Int)), some (.int (hi : Int)), none]) (st := s) ⟨by simp [M]; exact (Bk.set_same hr).symm, none, rfl⟩
        (fun i x e st hx ⟨h1, o, h2⟩ => by
          rw [intL_get] at hx
          split at hx
          · rename_i hi'
            cases hx
            subst h1 h2
            refine ⟨gd_nil _, _, rfl, ?_⟩
            rw [Int.mul_one, Int.zero_add]
            have hr2 : (s.set r (.lst (lp (M i))))[r]? = some (.lst (lp (M i))) := List.getElem?_set_self rl
            have hat := at_ld (L := M i) (a := i) (by rw [Ml]; exact hi')
            rw [Mn i hi'] at hat
            have hix : ixN (lp (M i)).length (i : Int) = some i := ixN_nat (by rw [lp_len, Ml]; exact hi')
            by_cases q : ld L i = hi
            · have qi : ((ld L i : Nat) : Int) = (hi : Int) := by omega
              refine ⟨[some (.ref r), some (.int (a : Int)), some (.int (b : Int)), some (.int (lo : Int)), some (.int (hi : Int)), some (.int (i : Int))], s.set r (.lst (lp (M (i + 1)))), ?_, rfl, _, rfl⟩
              rw [Ms i hi', if_pos q, ← lp_set (by rw [Ml]; exact hi')]
              simp only [b_unite_s1, seqS, ifS, setS, augS, dropS, retS, retN, nxS, bkS, ctS, asgS, subS, R.toS, R.bind, R.of, opF, unF, varF, cstF, chF, isB, asB, andT, orT, notT, andF, orF, notF, ifF, nilA, consA, tupF, lstF, cbF, callF, bmF', truT, truV, nameG, nilG, consG, tupG, List.set_cons_zero, List.set_cons_succ, List.getElem?_cons_zero, List.getElem?_cons_succ, Option.bind_some, Option.bind_none, Option.map_some, Option.map_none, List.length_cons, List.length_nil, List.cons_append, List.nil_append, List.append_nil, if_true, if_false, ite_true, ite_false, Bool.false_eq_true, reduceIte, reduceCtorEq, List.map_cons, List.map_nil, Nat.sub_self, List.replicate_succ, List.replicate_zero, Nat.reduceSub, Nat.reduceAdd, Nat.reduceLT, Nat.reduceLeDiff, Nat.reduceEqDiff, Nat.reduceMul, Nat.reducePow, Int.reduceLT, Int.reduceLE, Int.reduceAdd, Int.reduceMul, Int.reduceSub, Int.reduceNeg, Int.reduceEq, Int.reducePow, Int.reduceMod, Int.reduceDiv, Int.reduceToNat, decide_true, decide_false, and_true, true_and, and_self, Option.some.injEq, addV, iaddV, subV, mulV, fdivV, modV, powV, negV, cmpV, isNonV, notNonV, idxV, at0, at1, at2, at3, at4, at5, seqAt, lstAt, lenV, isiV, typV, kb1, kb2, kb3, kb4, kb5, kb6, kb7, kb8, kb9, kb10, kb11, eqV, neV, eqB, scEq, t1, t2, t3, t4, t5, t6, t7, t8, t9, t10, t11, t12, t13, t14, t15, t16, hr2, hat, qi, setLV, hix, List.set_set]
            · have qi : ¬ ((ld L i : Nat) : Int) = (hi : Int) := by omega
              refine ⟨[some (.ref r), some (.int (a : Int)), some (.int (b : Int)), some (.int (lo : Int)), some (.int (hi : Int)), some (.int (i : Int))], s.set r (.lst (lp (M (i + 1)))), ?_, rfl, _, rfl⟩
              have : M (i + 1) = M i := by
                rw [Ms i hi', if_neg q]
                have : ld L i = (M i)[i]'(by rw [Ml]; exact hi') := by rw [← Mn i hi']; simp [ld, List.getD_eq_getElem?_getD, List.getElem?_eq_getElem (show i < (M i).length by rw [Ml]; exact hi')]
                rw [this, List.set_getElem_self]
              rw [this]
              simp only [b_unite_s1, seqS, ifS, setS, augS, dropS, retS, retN, nxS, bkS, ctS, asgS, subS, R.toS, R.bind, R.of, opF, unF, varF, cstF, chF, isB, asB, andT, orT, notT, andF, orF, notF, ifF, nilA, consA, tupF, lstF, cbF, callF, bmF', truT, truV, nameG, nilG, consG, tupG, List.set_cons_zero, List.set_cons_succ, List.getElem?_cons_zero, List.getElem?_cons_succ, Option.bind_some, Option.bind_none, Option.map_some, Option.map_none, List.length_cons, List.length_nil, List.cons_append, List.nil_append, List.append_nil, if_true, if_false, ite_true, ite_false, Bool.false_eq_true, reduceIte, reduceCtorEq, List.map_cons, List.map_nil, Nat.sub_self, List.replicate_succ, List.replicate_zero, Nat.reduceSub, Nat.reduceAdd, Nat.reduceLT, Nat.reduceLeDiff, Nat.reduceEqDiff, Nat.reduceMul, Nat.reducePow, Int.reduceLT, Int.reduceLE, Int.reduceAdd, Int.reduceMul, Int.reduceSub, Int.reduceNeg, Int.reduceEq, Int.reducePow, Int.reduceMod, Int.reduceDiv, Int.reduceToNat, decide_true, decide_false, and_true, true_and, and_self, Option.some.injEq, addV, iaddV, subV, mulV, fdivV, modV, powV, negV, cmpV, isNonV, notNonV, idxV, at0, at1, at2, at3, at4, at5, seqAt, lstAt, lenV, isiV, typV, kb1, kb2, kb3, kb4, kb5, kb6, kb7, kb8, kb9, kb10, kb11, eqV, neV, eqB, scEq, t1, t2, t3, t4, t5, t6, t7, t8, t9, t10, t11, t12, t13, t14, t15, t16, hr2, hat, qi]
          · cases hx)
        (fun e st _ => gd_nil _)
      refine ⟨e', s', h1, ?_⟩
      rw [h2.1, intL_len]
      have : M L.length = uniteL L a b := by simp only [M, uniteL, hlo, hhi, List.take_length, List.drop_length, List.append_nil]
      rw [this]
    obtain ⟨e', s', h1, h2⟩ := lp1
    have h : b_unite [some (.ref r), some (.int (a : Int)), some (.int (b : Int)), none, none, none] s = .nx e' s' := by
      simp only [b_unite, seqS, ifS, setS, augS, dropS, retS, retN, nxS, bkS, ctS, asgS, subS, R.toS, R.bind, R.of, opF, unF, varF, cstF, chF, isB, asB, andT, orT, notT, andF, orF, notF, ifF, nilA, consA, tupF, lstF, cbF, callF, bmF', truT, truV, nameG, nilG, consG, tupG, List.set_cons_zero, List.set_cons_succ, List.getElem?_cons_zero, List.getElem?_cons_succ, Option.bind_some, Option.bind_none, Option.map_some, Option.map_none, List.length_cons, List.length_nil, List.cons_append, List.nil_append, List.append_nil, if_true, if_false, ite_true, ite_false, Bool.false_eq_true, reduceIte, reduceCtorEq, List.map_cons, List.map_nil, Nat.sub_self, List.replicate_succ, List.replicate_zero, Nat.reduceSub, Nat.reduceAdd, Nat.reduceLT, Nat.reduceLeDiff, Nat.reduceEqDiff, Nat.reduceMul, Nat.reducePow, Int.reduceLT, Int.reduceLE, Int.reduceAdd, Int.reduceMul, Int.reduceSub, Int.reduceNeg, Int.reduceEq, Int.reducePow, Int.reduceMod, Int.reduceDiv, Int.reduceToNat, decide_true, decide_false, and_true, true_and, and_self, Option.some.injEq, addV, iaddV, subV, mulV, fdivV, modV, powV, negV, cmpV, isNonV, notNonV, idxV, at0, at1, at2, at3, at4, at5, seqAt, lstAt, lenV, isiV, typV, kb1, kb2, kb3, kb4, kb5, kb6, kb7, kb8, kb9, kb10, kb11, eqV, neV, eqB, scEq, t1, t2, t3, t4, t5, t6, t7, t8, t9, t10, t11, t12, t13, t14, t15, t16, hr, A, B, minV, maxV, hmin, hmax, ei]
      rw [h1]
    unfold FL.F_unite
    exact run_nx_set (g := []) (by rw [List.append_nil, ← h2]; exact h) rl (by simp only [objOk]; exact pures_refs _ (lp_pure _))
/-! ### marks -/
def markT (L : List Nat) : T → T
  | .of w as => .of w (as.map fun a => ((ld L a.toNat : Nat) : Int))
  | t => t
def tk : T → NestedKey
  | .num i => .tup [.text "num", .num i]
  | .name x => .tup [.text "name", .text x]
  | .of w as => .tup [.text "of", .text w, .tup (as.map NestedKey.num)]
theorem keyNs_ints : ∀ as : List Int, keyNs (as.map PV.int) = some (as.map NestedKey.num)
  | [] => rfl
  | a :: r => by
    rw [List.map_cons, List.map_cons]
    simp only [keyNs, keyNs_ints r, keyN]
theorem depth_nums : ∀ as : List Int, NestedKey.depthAll (as.map NestedKey.num) = 0
  | [] => rfl
  | a :: r => by
    rw [List.map_cons]
    simp only [NestedKey.depthAll, depth_nums r, NestedKey.depth]
    rfl
theorem keyT_T (t : T) : keyT t.pv = some (tk t) := by
  cases t with
  | num i => rfl
  | name x => rfl
  | of w as =>
    simp only [Tm.Tm.pv, keyT, keyNs, keyN, keyNs_ints, tk, NestedKey.depth, NestedKey.depthAll, depth_nums]
    rfl
theorem map_num_inj : ∀ {a b : List Int}, a.map NestedKey.num = b.map NestedKey.num → a = b
  | [], [], _ => rfl
  | [], _ :: _, h => by cases h
  | _ :: _, [], h => by cases h
  | a :: r, b :: q, h => by
    rw [List.map_cons, List.map_cons, List.cons.injEq, NestedKey.num.injEq] at h
    rw [h.1, map_num_inj h.2]
theorem tag_ne : ("num" : Str) ≠ "name" ∧ ("num" : Str) ≠ "of" ∧ ("name" : Str) ≠ "of" := by decide +kernel
theorem tk_inj {t u : T} (h : tk t = tk u) : t = u := by
  obtain ⟨n1, n2, n3⟩ := tag_ne
  cases t <;> cases u <;> simp only [tk, NestedKey.tup.injEq, List.cons.injEq, NestedKey.text.injEq, NestedKey.num.injEq, and_true, true_and, reduceCtorEq, and_false, false_and] at h
  · rw [h]
  · rw [h]
  · obtain ⟨h1, h2⟩ := h
    rw [h1, map_num_inj h2]
theorem mark_like {R : Nat → Nat → Prop} {L L' : List Nat} (hR : ∀ a b, ld L' a = ld L b → R a b) : ∀ {t u : T}, markT L' t = markT L u → LikeT R t u
  | .num i, .num j, h => by simp only [markT, Tm.Tm.num.injEq] at h; exact h
  | .name i, .name j, h => by simp only [markT, Tm.Tm.name.injEq] at h; exact h
  | .of w as, .of v bs, h => by
    simp only [markT, Tm.Tm.of.injEq] at h
    obtain ⟨h1, h2⟩ := h
    have hl : as.length = bs.length := by simpa using congrArg List.length h2
    refine ⟨h1, hl, fun i a b ha hb => hR _ _ ?_⟩
    have := congrArg (fun l => l[i]?) h2
    simp only [List.getElem?_map, ha, hb, Option.map_some, Option.some.injEq] at this
    omega
  | .num _, .name _, h => by cases h
  | .num _, .of _ _, h => by cases h
  | .name _, .num _, h => by cases h
  | .name _, .of _ _, h => by cases h
  | .of _ _, .num _, h => by cases h
  | .of _ _, .name _, h => by cases h
theorem like_mark {L : List Nat} : ∀ {t u : T}, LikeT (RL L) t u → markT L t = markT L u
  | .num i, .num j, h => by simp only [markT, Tm.Tm.num.injEq]; exact h
  | .name i, .name j, h => by simp only [markT, Tm.Tm.name.injEq]; exact h
  | .of w as, .of v bs, h => by
    obtain ⟨h1, h2, h3⟩ := h
    simp only [markT, Tm.Tm.of.injEq]
    refine ⟨h1, List.ext_getElem (by simpa using h2) fun i a b => ?_⟩
    rw [List.length_map] at a b
    rw [List.getElem_map, List.getElem_map]
    have := h3 i _ _ (List.getElem?_eq_getElem a) (List.getElem?_eq_getElem b)
    have e : ld L _ = ld L _ := this
    rw [e]
  | .num _, .name _, h => h.elim
  | .num _, .of _ _, h => h.elim
  | .name _, .num _, h => h.elim
  | .name _, .of _ _, h => h.elim
  | .of _ _, .num _, h => h.elim
  | .of _ _, .name _, h => h.elim
theorem F_mark {r : Nat} {L : List Nat} {t : T} {s : Store} (hr : s[r]? = some (.lst (lp L))) (ht : t.Good L.length) : FL.F_mark [t.pv, .ref r] s = .ok (markT L t).pv s := by
  unfold FL.F_mark
  cases t with
  | num i => refine run_rt0 ?_ (Tm.pv_pure _); simp only [b_mark, Tm.Tm.pv, markT, seqS, ifS, setS, augS, dropS, retS, retN, nxS, bkS, ctS, asgS, subS, R.toS, R.bind, R.of, opF, unF, varF, cstF, chF, isB, asB, andT, orT, notT, andF, orF, notF, ifF, nilA, consA, tupF, lstF, cbF, callF, bmF', truT, truV, nameG, nilG, consG, tupG, List.set_cons_zero, List.set_cons_succ, List.getElem?_cons_zero, List.getElem?_cons_succ, Option.bind_some, Option.bind_none, Option.map_some, Option.map_none, List.length_cons, List.length_nil, List.cons_append, List.nil_append, List.append_nil, if_true, if_false, ite_true, ite_false, Bool.false_eq_true, reduceIte, reduceCtorEq, List.map_cons, List.map_nil, Nat.sub_self, List.replicate_succ, List.replicate_zero, Nat.reduceSub, Nat.reduceAdd, Nat.reduceLT, Nat.reduceLeDiff, Nat.reduceEqDiff, Nat.reduceMul, Nat.reducePow, Int.reduceLT, Int.reduceLE, Int.reduceAdd, Int.reduceMul, Int.reduceSub, Int.reduceNeg, Int.reduceEq, Int.reducePow, Int.reduceMod, Int.reduceDiv, Int.reduceToNat, decide_true, decide_false, and_true, true_and, and_self, Option.some.injEq, addV, iaddV, subV, mulV, fdivV, modV, powV, negV, cmpV, isNonV, notNonV, eqV, neV, eqB, scEq, t1, t2, t3, t4, t5, t6, t7, t8, t9, t10, t11, t12, t13, t14, t15, t16, idxV, at0, at1, at2, at3, at4, at5, seqAt, lstAt, lenV, isiV, typV, kb1, kb2, kb3, kb4, kb5, kb6, kb7, kb8, kb9, kb10, kb11, Bool.not_false, Bool.not_true]
  | name i => refine run_rt0 ?_ (Tm.pv_pure _); simp only [b_mark, Tm.Tm.pv, markT, seqS, ifS, setS, augS, dropS, retS, retN, nxS, bkS, ctS, asgS, subS, R.toS, R.bind, R.of, opF, unF, varF, cstF, chF, isB, asB, andT, orT, notT, andF, orF, notF, ifF, nilA, consA, tupF, lstF, cbF, callF, bmF', truT, truV, nameG, nilG, consG, tupG, List.set_cons_zero, List.set_cons_succ, List.getElem?_cons_zero, List.getElem?_cons_succ, Option.bind_some, Option.bind_none, Option.map_some, Option.map_none, List.length_cons, List.length_nil, List.cons_append, List.nil_append, List.append_nil, if_true, if_false, ite_true, ite_false, Bool.false_eq_true, reduceIte, reduceCtorEq, List.map_cons, List.map_nil, Nat.sub_self, List.replicate_succ, List.replicate_zero, Nat.reduceSub, Nat.reduceAdd, Nat.reduceLT, Nat.reduceLeDiff, Nat.reduceEqDiff, Nat.reduceMul, Nat.reducePow, Int.reduceLT, Int.reduceLE, Int.reduceAdd, Int.reduceMul, Int.reduceSub, Int.reduceNeg, Int.reduceEq, Int.reducePow, Int.reduceMod, Int.reduceDiv, Int.reduceToNat, decide_true, decide_false, and_true, true_and, and_self, Option.some.injEq, addV, iaddV, subV, mulV, fdivV, modV, powV, negV, cmpV, isNonV, notNonV, eqV, neV, eqB, scEq, t1, t2, t3, t4, t5, t6, t7, t8, t9, t10, t11, t12, t13, t14, t15, t16, idxV, at0, at1, at2, at3, at4, at5, seqAt, lstAt, lenV, isiV, typV, kb1, kb2, kb3, kb4, kb5, kb6, kb7, kb8, kb9, kb10, kb11, Bool.not_false, Bool.not_true]
  | of w as =>
    obtain ⟨h1, h2, h3⟩ := ht
    refine run_rt (g := [.lst (as.map fun a => .int (ld L a.toNat : Nat))]) ?_ (Tm.pv_pure _)
    have hl := lcT (i := 0) (k := 2) (fi := opF idxV (varF 0) (cstF (.int 2))) (fe := b_mark_e1) (e := [some (Tm.Tm.of w as).pv, some (.ref r), none]) (s := s) as PV.int (fun a => .int (ld L a.toNat : Nat)) (by simp only [Tm.Tm.pv, seqS, ifS, setS, augS, dropS, retS, retN, nxS, bkS, ctS, asgS, subS, R.toS, R.bind, R.of, opF, unF, varF, cstF, chF, isB, asB, andT, orT, notT, andF, orF, notF, ifF, nilA, consA, tupF, lstF, cbF, callF, bmF', truT, truV, nameG, nilG, consG, tupG, List.set_cons_zero, List.set_cons_succ, List.getElem?_cons_zero, List.getElem?_cons_succ, Option.bind_some, Option.bind_none, Option.map_some, Option.map_none, List.length_cons, List.length_nil, List.cons_append, List.nil_append, List.append_nil, if_true, if_false, ite_true, ite_false, Bool.false_eq_true, reduceIte, reduceCtorEq, List.map_cons, List.map_nil, Nat.sub_self, List.replicate_succ, List.replicate_zero, Nat.reduceSub, Nat.reduceAdd, Nat.reduceLT, Nat.reduceLeDiff, Nat.reduceEqDiff, Nat.reduceMul, Nat.reducePow, Int.reduceLT, Int.reduceLE, Int.reduceAdd, Int.reduceMul, Int.reduceSub, Int.reduceNeg, Int.reduceEq, Int.reducePow, Int.reduceMod, Int.reduceDiv, Int.reduceToNat, decide_true, decide_false, and_true, true_and, and_self, Option.some.injEq, idxV, at0, at1, at2, at3, at4, at5, seqAt, lstAt, lenV, isiV, typV, kb1, kb2, kb3, kb4, kb5, kb6, kb7, kb8, kb9, kb10, kb11]) (by omega) (fun a ha acc => by
      have q := h3 a ha
      have hat := at_ld (L := L) (a := a.toNat) (by omega)
      rw [show ((a.toNat : Nat) : Int) = a by omega] at hat
      simp only [b_mark_e1, wipeE, seqS, ifS, setS, augS, dropS, retS, retN, nxS, bkS, ctS, asgS, subS, R.toS, R.bind, R.of, opF, unF, varF, cstF, chF, isB, asB, andT, orT, notT, andF, orF, notF, ifF, nilA, consA, tupF, lstF, cbF, callF, bmF', truT, truV, nameG, nilG, consG, tupG, List.set_cons_zero, List.set_cons_succ, List.getElem?_cons_zero, List.getElem?_cons_succ, Option.bind_some, Option.bind_none, Option.map_some, Option.map_none, List.length_cons, List.length_nil, List.cons_append, List.nil_append, List.append_nil, if_true, if_false, ite_true, ite_false, Bool.false_eq_true, reduceIte, reduceCtorEq, List.map_cons, List.map_nil, Nat.sub_self, List.replicate_succ, List.replicate_zero, Nat.reduceSub, Nat.reduceAdd, Nat.reduceLT, Nat.reduceLeDiff, Nat.reduceEqDiff, Nat.reduceMul, Nat.reducePow, Int.reduceLT, Int.reduceLE, Int.reduceAdd, Int.reduceMul, Int.reduceSub, Int.reduceNeg, Int.reduceEq, Int.reducePow, Int.reduceMod, Int.reduceDiv, Int.reduceToNat, decide_true, decide_false, and_true, true_and, and_self, Option.some.injEq, idxV, at0, at1, at2, at3, at4, at5, seqAt, lstAt, lenV, isiV, typV, kb1, kb2, kb3, kb4, kb5, kb6, kb7, kb8, kb9, kb10, kb11, getOld hr, hat])
    simp only [Tm.Tm.pv] at hl
    simp only [b_mark, Tm.Tm.pv, markT, seqS, ifS, setS, augS, dropS, retS, retN, nxS, bkS, ctS, asgS, subS, R.toS, R.bind, R.of, opF, unF, varF, cstF, chF, isB, asB, andT, orT, notT, andF, orF, notF, ifF, nilA, consA, tupF, lstF, cbF, callF, bmF', truT, truV, nameG, nilG, consG, tupG, List.set_cons_zero, List.set_cons_succ, List.getElem?_cons_zero, List.getElem?_cons_succ, Option.bind_some, Option.bind_none, Option.map_some, Option.map_none, List.length_cons, List.length_nil, List.cons_append, List.nil_append, List.append_nil, if_true, if_false, ite_true, ite_false, Bool.false_eq_true, reduceIte, reduceCtorEq, List.map_cons, List.map_nil, Nat.sub_self, List.replicate_succ, List.replicate_zero, Nat.reduceSub, Nat.reduceAdd, Nat.reduceLT, Nat.reduceLeDiff, Nat.reduceEqDiff, Nat.reduceMul, Nat.reducePow, Int.reduceLT, Int.reduceLE, Int.reduceAdd, Int.reduceMul, Int.reduceSub, Int.reduceNeg, Int.reduceEq, Int.reducePow, Int.reduceMod, Int.reduceDiv, Int.reduceToNat, decide_true, decide_false, and_true, true_and, and_self, Option.some.injEq, addV, iaddV, subV, mulV, fdivV, modV, powV, negV, cmpV, isNonV, notNonV, eqV, neV, eqB, scEq, t1, t2, t3, t4, t5, t6, t7, t8, t9, t10, t11, t12, t13, t14, t15, t16, idxV, at0, at1, at2, at3, at4, at5, seqAt, lstAt, lenV, isiV, typV, kb1, kb2, kb3, kb4, kb5, kb6, kb7, kb8, kb9, kb10, kb11, Bool.not_false, Bool.not_true, hl, tupleV, getS0, sizeLine_eq, List.map_map]
    rfl
/-! ### unite_like -/
structure Pass (ts : List T) (E : List (Nat × Nat)) (L0 : List Nat) (i : Nat) (L : List Nat) (kvs : List (NestedKey × PV)) (met : Bool) : Prop where
  way : Way ts E L
  seen : ∀ k v, valP kvs k = some v → ∃ (j : Nat) (t : T) (L' : List Nat), v = .int (j : Int) ∧ j < i ∧ ts[j]? = some t ∧ k = tk (markT L' t) ∧ Way ts E L' ∧ ∀ a b, a < L.length → b < L.length → ld L' a = ld L' b → ld L a = ld L b
  calm : met = false → L = L0 ∧ ∀ j t, j < i → ts[j]? = some t → ∃ j' : Nat, valP kvs (tk (markT L0 t)) = some (.int (j' : Int)) ∧ ld L0 j' = ld L0 j
  less : met = true → L.sum < L0.sum
  many : kvs.length ≤ i
  old : ∀ a b, a < L.length → b < L.length → ld L0 a = ld L0 b → ld L a = ld L b
theorem valP_putD {kvs : List (NestedKey × PV)} {k k' : NestedKey} {v : PV} : valP (putD kvs k v) k' = if k' = k then some v else valP kvs k' := by
  have e1 : ∀ l : List (NestedKey × PV), (l.any fun kv => decide (kv.1 = k)) = false → valP (l ++ [(k, v)]) k' = if k' = k then some v else valP l k' := fun l => by
    induction l with
    | nil =>
      intro _
      by_cases q : k' = k
      · subst q; simp [valP]
      · rw [if_neg q]; simp [valP, List.find?_cons, show ¬ k = k' from fun z => q z.symm]
    | cons p r ih =>
      intro h
      rw [List.any_cons, Bool.or_eq_false_iff] at h
      have hp : ¬ p.1 = k := by simpa using h.1
      have := ih h.2
      by_cases q : p.1 = k'
      · have nk : ¬ k' = k := fun z => hp (q.trans z)
        rw [if_neg nk]
        simp [valP, List.find?_cons, q]
      · have e2 : valP (p :: r ++ [(k, v)]) k' = valP (r ++ [(k, v)]) k' := by simp [valP, List.find?_cons, q]
        have e3 : valP (p :: r) k' = valP r k' := by simp [valP, List.find?_cons, q]
        rw [e2, e3, this]
  have e2 : ∀ l : List (NestedKey × PV), (l.any fun kv => decide (kv.1 = k)) = true → valP (l.map fun kv => if kv.1 = k then (kv.1, v) else kv) k' = if k' = k then some v else valP l k' := fun l => by
    have other : ∀ l : List (NestedKey × PV), k' ≠ k → valP (l.map fun kv => if kv.1 = k then (kv.1, v) else kv) k' = valP l k' := fun l nk => by
      induction l with
      | nil => rfl
      | cons p r ih =>
        rw [List.map_cons]
        by_cases q : p.1 = k
        · have q2 : ¬ p.1 = k' := fun z => nk (z.symm.trans q)
          rw [if_pos q]
          have a1 : valP ((p.1, v) :: List.map (fun kv => if kv.1 = k then (kv.1, v) else kv) r) k' = valP (List.map (fun kv => if kv.1 = k then (kv.1, v) else kv) r) k' := by simp [valP, List.find?_cons, q2]
          have a2 : valP (p :: r) k' = valP r k' := by simp [valP, List.find?_cons, q2]
          rw [a1, a2, ih]
        · rw [if_neg q]
          by_cases q2 : p.1 = k'
          · simp [valP, List.find?_cons, q2]
          · have a1 : valP (p :: List.map (fun kv => if kv.1 = k then (kv.1, v) else kv) r) k' = valP (List.map (fun kv => if kv.1 = k then (kv.1, v) else kv) r) k' := by simp [valP, List.find?_cons, q2]
            have a2 : valP (p :: r) k' = valP r k' := by simp [valP, List.find?_cons, q2]
            rw [a1, a2, ih]
    by_cases nk : k' = k
    · subst nk
      rw [if_pos rfl]
      induction l with
      | nil => intro h; cases h
      | cons p r ih =>
        intro h
        rw [List.map_cons]
        by_cases q : p.1 = k'
        · rw [if_pos q]; simp [valP, List.find?_cons, q]
        · rw [if_neg q]
          rw [List.any_cons, decide_eq_false q, Bool.false_or] at h
          have a1 : valP (p :: List.map (fun kv => if kv.1 = k' then (kv.1, v) else kv) r) k' = valP (List.map (fun kv => if kv.1 = k' then (kv.1, v) else kv) r) k' := by simp [valP, List.find?_cons, q]
          rw [a1, ih h]
    · intro _
      rw [if_neg nk, other l nk]
  unfold putD
  split
  · rename_i h; exact e2 kvs h
  · rename_i h; exact e1 kvs (Bool.eq_false_iff.mpr h)
theorem Pass.start {ts : List T} {E : List (Nat × Nat)} {L : List Nat} (w : Way ts E L) : Pass ts E L 0 L [] false := ⟨w, (fun k v h => by simp [valP] at h), (fun _ => ⟨rfl, fun j t h => absurd h (Nat.not_lt_zero _)⟩), (fun h => by cases h), Nat.le_refl _, fun _ _ _ _ h => h⟩
theorem Pass.put {ts : List T} {E : List (Nat × Nat)} {L0 L : List Nat} {i : Nat} {kvs : List (NestedKey × PV)} {met : Bool} {t : T} (p : Pass ts E L0 i L kvs met) (ht : ts[i]? = some t) (hn : valP kvs (tk (markT L t)) = none) :
    Pass ts E L0 (i + 1) L (putD kvs (tk (markT L t)) (.int (i : Int))) met := by
  refine ⟨p.way, fun k v h => ?_, fun hm => ⟨(p.calm hm).1, fun j u hj hu => ?_⟩, p.less, by have := length_putD kvs (tk (markT L t)) (.int (i : Int)); have := p.many; omega, p.old⟩
  · rw [valP_putD] at h
    split at h
    · rename_i hk
      cases h
      exact ⟨i, t, L, rfl, by omega, ht, hk, p.way, fun _ _ _ _ e => e⟩
    · obtain ⟨j, u, L', h1, h2, h3⟩ := p.seen k v h
      exact ⟨j, u, L', h1, by omega, h3⟩
  · rw [valP_putD]
    have eL := (p.calm hm).1
    by_cases hk : tk (markT L0 u) = tk (markT L t)
    · rw [if_pos hk]
      by_cases hi : j = i
      · subst hi
        exact ⟨_, rfl, rfl⟩
      · obtain ⟨j', h1, h2⟩ := (p.calm hm).2 j u (by omega) hu
        rw [hk, hn] at h1
        cases h1
    · rw [if_neg hk]
      by_cases hi : j = i
      · subst hi
        rw [ht] at hu
        cases hu
        exact absurd (by rw [eL]) hk
      · exact (p.calm hm).2 j u (by omega) hu
theorem Pass.skip {ts : List T} {E : List (Nat × Nat)} {L0 L : List Nat} {i j : Nat} {kvs : List (NestedKey × PV)} {met : Bool} {t : T} (p : Pass ts E L0 i L kvs met) (ht : ts[i]? = some t) (hs : valP kvs (tk (markT L t)) = some (.int (j : Int))) (he : ld L j = ld L i) : Pass ts E L0 (i + 1) L kvs met := by
  refine ⟨p.way, fun k v h => ?_, fun hm => ⟨(p.calm hm).1, fun j2 u hj hu => ?_⟩, p.less, by have := p.many; omega, p.old⟩
  · obtain ⟨j, u, L', h1, h2, h3⟩ := p.seen k v h
    exact ⟨j, u, L', h1, by omega, h3⟩
  · by_cases hi : j2 = i
    · subst hi
      rw [ht] at hu
      cases hu
      have eL := (p.calm hm).1
      rw [eL] at hs he
      exact ⟨j, hs, he⟩
    · exact (p.calm hm).2 j2 u (by omega) hu
theorem Pass.join {ts : List T} {E : List (Nat × Nat)} {L0 L : List Nat} {i j : Nat} {kvs : List (NestedKey × PV)} {met : Bool} {t : T} (p : Pass ts E L0 i L kvs met) (hg : ∀ u ∈ ts, u.Good ts.length) (ht : ts[i]? = some t) (hs : valP kvs (tk (markT L t)) = some (.int (j : Int))) (he : ld L j ≠ ld L i) (hl0 : L.sum ≤ L0.sum) : j < ts.length ∧ Pass ts E L0 (i + 1) (uniteL L j i) kvs true := by
  obtain ⟨j', u, L', h1, h2, h3, h4, h5, h6⟩ := p.seen _ _ hs
  have ej : j = j' := by injection h1 with h1; omega
  subst ej
  have hi : i < ts.length := (List.getElem?_eq_some_iff.mp ht).1
  have hj : j < ts.length := (List.getElem?_eq_some_iff.mp h3).1
  have il : i < L.length := by rw [p.way.len]; exact hi
  have jl : j < L.length := by rw [p.way.len]; exact hj
  have lt := unite_sum_lt jl il he
  refine ⟨hj, unite_way p.way jl il (fun R hR => ?_), fun k v h => ?_, fun hm => (by cases hm), fun _ => by omega, by have := p.many; omega, fun a b ha hb h => ?_⟩
  · have em : markT L' u = markT L t := (tk_inj h4).symm
    have gu := hg u (List.mem_of_getElem? h3)
    have gt := hg t (List.mem_of_getElem? ht)
    refine hR.like j i u t h3 ht ?_
    -- arms: leads of then and of now
    have key : ∀ a b, a < ts.length → b < ts.length → ld L' a = ld L b → R a b := fun a b ha hb e => by
      have al : a < L.length := by rw [p.way.len]; exact ha
      have bl : b < L.length := by rw [p.way.len]; exact hb
      have al' : a < L'.length := by rw [h5.len]; exact ha
      have i1 := h5.idem a al'
      have l1 : ld L' a < L.length := by have := h5.le a al'; omega
      have q1 := h6 (ld L' a) a l1 al i1
      have q2 := p.way.idem b bl
      rw [e] at q1
      exact p.way.least R hR a b al bl (by omega)
    have inn : ∀ {w v : Str} {as bs : List Int}, u = .of w as → t = .of v bs → LikeT R u t := fun {w v as bs} eu et => by
      subst eu et
      simp only [markT, Tm.Tm.of.injEq] at em
      obtain ⟨e1, e2⟩ := em
      have hl : as.length = bs.length := by simpa using congrArg List.length e2
      refine ⟨e1, hl, fun x a b ha hb => key _ _ ?_ ?_ ?_⟩
      · have := gu.2.2 a (List.mem_of_getElem? ha); omega
      · have := gt.2.2 b (List.mem_of_getElem? hb); omega
      · have := congrArg (fun l => l[x]?) e2
        simp only [List.getElem?_map, ha, hb, Option.map_some, Option.some.injEq] at this
        omega
    cases u with
    | num a => cases t with
      | num b => simpa [markT, LikeT] using em
      | name b => cases em
      | of w as => cases em
    | name a => cases t with
      | num b => cases em
      | name b => simpa [markT, LikeT] using em
      | of w as => cases em
    | of w as => cases t with
      | num b => cases em
      | name b => cases em
      | of v bs => exact inn rfl rfl
  · obtain ⟨j2, u2, L2, g1, g2, g3, g4, g5, g6⟩ := p.seen k v h
    exact ⟨j2, u2, L2, g1, by omega, g3, g4, g5, fun a b ha hb e => by
      rw [unite_len] at ha hb
      exact unite_keeps ha hb (g6 a b ha hb e)⟩
  · rw [unite_len] at ha hb
    exact unite_keeps ha hb (p.old a b ha hb h)
theorem F_unite_like {q r : Nat} {ts : List T} {E : List (Nat × Nat)} {L0 : List Nat} {s : Store} (hq : s[q]? = some (.lst (ts.map Tm.Tm.pv))) (hr : s[r]? = some (.lst (lp L0))) (hqr : q ≠ r) (hg : ∀ u ∈ ts, u.Good ts.length) (hl : ts.length ≤ 1000) (w : Way ts E L0) :
    ∃ (L : List Nat) (kvs : List (NestedKey × PV)) (met : Bool), FL.F_unite_like [.ref q, .ref r] s = .ok (.bl met) (s.set r (.lst (lp L))) ∧ Pass ts E L0 ts.length L kvs met := by
  have rl := (List.getElem?_eq_some_iff.mp hr).1
  have ql := (List.getElem?_eq_some_iff.mp hq).1
  have loop : ∃ e' s', forS (rng1I (consA (cbF lenV (consA (varF 0) nilA)) nilA)) (nameG 4) b_unite_like_s1 [some (.ref q), some (.ref r), some (.ref s.length), some (.bl false), none, none] (s ++ [.dN []]) = .nx e' s' ∧
      ∃ (L : List Nat) (kvs : List (NestedKey × PV)) (met : Bool) (o4 o5 : Option PV), e' = [some (.ref q), some (.ref r), some (.ref s.length), some (.bl met), o4, o5] ∧ s' = s.set r (.lst (lp L)) ++ [.dN kvs] ∧ Pass ts E L0 ts.length L kvs met ∧ L.sum ≤ L0.sum := by
    have hw := rng1_ok (f := consA (cbF lenV (consA (varF 0) nilA)) nilA) (e := [some (.ref q), some (.ref r), some (.ref s.length), some (.bl false), none, none]) (s := s ++ [.dN []]) (j := ts.length) (by simp only [seqS, ifS, setS, augS, dropS, retS, retN, nxS, bkS, ctS, asgS, subS, R.toS, R.bind, R.of, opF, unF, varF, cstF, chF, isB, asB, andT, orT, notT, andF, orF, notF, ifF, nilA, consA, tupF, lstF, cbF, callF, bmF', truT, truV, nameG, nilG, consG, tupG, List.set_cons_zero, List.set_cons_succ, List.getElem?_cons_zero, List.getElem?_cons_succ, Option.bind_some, Option.bind_none, Option.map_some, Option.map_none, List.length_cons, List.length_nil, List.cons_append, List.nil_append, List.append_nil, if_true, if_false, ite_true, ite_false, Bool.false_eq_true, reduceIte, reduceCtorEq, List.map_cons, List.map_nil, Nat.sub_self, List.replicate_succ, List.replicate_zero, Nat.reduceSub, Nat.reduceAdd, Nat.reduceLT, Nat.reduceLeDiff, Nat.reduceEqDiff, Nat.reduceMul, Nat.reducePow, Int.reduceLT, Int.reduceLE, Int.reduceAdd, Int.reduceMul, Int.reduceSub, Int.reduceNeg, Int.reduceEq, Int.reducePow, Int.reduceMod, Int.reduceDiv, Int.reduceToNat, decide_true, decide_false, and_true, true_and, and_self, Option.some.injEq, lenV, getOld hq, List.length_map]) (by omega)
    unfold forS
    rw [hw, toS_ok]
    obtain ⟨e', s', h1, h2⟩ := forL_inv (gd := []) (g := nameG 4) (b := b_unite_like_s1) (xs := intL 0 1 ts.length) (fun i e st => ∃ (L : List Nat) (kvs : List (NestedKey × PV)) (met : Bool) (o4 o5 : Option PV), e = [some (.ref q), some (.ref r), some (.ref s.length), some (.bl met), o4, o5] ∧ st = s.set r (.lst (lp L)) ++ [.dN kvs] ∧ Pass ts E L0 i L kvs met ∧ L.sum ≤ L0.sum)
      (e := [some (.ref q), some (.ref r), some (.ref s.length), some (.bl false), none, none]) (st := s ++ [.dN []]) ⟨L0, [], false, none, none, rfl, by rw [Bk.set_same hr], Pass.start w, Nat.le_refl _⟩
      (fun i x e st hx ⟨L, kvs, met, o4, o5, h1, h2, p, hsum⟩ => by
        rw [intL_get] at hx
        split at hx
        · rename_i hi
          cases hx
          subst h1 h2
          refine ⟨gd_nil _, _, rfl, ?_⟩
          rw [Int.mul_one, Int.zero_add]
          obtain ⟨t, ht⟩ : ∃ t, ts[i]? = some t := ⟨_, List.getElem?_eq_getElem hi⟩
          have gt := hg t (List.mem_of_getElem? ht)
          have il : i < L.length := by rw [p.way.len]; exact hi
          have len1 : (s.set r (.lst (lp L))).length = s.length := List.length_set ..
          have hq1 : (s.set r (.lst (lp L)) ++ [PO.dN kvs])[q]? = some (.lst (ts.map Tm.Tm.pv)) := getOld (by rw [List.getElem?_set_ne (fun z => hqr z.symm)]; exact hq)
          have hr1 : (s.set r (.lst (lp L)) ++ [PO.dN kvs])[r]? = some (.lst (lp L)) := getOld (List.getElem?_set_self rl)
          have hd1 : (s.set r (.lst (lp L)) ++ [PO.dN kvs])[s.length]? = some (.dN kvs) := by rw [← len1]; exact getS0
          have hat : atI (ts.map Tm.Tm.pv) (i : Int) = some t.pv := atI_nat' (by omega) (by rw [Int.toNat_natCast, List.getElem?_map, ht]; rfl)
          have hm := F_mark (s := s.set r (.lst (lp L)) ++ [PO.dN kvs]) hr1 (by rw [p.way.len]; exact gt)
          have hk := keyT_T (markT L t)
          have lk : kvs.length < sizeLine := by rw [sizeLine_eq]; have := p.many; omega
          have ai := at_ld il
          cases hv : valP kvs (tk (markT L t)) with
          | none =>
            refine ⟨[some (.ref q), some (.ref r), some (.ref s.length), some (.bl met), some (.int (i : Int)), some (markT L t).pv], _, ?_, L, putD kvs (tk (markT L t)) (.int (i : Int)), met, _, _, rfl, rfl, p.put ht hv, hsum⟩
            simp only [b_unite_like_s1, seqS, ifS, setS, augS, dropS, retS, retN, nxS, bkS, ctS, asgS, subS, R.toS, R.bind, R.of, opF, unF, varF, cstF, chF, isB, asB, andT, orT, notT, andF, orF, notF, ifF, nilA, consA, tupF, lstF, cbF, callF, bmF', truT, truV, nameG, nilG, consG, tupG, List.set_cons_zero, List.set_cons_succ, List.getElem?_cons_zero, List.getElem?_cons_succ, Option.bind_some, Option.bind_none, Option.map_some, Option.map_none, List.length_cons, List.length_nil, List.cons_append, List.nil_append, List.append_nil, if_true, if_false, ite_true, ite_false, Bool.false_eq_true, reduceIte, reduceCtorEq, List.map_cons, List.map_nil, Nat.sub_self, List.replicate_succ, List.replicate_zero, Nat.reduceSub, Nat.reduceAdd, Nat.reduceLT, Nat.reduceLeDiff, Nat.reduceEqDiff, Nat.reduceMul, Nat.reducePow, Int.reduceLT, Int.reduceLE, Int.reduceAdd, Int.reduceMul, Int.reduceSub, Int.reduceNeg, Int.reduceEq, Int.reducePow, Int.reduceMod, Int.reduceDiv, Int.reduceToNat, decide_true, decide_false, and_true, true_and, and_self, Option.some.injEq, addV, iaddV, subV, mulV, fdivV, modV, powV, negV, cmpV, isNonV, notNonV, idxV, at0, at1, at2, at3, at4, at5, seqAt, lstAt, lenV, isiV, typV, kb1, kb2, kb3, kb4, kb5, kb6, kb7, kb8, kb9, kb10, kb11, eqV, neV, eqB, scEq, t1, t2, t3, t4, t5, t6, t7, t8, t9, t10, t11, t12, t13, t14, t15, t16, hq1, hat, hm, dninV, dinB, hd1, hk, hv, Option.isSome_none, Bool.not_false, dput, lk]
            rw [← len1, setS0_app]
            rfl
          | some v =>
            obtain ⟨j, u, L', e1, e2, e3, _⟩ := p.seen _ _ hv
            subst e1
            have jl : j < L.length := by rw [p.way.len]; exact (List.getElem?_eq_some_iff.mp e3).1
            have aj := at_ld jl
            by_cases he : ld L j = ld L i
            · refine ⟨[some (.ref q), some (.ref r), some (.ref s.length), some (.bl met), some (.int (i : Int)), some (markT L t).pv], s.set r (.lst (lp L)) ++ [.dN kvs], ?_, L, kvs, met, _, _, rfl, rfl, p.skip ht hv he, hsum⟩
              simp only [b_unite_like_s1, seqS, ifS, setS, augS, dropS, retS, retN, nxS, bkS, ctS, asgS, subS, R.toS, R.bind, R.of, opF, unF, varF, cstF, chF, isB, asB, andT, orT, notT, andF, orF, notF, ifF, nilA, consA, tupF, lstF, cbF, callF, bmF', truT, truV, nameG, nilG, consG, tupG, List.set_cons_zero, List.set_cons_succ, List.getElem?_cons_zero, List.getElem?_cons_succ, Option.bind_some, Option.bind_none, Option.map_some, Option.map_none, List.length_cons, List.length_nil, List.cons_append, List.nil_append, List.append_nil, if_true, if_false, ite_true, ite_false, Bool.false_eq_true, reduceIte, reduceCtorEq, List.map_cons, List.map_nil, Nat.sub_self, List.replicate_succ, List.replicate_zero, Nat.reduceSub, Nat.reduceAdd, Nat.reduceLT, Nat.reduceLeDiff, Nat.reduceEqDiff, Nat.reduceMul, Nat.reducePow, Int.reduceLT, Int.reduceLE, Int.reduceAdd, Int.reduceMul, Int.reduceSub, Int.reduceNeg, Int.reduceEq, Int.reducePow, Int.reduceMod, Int.reduceDiv, Int.reduceToNat, decide_true, decide_false, and_true, true_and, and_self, Option.some.injEq, addV, iaddV, subV, mulV, fdivV, modV, powV, negV, cmpV, isNonV, notNonV, idxV, at0, at1, at2, at3, at4, at5, seqAt, lstAt, lenV, isiV, typV, kb1, kb2, kb3, kb4, kb5, kb6, kb7, kb8, kb9, kb10, kb11, eqV, neV, eqB, scEq, t1, t2, t3, t4, t5, t6, t7, t8, t9, t10, t11, t12, t13, t14, t15, t16, hq1, hat, hm, dninV, dinB, hd1, hk, hv, Option.isSome_some, Bool.not_true, dgetV, dlook, hr1, aj, ai, he, Bool.not_false]
            · obtain ⟨_, p'⟩ := p.join hg ht hv he hsum
              have hei : ¬ ((ld L j : Nat) : Int) = (ld L i : Nat) := by omega
              have hu := F_unite (s := s.set r (.lst (lp L)) ++ [PO.dN kvs]) hr1 jl il (by rw [p.way.len]; exact hl)
              rw [List.set_append_left _ _ (by rw [len1]; exact rl), List.set_set] at hu
              refine ⟨[some (.ref q), some (.ref r), some (.ref s.length), some (.bl true), some (.int (i : Int)), some (markT L t).pv], s.set r (.lst (lp (uniteL L j i))) ++ [.dN kvs], ?_, _, kvs, true, _, _, rfl, rfl, p', by have := unite_sum_le (L := L) (a := j) (b := i); omega⟩
              simp only [b_unite_like_s1, seqS, ifS, setS, augS, dropS, retS, retN, nxS, bkS, ctS, asgS, subS, R.toS, R.bind, R.of, opF, unF, varF, cstF, chF, isB, asB, andT, orT, notT, andF, orF, notF, ifF, nilA, consA, tupF, lstF, cbF, callF, bmF', truT, truV, nameG, nilG, consG, tupG, List.set_cons_zero, List.set_cons_succ, List.getElem?_cons_zero, List.getElem?_cons_succ, Option.bind_some, Option.bind_none, Option.map_some, Option.map_none, List.length_cons, List.length_nil, List.cons_append, List.nil_append, List.append_nil, if_true, if_false, ite_true, ite_false, Bool.false_eq_true, reduceIte, reduceCtorEq, List.map_cons, List.map_nil, Nat.sub_self, List.replicate_succ, List.replicate_zero, Nat.reduceSub, Nat.reduceAdd, Nat.reduceLT, Nat.reduceLeDiff, Nat.reduceEqDiff, Nat.reduceMul, Nat.reducePow, Int.reduceLT, Int.reduceLE, Int.reduceAdd, Int.reduceMul, Int.reduceSub, Int.reduceNeg, Int.reduceEq, Int.reducePow, Int.reduceMod, Int.reduceDiv, Int.reduceToNat, decide_true, decide_false, and_true, true_and, and_self, Option.some.injEq, addV, iaddV, subV, mulV, fdivV, modV, powV, negV, cmpV, isNonV, notNonV, idxV, at0, at1, at2, at3, at4, at5, seqAt, lstAt, lenV, isiV, typV, kb1, kb2, kb3, kb4, kb5, kb6, kb7, kb8, kb9, kb10, kb11, eqV, neV, eqB, scEq, t1, t2, t3, t4, t5, t6, t7, t8, t9, t10, t11, t12, t13, t14, t15, t16, hq1, hat, hm, dninV, dinB, hd1, hk, hv, Option.isSome_some, Bool.not_true, dgetV, dlook, hr1, aj, ai, hei, Bool.not_false, hu]
        · cases hx)
      (fun e st _ => gd_nil _)
    rw [intL_len] at h2
    exact ⟨e', s', h1, h2⟩
  obtain ⟨e', s', h1, L, kvs, met, o4, o5, h2, h3, p, _⟩ := loop
  refine ⟨L, kvs, met, ?_, p⟩
  subst h2 h3
  have h : b_unite_like [some (.ref q), some (.ref r), none, none, none, none] s = .rt (.bl met) (s.set r (.lst (lp L)) ++ [.dN kvs]) := by
    simp only [b_unite_like, newDN, seqS, ifS, setS, augS, dropS, retS, retN, nxS, bkS, ctS, asgS, subS, R.toS, R.bind, R.of, opF, unF, varF, cstF, chF, isB, asB, andT, orT, notT, andF, orF, notF, ifF, nilA, consA, tupF, lstF, cbF, callF, bmF', truT, truV, nameG, nilG, consG, tupG, List.set_cons_zero, List.set_cons_succ, List.getElem?_cons_zero, List.getElem?_cons_succ, Option.bind_some, Option.bind_none, Option.map_some, Option.map_none, List.length_cons, List.length_nil, List.cons_append, List.nil_append, List.append_nil, if_true, if_false, ite_true, ite_false, Bool.false_eq_true, reduceIte, reduceCtorEq, List.map_cons, List.map_nil, Nat.sub_self, List.replicate_succ, List.replicate_zero, Nat.reduceSub, Nat.reduceAdd, Nat.reduceLT, Nat.reduceLeDiff, Nat.reduceEqDiff, Nat.reduceMul, Nat.reducePow, Int.reduceLT, Int.reduceLE, Int.reduceAdd, Int.reduceMul, Int.reduceSub, Int.reduceNeg, Int.reduceEq, Int.reducePow, Int.reduceMod, Int.reduceDiv, Int.reduceToNat, decide_true, decide_false, and_true, true_and, and_self, Option.some.injEq]
    rw [h1]
    simp only [seqS, ifS, setS, augS, dropS, retS, retN, nxS, bkS, ctS, asgS, subS, R.toS, R.bind, R.of, opF, unF, varF, cstF, chF, isB, asB, andT, orT, notT, andF, orF, notF, ifF, nilA, consA, tupF, lstF, cbF, callF, bmF', truT, truV, nameG, nilG, consG, tupG, List.set_cons_zero, List.set_cons_succ, List.getElem?_cons_zero, List.getElem?_cons_succ, Option.bind_some, Option.bind_none, Option.map_some, Option.map_none, List.length_cons, List.length_nil, List.cons_append, List.nil_append, List.append_nil, if_true, if_false, ite_true, ite_false, Bool.false_eq_true, reduceIte, reduceCtorEq, List.map_cons, List.map_nil, Nat.sub_self, List.replicate_succ, List.replicate_zero, Nat.reduceSub, Nat.reduceAdd, Nat.reduceLT, Nat.reduceLeDiff, Nat.reduceEqDiff, Nat.reduceMul, Nat.reducePow, Int.reduceLT, Int.reduceLE, Int.reduceAdd, Int.reduceMul, Int.reduceSub, Int.reduceNeg, Int.reduceEq, Int.reducePow, Int.reduceMod, Int.reduceDiv, Int.reduceToNat, decide_true, decide_false, and_true, true_and, and_self, Option.some.injEq]
  unfold FL.F_unite_like
  exact Bk.run_set h rfl rl (by simp only [objOk]; exact pures_refs _ (lp_pure _))
/-! ### closed -/
def EdgeP (x : PV) (p : Nat × Nat) : Prop := ∃ rest, x = .tup (.int (p.1 : Int) :: .int (p.2 : Int) :: rest)
def sumP (xs : List PV) : Nat := (xs.map fun x => match x with | .int i => i.toNat | _ => 0).sum
theorem sumP_lp (L : List Nat) : sumP (lp L) = L.sum := by
  unfold sumP lp
  rw [List.map_map]
  congr 1
  conv => rhs; rw [← List.map_id L]
  exact List.map_congr_left fun x _ => by simp
theorem range_way (ts : List T) (E : List (Nat × Nat)) : Way ts E (List.range ts.length) := by
  have e : ∀ k, k < ts.length → ld (List.range ts.length) k = k := fun k h => by simp [ld, List.getD_eq_getElem?_getD, List.getElem?_range h]
  refine ⟨List.length_range, fun k h => ?_, fun k h => ?_, fun R hR i j hi hj h => ?_⟩
  · rw [List.length_range] at h; rw [e k h]; exact Nat.le_refl _
  · rw [List.length_range] at h; rw [e k h, e k h]
  · rw [List.length_range] at hi hj
    rw [e i hi, e j hj] at h
    rw [h]
    exact hR.refl _
theorem Way.sum_le {ts : List T} {E : List (Nat × Nat)} {L : List Nat} (w : Way ts E L) : L.sum ≤ ts.length * ts.length := by
  have key : ∀ (l : List Nat) (n : Nat), (∀ x ∈ l, x ≤ n) → l.sum ≤ l.length * n := fun l n => by
    induction l with
    | nil => intro _; simp
    | cons a r ih =>
      intro h
      have := ih fun x hx => h x (List.mem_cons_of_mem _ hx)
      have := h a List.mem_cons_self
      rw [List.sum_cons, List.length_cons, Nat.succ_mul]
      omega
  have := key L ts.length fun x hx => by
    obtain ⟨k, hk, e⟩ := List.getElem_of_mem hx
    have h1 := w.le k hk
    have : ld L k = x := by simp [ld, List.getD_eq_getElem?_getD, List.getElem?_eq_getElem hk, e]
    have := w.len
    omega
  rw [w.len] at this
  exact this
theorem paired_at {α β : Type} {F : α → β → Prop} : ∀ {l : List α} {m : List β} {i : Nat} {a : α}, Paired F l m → l[i]? = some a → ∃ b, m[i]? = some b ∧ F a b
  | _, _, _, _, .nil, h => by simp at h
  | _, _, 0, _, .cons r _, h => by simp at h; subst h; exact ⟨_, rfl, r⟩
  | _, _, i + 1, a, .cons _ t, h => by
    obtain ⟨b, h1, h2⟩ := paired_at (i := i) (a := a) t (by simpa using h)
    exact ⟨b, by simpa using h1, h2⟩
theorem F_closed {q p : Nat} {ts : List T} {E : List (Nat × Nat)} {es : List PV} {s : Store} (hq : s[q]? = some (.lst (ts.map Tm.Tm.pv))) (hp : s[p]? = some (.lst es)) (hE : Paired EdgeP es E) (hb : ∀ e ∈ E, e.1 < ts.length ∧ e.2 < ts.length) (hg : ∀ u ∈ ts, u.Good ts.length) (hl : ts.length ≤ 900) :
    ∃ L, FL.F_closed [.ref q, .ref p] s = .ok (.ref s.length) (s ++ [.lst (lp L)]) ∧ Leads ts E L := by
  have ql := (List.getElem?_eq_some_iff.mp hq).1
  have pl := (List.getElem?_eq_some_iff.mp hp).1
  -- the edges
  have loop : ∃ L o, forS (seqI (varF 1)) (nameG 3) b_closed_s3 [some (.ref q), some (.ref p), some (.ref s.length), none] (s ++ [.lst (intL 0 1 ts.length)]) = .nx [some (.ref q), some (.ref p), some (.ref s.length), o] (s ++ [.lst (lp L)]) ∧
      Way ts E L ∧ ∀ e ∈ E, ld L e.1 = ld L e.2 := by
    unfold forS
    have hw : seqI (varF 1) [some (.ref q), some (.ref p), some (.ref s.length), none] (s ++ [.lst (intL 0 1 ts.length)]) = .ok ⟨es, [(p, .lst es)]⟩ (s ++ [.lst (intL 0 1 ts.length)]) := by
      simp only [seqI, varF, seqS, ifS, setS, augS, dropS, retS, retN, nxS, bkS, ctS, asgS, subS, R.toS, R.bind, R.of, opF, unF, varF, cstF, chF, isB, asB, andT, orT, notT, andF, orF, notF, ifF, nilA, consA, tupF, lstF, cbF, callF, bmF', truT, truV, nameG, nilG, consG, tupG, List.set_cons_zero, List.set_cons_succ, List.getElem?_cons_zero, List.getElem?_cons_succ, Option.bind_some, Option.bind_none, Option.map_some, Option.map_none, List.length_cons, List.length_nil, List.cons_append, List.nil_append, List.append_nil, if_true, if_false, ite_true, ite_false, Bool.false_eq_true, reduceIte, reduceCtorEq, List.map_cons, List.map_nil, Nat.sub_self, List.replicate_succ, List.replicate_zero, Nat.reduceSub, Nat.reduceAdd, Nat.reduceLT, Nat.reduceLeDiff, Nat.reduceEqDiff, Nat.reduceMul, Nat.reducePow, Int.reduceLT, Int.reduceLE, Int.reduceAdd, Int.reduceMul, Int.reduceSub, Int.reduceNeg, Int.reduceEq, Int.reducePow, Int.reduceMod, Int.reduceDiv, Int.reduceToNat, decide_true, decide_false, and_true, true_and, and_self, Option.some.injEq, seqAt, lstAt, getOld hp, gdOf]
    rw [hw, toS_ok]
    obtain ⟨e', s', h1, h2⟩ := forL_inv (gd := [(p, .lst es)]) (g := nameG 3) (b := b_closed_s3) (xs := es) (fun i e st => ∃ L o, e = [some (.ref q), some (.ref p), some (.ref s.length), o] ∧ st = s ++ [.lst (lp L)] ∧ Way ts E L ∧ ∀ j x, j < i → E[j]? = some x → ld L x.1 = ld L x.2)
      (e := [some (.ref q), some (.ref p), some (.ref s.length), none]) (st := s ++ [.lst (intL 0 1 ts.length)]) ⟨List.range ts.length, none, rfl, by
        have : intL 0 1 ts.length = lp (List.range ts.length) := List.map_congr_left fun i _ => by simp
        rw [this], range_way ts E, fun j x h => absurd h (Nat.not_lt_zero _)⟩
      (fun i x e st hx ⟨L, o, h1, h2, w, hj⟩ => by
        subst h1 h2
        obtain ⟨b, hb1, rest, hb2⟩ := paired_at hE hx
        refine ⟨gd_one (getOld hp), _, rfl, ?_⟩
        subst hb2
        obtain ⟨b1, b2⟩ := hb b (List.mem_of_getElem? hb1)
        have l1 : b.1 < L.length := by rw [w.len]; exact b1
        have l2 : b.2 < L.length := by rw [w.len]; exact b2
        have hu := F_unite (s := s ++ [.lst (lp L)]) (r := s.length) getS0 l1 l2 (by rw [w.len]; omega)
        rw [setS0_app] at hu
        refine ⟨[some (.ref q), some (.ref p), some (.ref s.length), some (.tup (.int (b.1 : Int) :: .int (b.2 : Int) :: rest))], s ++ [.lst (lp (uniteL L b.1 b.2))], ?_, _, _, rfl, rfl, unite_way w l1 l2 fun R hR => hR.edge b (List.mem_of_getElem? hb1), fun j x hji hx2 => ?_⟩
        · simp only [b_closed_s3, seqS, ifS, setS, augS, dropS, retS, retN, nxS, bkS, ctS, asgS, subS, R.toS, R.bind, R.of, opF, unF, varF, cstF, chF, isB, asB, andT, orT, notT, andF, orF, notF, ifF, nilA, consA, tupF, lstF, cbF, callF, bmF', truT, truV, nameG, nilG, consG, tupG, List.set_cons_zero, List.set_cons_succ, List.getElem?_cons_zero, List.getElem?_cons_succ, Option.bind_some, Option.bind_none, Option.map_some, Option.map_none, List.length_cons, List.length_nil, List.cons_append, List.nil_append, List.append_nil, if_true, if_false, ite_true, ite_false, Bool.false_eq_true, reduceIte, reduceCtorEq, List.map_cons, List.map_nil, Nat.sub_self, List.replicate_succ, List.replicate_zero, Nat.reduceSub, Nat.reduceAdd, Nat.reduceLT, Nat.reduceLeDiff, Nat.reduceEqDiff, Nat.reduceMul, Nat.reducePow, Int.reduceLT, Int.reduceLE, Int.reduceAdd, Int.reduceMul, Int.reduceSub, Int.reduceNeg, Int.reduceEq, Int.reducePow, Int.reduceMod, Int.reduceDiv, Int.reduceToNat, decide_true, decide_false, and_true, true_and, and_self, Option.some.injEq, idxV, at0, at1, at2, at3, at4, at5, seqAt, lstAt, lenV, isiV, typV, kb1, kb2, kb3, kb4, kb5, kb6, kb7, kb8, kb9, kb10, kb11, hu]
        · have bx := hb x (List.mem_of_getElem? hx2)
          by_cases e : j = i
          · subst e
            rw [hb1] at hx2
            cases hx2
            exact unite_joins l1 l2
          · exact unite_keeps (by rw [w.len]; exact bx.1) (by rw [w.len]; exact bx.2) (hj j x (by omega) hx2))
      (fun e st ⟨L, o, _, h2, _⟩ => by subst h2; exact gd_one (getOld hp))
    obtain ⟨L, o, h3, h4, w, hj⟩ := h2
    subst h3 h4
    refine ⟨L, o, h1, w, fun e he => ?_⟩
    obtain ⟨j, hj1, rfl⟩ := List.getElem_of_mem he
    exact hj j _ (by rw [Paired.length hE]; exact hj1) (List.getElem?_eq_getElem hj1)
  obtain ⟨L0, o, h1, w0, he0⟩ := loop
  -- the likes
  have likes : ∃ L, whS b_closed_t1 b_closed_s2 [some (.ref q), some (.ref p), some (.ref s.length), o] (s ++ [.lst (lp L0)]) = .nx [some (.ref q), some (.ref p), some (.ref s.length), o] (s ++ [.lst (lp L)]) ∧ Leads ts E L := by
    refine whS_wp (fun r => ∃ L, r = .nx [some (.ref q), some (.ref p), some (.ref s.length), o] (s ++ [.lst (lp L)]) ∧ Leads ts E L)
      (fun e st => ∃ L, e = [some (.ref q), some (.ref p), some (.ref s.length), o] ∧ st = s ++ [.lst (lp L)] ∧ Way ts E L ∧ ∀ e ∈ E, ld L e.1 = ld L e.2)
      (fun e st => match st[s.length]? with | some (.lst xs) => sumP xs | _ => 0) ⟨L0, rfl, rfl, w0, he0⟩ ?_ ?_
    · show (match (s ++ [PO.lst (lp L0)])[s.length]? with | some (.lst xs) => sumP xs | _ => 0) < 1000000
      rw [getS0]
      show sumP (lp L0) < 1000000
      rw [sumP_lp]
      have := w0.sum_le
      have : ts.length * ts.length ≤ 900 * 900 := Nat.mul_le_mul hl hl
      omega
    · intro e st ⟨L, h2, h3, w, he⟩
      subst h2 h3
      obtain ⟨L', kvs, met, hu, pa⟩ := F_unite_like (s := s ++ [.lst (lp L)]) (q := q) (r := s.length) (getOld hq) getS0 (by omega) hg (by omega) w
      rw [setS0_app] at hu
      have ed : ∀ e ∈ E, ld L' e.1 = ld L' e.2 := fun e hm => pa.old _ _ (by rw [pa.way.len]; exact (hb e hm).1) (by rw [pa.way.len]; exact (hb e hm).2) (he e hm)
      refine ⟨met, s ++ [.lst (lp L')], ?_, ?_⟩
      · simp only [b_closed_t1, seqS, ifS, setS, augS, dropS, retS, retN, nxS, bkS, ctS, asgS, subS, R.toS, R.bind, R.of, opF, unF, varF, cstF, chF, isB, asB, andT, orT, notT, andF, orF, notF, ifF, nilA, consA, tupF, lstF, cbF, callF, bmF', truT, truV, nameG, nilG, consG, tupG, List.set_cons_zero, List.set_cons_succ, List.getElem?_cons_zero, List.getElem?_cons_succ, Option.bind_some, Option.bind_none, Option.map_some, Option.map_none, List.length_cons, List.length_nil, List.cons_append, List.nil_append, List.append_nil, if_true, if_false, ite_true, ite_false, Bool.false_eq_true, reduceIte, reduceCtorEq, List.map_cons, List.map_nil, Nat.sub_self, List.replicate_succ, List.replicate_zero, Nat.reduceSub, Nat.reduceAdd, Nat.reduceLT, Nat.reduceLeDiff, Nat.reduceEqDiff, Nat.reduceMul, Nat.reducePow, Int.reduceLT, Int.reduceLE, Int.reduceAdd, Int.reduceMul, Int.reduceSub, Int.reduceNeg, Int.reduceEq, Int.reducePow, Int.reduceMod, Int.reduceDiv, Int.reduceToNat, decide_true, decide_false, and_true, true_and, and_self, Option.some.injEq, hu]
      · cases met with
        | true =>
          rw [if_pos rfl]
          show (∃ L, _ ∧ _ ∧ _) ∧ _
          refine ⟨⟨L', rfl, rfl, pa.way, ed⟩, ?_⟩
          show (match (s ++ [PO.lst (lp L')])[s.length]? with | some (.lst xs) => sumP xs | _ => 0) < (match (s ++ [PO.lst (lp L)])[s.length]? with | some (.lst xs) => sumP xs | _ => 0)
          rw [getS0, getS0]
          show sumP (lp L') < sumP (lp L)
          rw [sumP_lp, sumP_lp]
          exact pa.less rfl
        | false =>
          rw [if_neg Bool.false_ne_true]
          obtain ⟨eL, hc⟩ := pa.calm rfl
          refine ⟨L', rfl, { pa.way with edge := ed, like := fun i j t u ht hu2 hlk => ?_ }⟩
          have em := like_mark hlk
          obtain ⟨i', a1, a2⟩ := hc i t (List.getElem?_eq_some_iff.mp ht).1 ht
          obtain ⟨j', b1, b2⟩ := hc j u (List.getElem?_eq_some_iff.mp hu2).1 hu2
          rw [← eL] at a1 b1 a2 b2
          rw [em, b1] at a1
          have : i' = j' := by injection a1 with a1; injection a1 with a1; omega
          subst this
          omega
  obtain ⟨L, h2, lds⟩ := likes
  refine ⟨L, ?_, lds⟩
  have hn : 0 ≤ ((ts.length : Nat) : Int) ∧ ((ts.length : Nat) : Int) ≤ 16777216 := by omega
  have h : b_closed [some (.ref q), some (.ref p), none, none] s = .rt (.ref s.length) (s ++ [.lst (lp L)]) := by
    simp only [b_closed, seqS, ifS, setS, augS, dropS, retS, retN, nxS, bkS, ctS, asgS, subS, R.toS, R.bind, R.of, opF, unF, varF, cstF, chF, isB, asB, andT, orT, notT, andF, orF, notF, ifF, nilA, consA, tupF, lstF, cbF, callF, bmF', truT, truV, nameG, nilG, consG, tupG, List.set_cons_zero, List.set_cons_succ, List.getElem?_cons_zero, List.getElem?_cons_succ, Option.bind_some, Option.bind_none, Option.map_some, Option.map_none, List.length_cons, List.length_nil, List.cons_append, List.nil_append, List.append_nil, if_true, if_false, ite_true, ite_false, Bool.false_eq_true, reduceIte, reduceCtorEq, List.map_cons, List.map_nil, Nat.sub_self, List.replicate_succ, List.replicate_zero, Nat.reduceSub, Nat.reduceAdd, Nat.reduceLT, Nat.reduceLeDiff, Nat.reduceEqDiff, Nat.reduceMul, Nat.reducePow, Int.reduceLT, Int.reduceLE, Int.reduceAdd, Int.reduceMul, Int.reduceSub, Int.reduceNeg, Int.reduceEq, Int.reducePow, Int.reduceMod, Int.reduceDiv, Int.reduceToNat, decide_true, decide_false, and_true, true_and, and_self, Option.some.injEq, lenV, lrgF, hq, List.length_map, hn, Int.toNat_natCast]
    rw [h1]
    simp only [seqS, ifS, setS, augS, dropS, retS, retN, nxS, bkS, ctS, asgS, subS, R.toS, R.bind, R.of, opF, unF, varF, cstF, chF, isB, asB, andT, orT, notT, andF, orF, notF, ifF, nilA, consA, tupF, lstF, cbF, callF, bmF', truT, truV, nameG, nilG, consG, tupG, List.set_cons_zero, List.set_cons_succ, List.getElem?_cons_zero, List.getElem?_cons_succ, Option.bind_some, Option.bind_none, Option.map_some, Option.map_none, List.length_cons, List.length_nil, List.cons_append, List.nil_append, List.append_nil, if_true, if_false, ite_true, ite_false, Bool.false_eq_true, reduceIte, reduceCtorEq, List.map_cons, List.map_nil, Nat.sub_self, List.replicate_succ, List.replicate_zero, Nat.reduceSub, Nat.reduceAdd, Nat.reduceLT, Nat.reduceLeDiff, Nat.reduceEqDiff, Nat.reduceMul, Nat.reducePow, Int.reduceLT, Int.reduceLE, Int.reduceAdd, Int.reduceMul, Int.reduceSub, Int.reduceNeg, Int.reduceEq, Int.reducePow, Int.reduceMod, Int.reduceDiv, Int.reduceToNat, decide_true, decide_false, and_true, true_and, and_self, Option.some.injEq]
    rw [h2]
    simp only [seqS, ifS, setS, augS, dropS, retS, retN, nxS, bkS, ctS, asgS, subS, R.toS, R.bind, R.of, opF, unF, varF, cstF, chF, isB, asB, andT, orT, notT, andF, orF, notF, ifF, nilA, consA, tupF, lstF, cbF, callF, bmF', truT, truV, nameG, nilG, consG, tupG, List.set_cons_zero, List.set_cons_succ, List.getElem?_cons_zero, List.getElem?_cons_succ, Option.bind_some, Option.bind_none, Option.map_some, Option.map_none, List.length_cons, List.length_nil, List.cons_append, List.nil_append, List.append_nil, if_true, if_false, ite_true, ite_false, Bool.false_eq_true, reduceIte, reduceCtorEq, List.map_cons, List.map_nil, Nat.sub_self, List.replicate_succ, List.replicate_zero, Nat.reduceSub, Nat.reduceAdd, Nat.reduceLT, Nat.reduceLeDiff, Nat.reduceEqDiff, Nat.reduceMul, Nat.reducePow, Int.reduceLT, Int.reduceLE, Int.reduceAdd, Int.reduceMul, Int.reduceSub, Int.reduceNeg, Int.reduceEq, Int.reducePow, Int.reduceMod, Int.reduceDiv, Int.reduceToNat, decide_true, decide_false, and_true, true_and, and_self, Option.some.injEq]
  unfold FL.F_closed
  exact run_new (g := [.lst (lp L)]) h getS0 (Nat.le_refl _) (by simp only [objOk]; exact pures_refs _ (lp_pure _))
end Cl
end
end FL
end
section
set_option linter.all false
set_option maxRecDepth 100000
namespace FL
open PySem PySem.Spec PyProof.Rows L2
noncomputable section
namespace Ck
open Classical Cl Dt
/-! ## what laws ask of leads -/
theorem dk_T {n : Nat} {t : T} (h : t.Good n) : dk 3 t.pv = true := by
  obtain ⟨t1, t2, t3⟩ := Tm.tag_ok
  cases t with
  | num i => simp [Tm.Tm.pv, dk, dks, t1]
  | name x => simp [Tm.Tm.pv, dk, dks, t2, show PyData.strOk x = true from h]
  | of w as =>
    have : dks 1 (as.map PV.int) = true := dks_map fun a _ => rfl
    simp [Tm.Tm.pv, dk, dks, t3, show PyData.strOk w = true from h.1, this]
theorem dks_T {ts : List T} {n : Nat} (h : ∀ t ∈ ts, t.Good n) : dks 3 (ts.map Tm.Tm.pv) = true := dks_map fun t ht => dk_T (h t ht)
theorem told_ok : PyData.strOk "told" = true := by decide +kernel
theorem dk_E (e : Ct.Ed) : dk 3 e.pv = true := by simp [Ct.Ed.pv, dk, dks, told_ok]
theorem dks_E (es : List Ct.Ed) : dks 3 (es.map Ct.Ed.pv) = true := dks_map fun e _ => dk_E e
theorem dks_lp (L : List Nat) : dks 1 (lp L) = true := dks_map fun e _ => rfl
theorem pv_inj {t u : T} (h : t.pv = u.pv) : t = u := by
  cases t <;> cases u <;> simp only [Tm.Tm.pv, PV.tup.injEq, List.cons.injEq, PV.str.injEq, PV.int.injEq, and_true, true_and, reduceCtorEq, and_false] at h
  · rw [h]
  · rw [h]
  · obtain ⟨h1, h2⟩ := h
    have : ∀ {a b : List Int}, a.map PV.int = b.map PV.int → a = b := fun {a} => by
      induction a with
      | nil => intro b h; cases b with | nil => rfl | cons _ _ => cases h
      | cons x r ih =>
        intro b h
        cases b with
        | nil => cases h
        | cons y q =>
          rw [List.map_cons, List.map_cons, List.cons.injEq, PV.int.injEq] at h
          rw [h.1, ih h.2]
    rw [h1, this h2]
abbrev eL (es : List Ct.Ed) : List (Nat × Nat) := es.map fun e => (e.a, e.b)
theorem edges_rel (es : List Ct.Ed) : Paired EdgeP (es.map Ct.Ed.pv) (eL es) := by
  induction es with
  | nil => exact .nil
  | cons e r ih => exact .cons ⟨_, rfl⟩ ih
/-- leads as closed tells them, of drawn terms and edges -/
theorem F_closed' {q p : Nat} {ts : List T} {es : List Ct.Ed} {s : Store} (hq : s[q]? = some (.lst (ts.map Tm.Tm.pv))) (hp : s[p]? = some (.lst (es.map Ct.Ed.pv))) (ht : Ct.Row ts) (he : ∀ e ∈ es, e.a < ts.length ∧ e.b < ts.length) (hl : ts.length ≤ 900) :
    ∃ L, FL.F_closed [.ref q, .ref p] s = .ok (.ref s.length) (s ++ [.lst (lp L)]) ∧ Leads ts (eL es) L :=
  Cl.F_closed hq hp (edges_rel es) (fun e hm => by
    obtain ⟨d, hd, rfl⟩ := List.mem_map.mp hm
    exact he d hd) (fun u hu => ht.good hu) hl
theorem at_T {ts : List T} {i : Nat} {t : T} (h : ts[i]? = some t) : atI (ts.map Tm.Tm.pv) (i : Int) = some t.pv := atI_nat' (by omega) (by rw [Int.toNat_natCast, List.getElem?_map, h]; rfl)
theorem at_E {es : List Ct.Ed} {i : Nat} {t : Ct.Ed} (h : es[i]? = some t) : atI (es.map Ct.Ed.pv) (i : Int) = some t.pv := atI_nat' (by omega) (by rw [Int.toNat_natCast, List.getElem?_map, h]; rfl)
end Ck
end
end FL
end
section
set_option linter.all false
set_option maxRecDepth 100000
namespace FL
open PySem PySem.Spec PyProof.Rows L2
noncomputable section
namespace Pk14
open Sz
open Classical Dt
def tr (ts : List T) : Nat → Nat → PV
  | 0, _ => .non
  | n + 1, k => match ts[k]? with
    | some (.of w as) => .tup [.str "of", .str w, .tup (as.map fun a => tr ts n a.toNat)]
    | some t => t.pv
    | none => .non
theorem tr_pure (ts : List T) : ∀ n k, pureP (tr ts n k) = true := by
  intro n
  induction n with
  | zero => intro k; rfl
  | succ n ih =>
    intro k
    unfold tr
    split
    · rename_i w as _
      have : puresP (as.map fun a => tr ts n a.toNat) = true := pures_iff.mpr fun x hx => by
        obtain ⟨z, _, rfl⟩ := List.mem_map.mp hx
        exact ih _
      simp [pureP, puresP, this]
    · exact Tm.pv_pure _
    · rfl
theorem ga_at {ts : List T} {k : Nat} {t : T} (hr : Rw ts) (h : ts[k]? = some t) {n : Nat} (hd : (ga (szs ts) (k : Int)).2 ≤ n) : (∃ m, n = m + 1) ∧ ∀ w as, t = .of w as → ∀ a ∈ as, (ga (szs ts) a).2 ≤ (n : Int) - 1 := by
  have kl : k < ts.length := (List.getElem?_eq_some_iff.mp h).1
  have e : (szs ts)[k]? = some (ga (szs ts) (k : Int)) := by
    unfold ga
    rw [List.getD_eq_getElem?_getD, Int.toNat_natCast, List.getElem?_eq_getElem (by rw [szs_len]; omega)]; rfl
  have p := (sz_pos hr k _ e).2
  refine ⟨⟨n - 1, by omega⟩, fun w as ht a ha => ?_⟩
  subst ht
  have e2 := sz_of hr h
  rw [e] at e2
  injection e2 with e3
  rw [e3] at hd
  have hd : 1 + maxL (as.map fun a => (ga (szs ts) a).2) ≤ (n : Int) := hd
  have m1 := maxL_ge (List.mem_map.mpr ⟨a, ha, rfl⟩ : (ga (szs ts) a).2 ∈ as.map fun a => (ga (szs ts) a).2)
  omega
theorem ix_T {ts : List T} {q : Nat} {s : Store} (hq : s[q]? = some (.lst (ts.map Tm.Tm.pv))) {k : Nat} {t : T} (h : ts[k]? = some t) : idxV (.ref q) (.int (k : Int)) s = some (t.pv, s) := by
  have := Ck.at_T h
  simp only [idxV, seqAt, lstAt, hq, this, Option.map_some]
theorem F_tree_part {ts : List T} (hr : Rw ts) {q : Nat} : ∀ (n k : Nat) (s : Store), s[q]? = some (.lst (ts.map Tm.Tm.pv)) → k < ts.length → (ga (szs ts) (k : Int)).2 ≤ n → FL.F_tree_part n [.ref q, .int (k : Int)] s = .ok (tr ts n k) s := by
  intro n
  induction n with
  | zero =>
    intro k s hq hk hd
    obtain ⟨t, ht⟩ : ∃ t, ts[k]? = some t := ⟨_, List.getElem?_eq_getElem hk⟩
    obtain ⟨⟨m, hm⟩, _⟩ := ga_at hr ht hd
    omega
  | succ n ih =>
    intro k s hq hk hd
    obtain ⟨t, ht⟩ : ∃ t, ts[k]? = some t := ⟨_, List.getElem?_eq_getElem hk⟩
    obtain ⟨_, har⟩ := ga_at hr ht hd
    have hx := ix_T hq ht
    have g := hr.row k t ht
    unfold FL.F_tree_part
    cases t with
    | num i =>
      refine run_rt0 ?_ (tr_pure _ _ _)
      have e : tr ts (n + 1) k = (Tm.Tm.num i).pv := by unfold tr; rw [ht]
      rw [e]
      simp only [b_tree_part, seqS, ifS, setS, augS, dropS, retS, retN, nxS, bkS, ctS, asgS, subS, R.toS, R.bind, R.of, opF, unF, varF, cstF, chF, isB, asB, andT, orT, notT, andF, orF, notF, ifF, nilA, consA, tupF, lstF, cbF, callF, bmF', truT, truV, nameG, nilG, consG, tupG, List.set_cons_zero, List.set_cons_succ, List.getElem?_cons_zero, List.getElem?_cons_succ, Option.bind_some, Option.bind_none, Option.map_some, Option.map_none, List.length_cons, List.length_nil, List.cons_append, List.nil_append, List.append_nil, if_true, if_false, ite_true, ite_false, Bool.false_eq_true, reduceIte, reduceCtorEq, List.map_cons, List.map_nil, Nat.sub_self, List.replicate_succ, List.replicate_zero, Nat.reduceSub, Nat.reduceAdd, Nat.reduceLT, Nat.reduceLeDiff, Nat.reduceEqDiff, Nat.reduceMul, Nat.reducePow, Int.reduceLT, Int.reduceLE, Int.reduceAdd, Int.reduceMul, Int.reduceSub, Int.reduceNeg, Int.reduceEq, Int.reducePow, Int.reduceMod, Int.reduceDiv, Int.reduceToNat, decide_true, decide_false, and_true, true_and, and_self, Option.some.injEq, hx]
      simp only [Tm.Tm.pv, seqS, ifS, setS, augS, dropS, retS, retN, nxS, bkS, ctS, asgS, subS, R.toS, R.bind, R.of, opF, unF, varF, cstF, chF, isB, asB, andT, orT, notT, andF, orF, notF, ifF, nilA, consA, tupF, lstF, cbF, callF, bmF', truT, truV, nameG, nilG, consG, tupG, List.set_cons_zero, List.set_cons_succ, List.getElem?_cons_zero, List.getElem?_cons_succ, Option.bind_some, Option.bind_none, Option.map_some, Option.map_none, List.length_cons, List.length_nil, List.cons_append, List.nil_append, List.append_nil, if_true, if_false, ite_true, ite_false, Bool.false_eq_true, reduceIte, reduceCtorEq, List.map_cons, List.map_nil, Nat.sub_self, List.replicate_succ, List.replicate_zero, Nat.reduceSub, Nat.reduceAdd, Nat.reduceLT, Nat.reduceLeDiff, Nat.reduceEqDiff, Nat.reduceMul, Nat.reducePow, Int.reduceLT, Int.reduceLE, Int.reduceAdd, Int.reduceMul, Int.reduceSub, Int.reduceNeg, Int.reduceEq, Int.reducePow, Int.reduceMod, Int.reduceDiv, Int.reduceToNat, decide_true, decide_false, and_true, true_and, and_self, Option.some.injEq, idxV, at0, at1, at2, at3, at4, at5, seqAt, lstAt, lenV, isiV, typV, kb1, kb2, kb3, kb4, kb5, kb6, kb7, kb8, kb9, kb10, kb11, eqV, neV, eqB, scEq, t1, t2, t3, t4, t5, t6, t7, t8, t9, t10, t11, t12, t13, t14, t15, t16, Bool.not_false]
    | name i =>
      refine run_rt0 ?_ (tr_pure _ _ _)
      have e : tr ts (n + 1) k = (Tm.Tm.name i).pv := by unfold tr; rw [ht]
      rw [e]
      simp only [b_tree_part, seqS, ifS, setS, augS, dropS, retS, retN, nxS, bkS, ctS, asgS, subS, R.toS, R.bind, R.of, opF, unF, varF, cstF, chF, isB, asB, andT, orT, notT, andF, orF, notF, ifF, nilA, consA, tupF, lstF, cbF, callF, bmF', truT, truV, nameG, nilG, consG, tupG, List.set_cons_zero, List.set_cons_succ, List.getElem?_cons_zero, List.getElem?_cons_succ, Option.bind_some, Option.bind_none, Option.map_some, Option.map_none, List.length_cons, List.length_nil, List.cons_append, List.nil_append, List.append_nil, if_true, if_false, ite_true, ite_false, Bool.false_eq_true, reduceIte, reduceCtorEq, List.map_cons, List.map_nil, Nat.sub_self, List.replicate_succ, List.replicate_zero, Nat.reduceSub, Nat.reduceAdd, Nat.reduceLT, Nat.reduceLeDiff, Nat.reduceEqDiff, Nat.reduceMul, Nat.reducePow, Int.reduceLT, Int.reduceLE, Int.reduceAdd, Int.reduceMul, Int.reduceSub, Int.reduceNeg, Int.reduceEq, Int.reducePow, Int.reduceMod, Int.reduceDiv, Int.reduceToNat, decide_true, decide_false, and_true, true_and, and_self, Option.some.injEq, hx]
      simp only [Tm.Tm.pv, seqS, ifS, setS, augS, dropS, retS, retN, nxS, bkS, ctS, asgS, subS, R.toS, R.bind, R.of, opF, unF, varF, cstF, chF, isB, asB, andT, orT, notT, andF, orF, notF, ifF, nilA, consA, tupF, lstF, cbF, callF, bmF', truT, truV, nameG, nilG, consG, tupG, List.set_cons_zero, List.set_cons_succ, List.getElem?_cons_zero, List.getElem?_cons_succ, Option.bind_some, Option.bind_none, Option.map_some, Option.map_none, List.length_cons, List.length_nil, List.cons_append, List.nil_append, List.append_nil, if_true, if_false, ite_true, ite_false, Bool.false_eq_true, reduceIte, reduceCtorEq, List.map_cons, List.map_nil, Nat.sub_self, List.replicate_succ, List.replicate_zero, Nat.reduceSub, Nat.reduceAdd, Nat.reduceLT, Nat.reduceLeDiff, Nat.reduceEqDiff, Nat.reduceMul, Nat.reducePow, Int.reduceLT, Int.reduceLE, Int.reduceAdd, Int.reduceMul, Int.reduceSub, Int.reduceNeg, Int.reduceEq, Int.reducePow, Int.reduceMod, Int.reduceDiv, Int.reduceToNat, decide_true, decide_false, and_true, true_and, and_self, Option.some.injEq, idxV, at0, at1, at2, at3, at4, at5, seqAt, lstAt, lenV, isiV, typV, kb1, kb2, kb3, kb4, kb5, kb6, kb7, kb8, kb9, kb10, kb11, eqV, neV, eqB, scEq, t1, t2, t3, t4, t5, t6, t7, t8, t9, t10, t11, t12, t13, t14, t15, t16, Bool.not_false]
    | of w as =>
      have e : tr ts (n + 1) k = .tup [.str "of", .str w, .tup (as.map fun a => tr ts n a.toNat)] := by rw [tr, ht]
      let E : Env := [some (.ref q), some (.int (k : Int)), some (Tm.Tm.of w as).pv, none]
      have al : as.length ≤ 4 := g.2.1
      have lc : lcF (seqI (opF idxV (varF 2) (cstF (.int 2)))) [3] (nameG 3) yesT (b_tree_part_e1 (FL.F_tree_part n)) E s = .ok (.ref s.length) (s ++ [.lst (as.map fun a => tr ts n a.toNat)]) := by
        refine lcF_map (gd := []) as PV.int (fun a => tr ts n a.toNat) (by simp only [E, seqI, Tm.Tm.pv, seqS, ifS, setS, augS, dropS, retS, retN, nxS, bkS, ctS, asgS, subS, R.toS, R.bind, R.of, opF, unF, varF, cstF, chF, isB, asB, andT, orT, notT, andF, orF, notF, ifF, nilA, consA, tupF, lstF, cbF, callF, bmF', truT, truV, nameG, nilG, consG, tupG, List.set_cons_zero, List.set_cons_succ, List.getElem?_cons_zero, List.getElem?_cons_succ, Option.bind_some, Option.bind_none, Option.map_some, Option.map_none, List.length_cons, List.length_nil, List.cons_append, List.nil_append, List.append_nil, if_true, if_false, ite_true, ite_false, Bool.false_eq_true, reduceIte, reduceCtorEq, List.map_cons, List.map_nil, Nat.sub_self, List.replicate_succ, List.replicate_zero, Nat.reduceSub, Nat.reduceAdd, Nat.reduceLT, Nat.reduceLeDiff, Nat.reduceEqDiff, Nat.reduceMul, Nat.reducePow, Int.reduceLT, Int.reduceLE, Int.reduceAdd, Int.reduceMul, Int.reduceSub, Int.reduceNeg, Int.reduceEq, Int.reducePow, Int.reduceMod, Int.reduceDiv, Int.reduceToNat, decide_true, decide_false, and_true, true_and, and_self, Option.some.injEq, idxV, at0, at1, at2, at3, at4, at5, seqAt, lstAt, lenV, isiV, typV, kb1, kb2, kb3, kb4, kb5, kb6, kb7, kb8, kb9, kb10, kb11, gdOf]) (fun _ => gd_nil _) (by rw [sizeLine_eq]; omega) fun a ha => ⟨_, rfl, fun acc => ?_⟩
        have la := g.2.2 a ha
        have := ih a.toNat (s ++ [.lst acc]) (getOld hq) (by omega) (by have := har w as rfl a ha; rw [show ((a.toNat : Nat) : Int) = a by omega]; omega)
        rw [show ((a.toNat : Nat) : Int) = a by omega] at this
        simp only [E, b_tree_part_e1, wipeE, seqS, ifS, setS, augS, dropS, retS, retN, nxS, bkS, ctS, asgS, subS, R.toS, R.bind, R.of, opF, unF, varF, cstF, chF, isB, asB, andT, orT, notT, andF, orF, notF, ifF, nilA, consA, tupF, lstF, cbF, callF, bmF', truT, truV, nameG, nilG, consG, tupG, List.set_cons_zero, List.set_cons_succ, List.getElem?_cons_zero, List.getElem?_cons_succ, Option.bind_some, Option.bind_none, Option.map_some, Option.map_none, List.length_cons, List.length_nil, List.cons_append, List.nil_append, List.append_nil, if_true, if_false, ite_true, ite_false, Bool.false_eq_true, reduceIte, reduceCtorEq, List.map_cons, List.map_nil, Nat.sub_self, List.replicate_succ, List.replicate_zero, Nat.reduceSub, Nat.reduceAdd, Nat.reduceLT, Nat.reduceLeDiff, Nat.reduceEqDiff, Nat.reduceMul, Nat.reducePow, Int.reduceLT, Int.reduceLE, Int.reduceAdd, Int.reduceMul, Int.reduceSub, Int.reduceNeg, Int.reduceEq, Int.reducePow, Int.reduceMod, Int.reduceDiv, Int.reduceToNat, decide_true, decide_false, and_true, true_and, and_self, Option.some.injEq, this]
      refine run_rt (g := [.lst (as.map fun a => tr ts n a.toNat)]) ?_ (tr_pure _ _ _)
      rw [e]
      unfold b_tree_part
      refine (seqS_nx (e1 := E) (s1 := s) (by simp only [seqS, ifS, setS, augS, dropS, retS, retN, nxS, bkS, ctS, asgS, subS, R.toS, R.bind, R.of, opF, unF, varF, cstF, chF, isB, asB, andT, orT, notT, andF, orF, notF, ifF, nilA, consA, tupF, lstF, cbF, callF, bmF', truT, truV, nameG, nilG, consG, tupG, List.set_cons_zero, List.set_cons_succ, List.getElem?_cons_zero, List.getElem?_cons_succ, Option.bind_some, Option.bind_none, Option.map_some, Option.map_none, List.length_cons, List.length_nil, List.cons_append, List.nil_append, List.append_nil, if_true, if_false, ite_true, ite_false, Bool.false_eq_true, reduceIte, reduceCtorEq, List.map_cons, List.map_nil, Nat.sub_self, List.replicate_succ, List.replicate_zero, Nat.reduceSub, Nat.reduceAdd, Nat.reduceLT, Nat.reduceLeDiff, Nat.reduceEqDiff, Nat.reduceMul, Nat.reducePow, Int.reduceLT, Int.reduceLE, Int.reduceAdd, Int.reduceMul, Int.reduceSub, Int.reduceNeg, Int.reduceEq, Int.reducePow, Int.reduceMod, Int.reduceDiv, Int.reduceToNat, decide_true, decide_false, and_true, true_and, and_self, Option.some.injEq, hx, E])).trans ?_
      refine (seqS_nx (e1 := E) (s1 := s) (by simp only [E, Tm.Tm.pv, seqS, ifS, setS, augS, dropS, retS, retN, nxS, bkS, ctS, asgS, subS, R.toS, R.bind, R.of, opF, unF, varF, cstF, chF, isB, asB, andT, orT, notT, andF, orF, notF, ifF, nilA, consA, tupF, lstF, cbF, callF, bmF', truT, truV, nameG, nilG, consG, tupG, List.set_cons_zero, List.set_cons_succ, List.getElem?_cons_zero, List.getElem?_cons_succ, Option.bind_some, Option.bind_none, Option.map_some, Option.map_none, List.length_cons, List.length_nil, List.cons_append, List.nil_append, List.append_nil, if_true, if_false, ite_true, ite_false, Bool.false_eq_true, reduceIte, reduceCtorEq, List.map_cons, List.map_nil, Nat.sub_self, List.replicate_succ, List.replicate_zero, Nat.reduceSub, Nat.reduceAdd, Nat.reduceLT, Nat.reduceLeDiff, Nat.reduceEqDiff, Nat.reduceMul, Nat.reducePow, Int.reduceLT, Int.reduceLE, Int.reduceAdd, Int.reduceMul, Int.reduceSub, Int.reduceNeg, Int.reduceEq, Int.reducePow, Int.reduceMod, Int.reduceDiv, Int.reduceToNat, decide_true, decide_false, and_true, true_and, and_self, Option.some.injEq, idxV, at0, at1, at2, at3, at4, at5, seqAt, lstAt, lenV, isiV, typV, kb1, kb2, kb3, kb4, kb5, kb6, kb7, kb8, kb9, kb10, kb11, eqV, neV, eqB, scEq, t1, t2, t3, t4, t5, t6, t7, t8, t9, t10, t11, t12, t13, t14, t15, t16, Bool.not_true])).trans ?_
      have i1 : idxV (Tm.Tm.of w as).pv (.int 1) s = some (.str w, s) := by simp only [Tm.Tm.pv, idxV, at0, at1, at2, at3, at4, at5, seqAt, lstAt, lenV, isiV, typV, kb1, kb2, kb3, kb4, kb5, kb6, kb7, kb8, kb9, kb10, kb11, Option.map_some]
      have g0 : (s ++ [PO.lst (as.map fun a => tr ts n a.toNat)])[s.length]? = some (.lst (as.map fun a => tr ts n a.toNat)) := getS0
      have v2 : varF 2 E s = .ok (Tm.Tm.of w as).pv s := rfl
      simp only [retS, tupF, consA, nilA, cstF, opF, v2, cbF, lc, i1, R.bind, R.of, R.toS, tupleV, seqAt, lstAt, g0, Option.map_some, sizeLine_eq, List.length_cons, List.length_nil, Nat.reduceAdd, Nat.reduceLeDiff, reduceIte]
theorem F_L_written {ts : List T} (hr : Rw ts) {q : Nat} : ∀ (n k : Nat) (s : Store), s[q]? = some (.lst (ts.map Tm.Tm.pv)) → k < ts.length → (ga (szs ts) (k : Int)).2 ≤ n → FL.F_L_written n [.ref q, .int (k : Int)] s = .ok (tr ts n k) s := by
  intro n
  induction n with
  | zero =>
    intro k s hq hk hd
    obtain ⟨t, ht⟩ : ∃ t, ts[k]? = some t := ⟨_, List.getElem?_eq_getElem hk⟩
    obtain ⟨⟨m, hm⟩, _⟩ := ga_at hr ht hd
    omega
  | succ n ih =>
    intro k s hq hk hd
    obtain ⟨t, ht⟩ : ∃ t, ts[k]? = some t := ⟨_, List.getElem?_eq_getElem hk⟩
    obtain ⟨_, har⟩ := ga_at hr ht hd
    have hx := ix_T hq ht
    have g := hr.row k t ht
    unfold FL.F_L_written
    cases t with
    | num i =>
      refine run_rt0 ?_ (tr_pure _ _ _)
      have e : tr ts (n + 1) k = (Tm.Tm.num i).pv := by unfold tr; rw [ht]
      rw [e]
      have i0 : idxV (Tm.Tm.num i).pv (.int 0) s = some (.str "num", s) := by simp only [Tm.Tm.pv, idxV, at0, at1, at2, at3, at4, at5, seqAt, lstAt, lenV, isiV, typV, kb1, kb2, kb3, kb4, kb5, kb6, kb7, kb8, kb9, kb10, kb11, Option.map_some]
      simp only [b_L_written, seqS, ifS, setS, augS, dropS, retS, retN, nxS, bkS, ctS, asgS, subS, R.toS, R.bind, R.of, opF, unF, varF, cstF, chF, isB, asB, andT, orT, notT, andF, orF, notF, ifF, nilA, consA, tupF, lstF, cbF, callF, bmF', truT, truV, nameG, nilG, consG, tupG, List.set_cons_zero, List.set_cons_succ, List.getElem?_cons_zero, List.getElem?_cons_succ, Option.bind_some, Option.bind_none, Option.map_some, Option.map_none, List.length_cons, List.length_nil, List.cons_append, List.nil_append, List.append_nil, if_true, if_false, ite_true, ite_false, Bool.false_eq_true, reduceIte, reduceCtorEq, List.map_cons, List.map_nil, Nat.sub_self, List.replicate_succ, List.replicate_zero, Nat.reduceSub, Nat.reduceAdd, Nat.reduceLT, Nat.reduceLeDiff, Nat.reduceEqDiff, Nat.reduceMul, Nat.reducePow, Int.reduceLT, Int.reduceLE, Int.reduceAdd, Int.reduceMul, Int.reduceSub, Int.reduceNeg, Int.reduceEq, Int.reducePow, Int.reduceMod, Int.reduceDiv, Int.reduceToNat, decide_true, decide_false, and_true, true_and, and_self, Option.some.injEq, hx, i0, eqV, neV, eqB, scEq, t1, t2, t3, t4, t5, t6, t7, t8, t9, t10, t11, t12, t13, t14, t15, t16, Bool.not_false]
    | name i =>
      refine run_rt0 ?_ (tr_pure _ _ _)
      have e : tr ts (n + 1) k = (Tm.Tm.name i).pv := by unfold tr; rw [ht]
      rw [e]
      have i0 : idxV (Tm.Tm.name i).pv (.int 0) s = some (.str "name", s) := by simp only [Tm.Tm.pv, idxV, at0, at1, at2, at3, at4, at5, seqAt, lstAt, lenV, isiV, typV, kb1, kb2, kb3, kb4, kb5, kb6, kb7, kb8, kb9, kb10, kb11, Option.map_some]
      simp only [b_L_written, seqS, ifS, setS, augS, dropS, retS, retN, nxS, bkS, ctS, asgS, subS, R.toS, R.bind, R.of, opF, unF, varF, cstF, chF, isB, asB, andT, orT, notT, andF, orF, notF, ifF, nilA, consA, tupF, lstF, cbF, callF, bmF', truT, truV, nameG, nilG, consG, tupG, List.set_cons_zero, List.set_cons_succ, List.getElem?_cons_zero, List.getElem?_cons_succ, Option.bind_some, Option.bind_none, Option.map_some, Option.map_none, List.length_cons, List.length_nil, List.cons_append, List.nil_append, List.append_nil, if_true, if_false, ite_true, ite_false, Bool.false_eq_true, reduceIte, reduceCtorEq, List.map_cons, List.map_nil, Nat.sub_self, List.replicate_succ, List.replicate_zero, Nat.reduceSub, Nat.reduceAdd, Nat.reduceLT, Nat.reduceLeDiff, Nat.reduceEqDiff, Nat.reduceMul, Nat.reducePow, Int.reduceLT, Int.reduceLE, Int.reduceAdd, Int.reduceMul, Int.reduceSub, Int.reduceNeg, Int.reduceEq, Int.reducePow, Int.reduceMod, Int.reduceDiv, Int.reduceToNat, decide_true, decide_false, and_true, true_and, and_self, Option.some.injEq, hx, i0, eqV, neV, eqB, scEq, t1, t2, t3, t4, t5, t6, t7, t8, t9, t10, t11, t12, t13, t14, t15, t16, Bool.not_false]
    | of w as =>
      have e : tr ts (n + 1) k = .tup [.str "of", .str w, .tup (as.map fun a => tr ts n a.toNat)] := by rw [tr, ht]
      let E : Env := [some (.ref q), some (.int (k : Int)), none]
      have al : as.length ≤ 4 := g.2.1
      have i0 : idxV (Tm.Tm.of w as).pv (.int 0) s = some (.str "of", s) := by simp only [Tm.Tm.pv, idxV, at0, at1, at2, at3, at4, at5, seqAt, lstAt, lenV, isiV, typV, kb1, kb2, kb3, kb4, kb5, kb6, kb7, kb8, kb9, kb10, kb11, Option.map_some]
      have i1 : idxV (Tm.Tm.of w as).pv (.int 1) s = some (.str w, s) := by simp only [Tm.Tm.pv, idxV, at0, at1, at2, at3, at4, at5, seqAt, lstAt, lenV, isiV, typV, kb1, kb2, kb3, kb4, kb5, kb6, kb7, kb8, kb9, kb10, kb11, Option.map_some]
      have i2 : idxV (Tm.Tm.of w as).pv (.int 2) s = some (.tup (as.map PV.int), s) := by simp only [Tm.Tm.pv, idxV, at0, at1, at2, at3, at4, at5, seqAt, lstAt, lenV, isiV, typV, kb1, kb2, kb3, kb4, kb5, kb6, kb7, kb8, kb9, kb10, kb11, Option.map_some]
      have lc : lcF (seqI (opF idxV (opF idxV (varF 0) (varF 1)) (cstF (.int 2)))) [2] (nameG 2) yesT (b_L_written_e1 (FL.F_L_written n)) E s = .ok (.ref s.length) (s ++ [.lst (as.map fun a => tr ts n a.toNat)]) := by
        refine lcF_map (gd := []) as PV.int (fun a => tr ts n a.toNat) (by simp only [E, seqI, seqS, ifS, setS, augS, dropS, retS, retN, nxS, bkS, ctS, asgS, subS, R.toS, R.bind, R.of, opF, unF, varF, cstF, chF, isB, asB, andT, orT, notT, andF, orF, notF, ifF, nilA, consA, tupF, lstF, cbF, callF, bmF', truT, truV, nameG, nilG, consG, tupG, List.set_cons_zero, List.set_cons_succ, List.getElem?_cons_zero, List.getElem?_cons_succ, Option.bind_some, Option.bind_none, Option.map_some, Option.map_none, List.length_cons, List.length_nil, List.cons_append, List.nil_append, List.append_nil, if_true, if_false, ite_true, ite_false, Bool.false_eq_true, reduceIte, reduceCtorEq, List.map_cons, List.map_nil, Nat.sub_self, List.replicate_succ, List.replicate_zero, Nat.reduceSub, Nat.reduceAdd, Nat.reduceLT, Nat.reduceLeDiff, Nat.reduceEqDiff, Nat.reduceMul, Nat.reducePow, Int.reduceLT, Int.reduceLE, Int.reduceAdd, Int.reduceMul, Int.reduceSub, Int.reduceNeg, Int.reduceEq, Int.reducePow, Int.reduceMod, Int.reduceDiv, Int.reduceToNat, decide_true, decide_false, and_true, true_and, and_self, Option.some.injEq, hx, i2, seqAt, gdOf]) (fun _ => gd_nil _) (by rw [sizeLine_eq]; omega) fun a ha => ⟨_, rfl, fun acc => ?_⟩
        have la := g.2.2 a ha
        have := ih a.toNat (s ++ [.lst acc]) (getOld hq) (by omega) (by have := har w as rfl a ha; rw [show ((a.toNat : Nat) : Int) = a by omega]; omega)
        rw [show ((a.toNat : Nat) : Int) = a by omega] at this
        simp only [E, b_L_written_e1, wipeE, seqS, ifS, setS, augS, dropS, retS, retN, nxS, bkS, ctS, asgS, subS, R.toS, R.bind, R.of, opF, unF, varF, cstF, chF, isB, asB, andT, orT, notT, andF, orF, notF, ifF, nilA, consA, tupF, lstF, cbF, callF, bmF', truT, truV, nameG, nilG, consG, tupG, List.set_cons_zero, List.set_cons_succ, List.getElem?_cons_zero, List.getElem?_cons_succ, Option.bind_some, Option.bind_none, Option.map_some, Option.map_none, List.length_cons, List.length_nil, List.cons_append, List.nil_append, List.append_nil, if_true, if_false, ite_true, ite_false, Bool.false_eq_true, reduceIte, reduceCtorEq, List.map_cons, List.map_nil, Nat.sub_self, List.replicate_succ, List.replicate_zero, Nat.reduceSub, Nat.reduceAdd, Nat.reduceLT, Nat.reduceLeDiff, Nat.reduceEqDiff, Nat.reduceMul, Nat.reducePow, Int.reduceLT, Int.reduceLE, Int.reduceAdd, Int.reduceMul, Int.reduceSub, Int.reduceNeg, Int.reduceEq, Int.reducePow, Int.reduceMod, Int.reduceDiv, Int.reduceToNat, decide_true, decide_false, and_true, true_and, and_self, Option.some.injEq, this]
      refine run_rt (g := [.lst (as.map fun a => tr ts n a.toNat)]) ?_ (tr_pure _ _ _)
      rw [e]
      unfold b_L_written
      refine (seqS_nx (e1 := E) (s1 := s) (by simp only [E, seqS, ifS, setS, augS, dropS, retS, retN, nxS, bkS, ctS, asgS, subS, R.toS, R.bind, R.of, opF, unF, varF, cstF, chF, isB, asB, andT, orT, notT, andF, orF, notF, ifF, nilA, consA, tupF, lstF, cbF, callF, bmF', truT, truV, nameG, nilG, consG, tupG, List.set_cons_zero, List.set_cons_succ, List.getElem?_cons_zero, List.getElem?_cons_succ, Option.bind_some, Option.bind_none, Option.map_some, Option.map_none, List.length_cons, List.length_nil, List.cons_append, List.nil_append, List.append_nil, if_true, if_false, ite_true, ite_false, Bool.false_eq_true, reduceIte, reduceCtorEq, List.map_cons, List.map_nil, Nat.sub_self, List.replicate_succ, List.replicate_zero, Nat.reduceSub, Nat.reduceAdd, Nat.reduceLT, Nat.reduceLeDiff, Nat.reduceEqDiff, Nat.reduceMul, Nat.reducePow, Int.reduceLT, Int.reduceLE, Int.reduceAdd, Int.reduceMul, Int.reduceSub, Int.reduceNeg, Int.reduceEq, Int.reducePow, Int.reduceMod, Int.reduceDiv, Int.reduceToNat, decide_true, decide_false, and_true, true_and, and_self, Option.some.injEq, hx, i0, eqV, neV, eqB, scEq, t1, t2, t3, t4, t5, t6, t7, t8, t9, t10, t11, t12, t13, t14, t15, t16, Bool.not_true])).trans ?_
      have g0 : (s ++ [PO.lst (as.map fun a => tr ts n a.toNat)])[s.length]? = some (.lst (as.map fun a => tr ts n a.toNat)) := getS0
      have v0 : varF 0 E s = .ok (.ref q) s := rfl
      have v1 : varF 1 E s = .ok (.int (k : Int)) s := rfl
      simp only [retS, tupF, consA, nilA, cstF, opF, v0, v1, hx, cbF, lc, i1, R.bind, R.of, R.toS, tupleV, seqAt, lstAt, g0, Option.map_some, sizeLine_eq, List.length_cons, List.length_nil, Nat.reduceAdd, Nat.reduceLeDiff, reduceIte]
/-! ### equality of deep things -/
theorem dk_tr {ts : List T} (hr : Rw ts) : ∀ n k, dk (2 * n + 1) (tr ts n k) = true := by
  obtain ⟨t1, t2, t3⟩ := Tm.tag_ok
  intro n
  induction n with
  | zero => intro k; rfl
  | succ n ih =>
    intro k
    rw [show 2 * (n + 1) + 1 = (2 * n + 1) + 1 + 1 by omega]
    cases ht : ts[k]? with
    | none => unfold tr; rw [ht]; rfl
    | some t =>
      have g := hr.row k t ht
      cases t with
      | num i => unfold tr; rw [ht]; simp [Tm.Tm.pv, dk, dks, t1]
      | name x => unfold tr; rw [ht]; simp [Tm.Tm.pv, dk, dks, t2, show PyData.strOk x = true from g]
      | of w as =>
        unfold tr
        rw [ht]
        have : dks (2 * n + 1) (as.map fun a => tr ts n a.toNat) = true := dks_map fun a _ => ih _
        simp [dk, dks, t3, show PyData.strOk w = true from g.1, this]
theorem eqB2_dk {n m : Nat} {v w : PV} {s : Store} (hv : dk n v = true) (hw : dk m w = true) (hn : n ≤ 190) (hm : m ≤ 190) : eqB2 v w s = some (decide (v = w)) := by
  unfold eqB2
  cases e : scEq v w with
  | some b => simp only [scEq_dk hv hw e]
  | none =>
    simp only [toD_dk n v s 190 hv hn, toD_dk m w s 190 hw hm]
    have := eqv_dat n v w m hv hw
    by_cases q : v = w
    · rw [decide_eq_true q, this.mpr q]
    · rw [decide_eq_false q]
      cases c : PyData.eqv (dat v) (dat w) with
      | false => rfl
      | true => exact absurd (this.mp c) q
theorem eq2_dk {n : Nat} {v : PV} {s : Store} (hv : dk n v = true) (hn : n ≤ 190) : eqV2 v v s = some (.bl true, s) := by
  unfold eqV2
  rw [eqB2_dk hv hv hn hn, decide_eq_true rfl]
  rfl
theorem eqvAll_self : ∀ {n : Nat} {xs : List PV}, dks n xs = true → PyData.eqvAll (dats xs) (dats xs) = true := fun h => (eqvAll_dats h h).mpr rfl
theorem ne2_lst {n a b : Nat} {xs : List PV} {s : Store} (ha : s[a]? = some (.lst xs)) (hb : s[b]? = some (.lst xs)) (hx : dks n xs = true) (hn : n < 190) : neV2 (.ref a) (.ref b) s = some (.bl false, s) := by
  unfold neV2 eqB2
  rw [show scEq (.ref a) (.ref b) = none from rfl]
  simp only [toD_lst ha hx hn, toD_lst hb hx hn]
  show some (PV.bl (!PyData.eqvAll (dats xs) (dats xs)), s) = _
  rw [eqvAll_self hx]
  rfl
abbrev told : PV := .tup [.bl false, .bl true, .bl true, .bl false]
theorem eq_told {s : Store} : eqV2 told told s = some (.bl true, s) := by
  simp [eqV2, eqB2, told, scEq, toD, toDs, PyData.eqv, PyData.eqvAll]
theorem F_tree_of {ts : List T} (hr : Rw ts) {q k : Nat} {s : Store} (hq : s[q]? = some (.lst (ts.map Tm.Tm.pv))) (hl : ts.length ≤ 1000) (hk : k < ts.length) :
    ((ga (szs ts) (k : Int)).1 > 500 ∨ (ga (szs ts) (k : Int)).2 > 60 → FL.F_tree_of [.ref q, .int (k : Int)] s = .er ⟨"TooBig", none⟩ s) ∧
    (¬ (ga (szs ts) (k : Int)).1 > 500 → ¬ (ga (szs ts) (k : Int)).2 > 60 → FL.F_tree_of [.ref q, .int (k : Int)] s = .ok (tr ts 64 k) s) := by
  have f1 := Sz.F_size_of hq hr hl hk
  obtain ⟨p, hp⟩ : ∃ p, p = ga (szs ts) (k : Int) := ⟨_, rfl⟩
  rw [← hp] at f1 ⊢
  refine ⟨fun h => ?_, fun h1 h2 => ?_⟩
  · unfold FL.F_tree_of
    refine run_er (g := []) (e := [some (.ref q), some (.int (k : Int)), some (pz p)]) ?_ rfl
    rw [List.append_nil]
    by_cases h1 : p.1 > 500
    · simp only [b_tree_of, seqS, ifS, setS, augS, dropS, retS, retN, nxS, bkS, ctS, asgS, subS, R.toS, R.bind, R.of, opF, unF, varF, cstF, chF, isB, asB, andT, orT, notT, andF, orF, notF, ifF, nilA, consA, tupF, lstF, cbF, callF, bmF', truT, truV, nameG, nilG, consG, tupG, List.set_cons_zero, List.set_cons_succ, List.getElem?_cons_zero, List.getElem?_cons_succ, Option.bind_some, Option.bind_none, Option.map_some, Option.map_none, List.length_cons, List.length_nil, List.cons_append, List.nil_append, List.append_nil, if_true, if_false, ite_true, ite_false, Bool.false_eq_true, reduceIte, reduceCtorEq, List.map_cons, List.map_nil, Nat.sub_self, List.replicate_succ, List.replicate_zero, Nat.reduceSub, Nat.reduceAdd, Nat.reduceLT, Nat.reduceLeDiff, Nat.reduceEqDiff, Nat.reduceMul, Nat.reducePow, Int.reduceLT, Int.reduceLE, Int.reduceAdd, Int.reduceMul, Int.reduceSub, Int.reduceNeg, Int.reduceEq, Int.reducePow, Int.reduceMod, Int.reduceDiv, Int.reduceToNat, decide_true, decide_false, and_true, true_and, and_self, Option.some.injEq, f1, pz0, gtV, cmpV, h1, raiseS]
    · have h2 : p.2 > 60 := by omega
      simp only [b_tree_of, seqS, ifS, setS, augS, dropS, retS, retN, nxS, bkS, ctS, asgS, subS, R.toS, R.bind, R.of, opF, unF, varF, cstF, chF, isB, asB, andT, orT, notT, andF, orF, notF, ifF, nilA, consA, tupF, lstF, cbF, callF, bmF', truT, truV, nameG, nilG, consG, tupG, List.set_cons_zero, List.set_cons_succ, List.getElem?_cons_zero, List.getElem?_cons_succ, Option.bind_some, Option.bind_none, Option.map_some, Option.map_none, List.length_cons, List.length_nil, List.cons_append, List.nil_append, List.append_nil, if_true, if_false, ite_true, ite_false, Bool.false_eq_true, reduceIte, reduceCtorEq, List.map_cons, List.map_nil, Nat.sub_self, List.replicate_succ, List.replicate_zero, Nat.reduceSub, Nat.reduceAdd, Nat.reduceLT, Nat.reduceLeDiff, Nat.reduceEqDiff, Nat.reduceMul, Nat.reducePow, Int.reduceLT, Int.reduceLE, Int.reduceAdd, Int.reduceMul, Int.reduceSub, Int.reduceNeg, Int.reduceEq, Int.reducePow, Int.reduceMod, Int.reduceDiv, Int.reduceToNat, decide_true, decide_false, and_true, true_and, and_self, Option.some.injEq, f1, pz0, pz1, gtV, cmpV, h1, h2, raiseS]
  · have f2 := F_tree_part hr 64 k s hq hk (by rw [← hp]; omega)
    unfold FL.F_tree_of
    refine run_rt0 ?_ (tr_pure _ _ _)
    simp only [b_tree_of, seqS, ifS, setS, augS, dropS, retS, retN, nxS, bkS, ctS, asgS, subS, R.toS, R.bind, R.of, opF, unF, varF, cstF, chF, isB, asB, andT, orT, notT, andF, orF, notF, ifF, nilA, consA, tupF, lstF, cbF, callF, bmF', truT, truV, nameG, nilG, consG, tupG, List.set_cons_zero, List.set_cons_succ, List.getElem?_cons_zero, List.getElem?_cons_succ, Option.bind_some, Option.bind_none, Option.map_some, Option.map_none, List.length_cons, List.length_nil, List.cons_append, List.nil_append, List.append_nil, if_true, if_false, ite_true, ite_false, Bool.false_eq_true, reduceIte, reduceCtorEq, List.map_cons, List.map_nil, Nat.sub_self, List.replicate_succ, List.replicate_zero, Nat.reduceSub, Nat.reduceAdd, Nat.reduceLT, Nat.reduceLeDiff, Nat.reduceEqDiff, Nat.reduceMul, Nat.reducePow, Int.reduceLT, Int.reduceLE, Int.reduceAdd, Int.reduceMul, Int.reduceSub, Int.reduceNeg, Int.reduceEq, Int.reducePow, Int.reduceMod, Int.reduceDiv, Int.reduceToNat, decide_true, decide_false, and_true, true_and, and_self, Option.some.injEq, f1, pz0, pz1, gtV, cmpV, h1, h2, f2]
theorem F_refusal {s : Store} : F_L_refusal [.exc "TooBig"] s = .ok told s := by
  unfold F_L_refusal
  refine run_rt0 ?_ rfl
  have i1 : ∀ s, isEV (["TooBig"], ["SameError", "NoTree", "NoRule", "NoRow", "Full", "Apart", "TooBig", "TooWide"]) [.exc "TooBig", .tup [.cls "NoTree", .cls "NoRule", .cls "NoRow", .cls "Apart", .cls "TooWide"]] s = some (.bl false, s) := fun s => rfl
  have i2 : ∀ s, isEV (["TooBig"], ["SameError", "NoTree", "NoRule", "NoRow", "Full", "Apart", "TooBig", "TooWide"]) [.exc "TooBig", .cls "Full"] s = some (.bl false, s) := fun s => rfl
  have i3 : ∀ s, isEV (["TooBig"], ["SameError", "NoTree", "NoRule", "NoRow", "Full", "Apart", "TooBig", "TooWide"]) [.exc "TooBig", .cls "TooBig"] s = some (.bl true, s) := fun s => rfl
  have i4 : ∀ s, isEV (["TooBig"], ["SameError", "NoTree", "NoRule", "NoRow", "Full", "Apart", "TooBig", "TooWide"]) [.exc "TooBig", .ty "ValueError"] s = some (.bl true, s) := fun s => rfl
  simp only [b_L_refusal, seqS, ifS, setS, augS, dropS, retS, retN, nxS, bkS, ctS, asgS, subS, R.toS, R.bind, R.of, opF, unF, varF, cstF, chF, isB, asB, andT, orT, notT, andF, orF, notF, ifF, nilA, consA, tupF, lstF, cbF, callF, bmF', truT, truV, nameG, nilG, consG, tupG, List.set_cons_zero, List.set_cons_succ, List.getElem?_cons_zero, List.getElem?_cons_succ, Option.bind_some, Option.bind_none, Option.map_some, Option.map_none, List.length_cons, List.length_nil, List.cons_append, List.nil_append, List.append_nil, if_true, if_false, ite_true, ite_false, Bool.false_eq_true, reduceIte, reduceCtorEq, List.map_cons, List.map_nil, Nat.sub_self, List.replicate_succ, List.replicate_zero, Nat.reduceSub, Nat.reduceAdd, Nat.reduceLT, Nat.reduceLeDiff, Nat.reduceEqDiff, Nat.reduceMul, Nat.reducePow, Int.reduceLT, Int.reduceLE, Int.reduceAdd, Int.reduceMul, Int.reduceSub, Int.reduceNeg, Int.reduceEq, Int.reducePow, Int.reduceMod, Int.reduceDiv, Int.reduceToNat, decide_true, decide_false, and_true, true_and, and_self, Option.some.injEq, i1, i2, i3, i4, sizeLine_eq]
theorem F_tree_right {ts : List T} (hr : Rw ts) {q k : Nat} {s : Store} (hq : s[q]? = some (.lst (ts.map Tm.Tm.pv))) (hl : ts.length ≤ 1000) (hk : k < ts.length) : FL.F_L_tree_right [.ref q, .int (k : Int), pz (ga (szs ts) (k : Int))] s = .ok (.bl true) s := by
  obtain ⟨p, hp⟩ : ∃ p, p = ga (szs ts) (k : Int) := ⟨_, rfl⟩
  let A : PO := .lst (ts.map Tm.Tm.pv)
  have h0 : (s ++ [A])[s.length]? = some A := getS0
  have h1 : (s ++ [A])[q]? = some A := getOld hq
  obtain ⟨f1, f2⟩ := F_tree_of hr h0 hl hk
  have f3 := F_L_written hr 64 k (s ++ [A]) h1 hk
  rw [← hp] at f1 f2 f3 ⊢
  have ne := ne2_lst h0 h1 (Ck.dks_T fun t ht => hr.row.good ht) (by decide)
  have ln : (ts.map Tm.Tm.pv).length ≤ 16777216 := by rw [List.length_map]; omega
  let E : Option PV → Option PV → Env := fun a b => [some (.ref q), some (.int (k : Int)), some (pz p), some (.ref s.length), a, b]
  unfold FL.F_L_tree_right
  refine run_rt (g := [A]) ?_ rfl
  unfold b_L_tree_right
  refine (seqS_nx (e1 := E none none) (s1 := s ++ [A]) (by simp only [seqS, ifS, setS, augS, dropS, retS, retN, nxS, bkS, ctS, asgS, subS, R.toS, R.bind, R.of, opF, unF, varF, cstF, chF, isB, asB, andT, orT, notT, andF, orF, notF, ifF, nilA, consA, tupF, lstF, cbF, callF, bmF', truT, truV, nameG, nilG, consG, tupG, List.set_cons_zero, List.set_cons_succ, List.getElem?_cons_zero, List.getElem?_cons_succ, Option.bind_some, Option.bind_none, Option.map_some, Option.map_none, List.length_cons, List.length_nil, List.cons_append, List.nil_append, List.append_nil, if_true, if_false, ite_true, ite_false, Bool.false_eq_true, reduceIte, reduceCtorEq, List.map_cons, List.map_nil, Nat.sub_self, List.replicate_succ, List.replicate_zero, Nat.reduceSub, Nat.reduceAdd, Nat.reduceLT, Nat.reduceLeDiff, Nat.reduceEqDiff, Nat.reduceMul, Nat.reducePow, Int.reduceLT, Int.reduceLE, Int.reduceAdd, Int.reduceMul, Int.reduceSub, Int.reduceNeg, Int.reduceEq, Int.reducePow, Int.reduceMod, Int.reduceDiv, Int.reduceToNat, decide_true, decide_false, and_true, true_and, and_self, Option.some.injEq, listV, seqAt, lstAt, hq, sizeLine_eq, ln]; rfl)).trans ?_
  by_cases hb : p.1 > 500 ∨ p.2 > 60
  · have g1 := f1 hb
    refine (seqS_nx (e1 := E none (some told)) (s1 := s ++ [A]) ?_).trans ?_
    · have gg : (setS 5 (callF 2 FL.F_tree_of [] (consA (varF 3) (consA (varF 1) nilA)))) (E none none) (s ++ [A]) = .er ⟨"TooBig", none⟩ (E none none) (s ++ [A]) := by
        simp only [E, seqS, ifS, setS, augS, dropS, retS, retN, nxS, bkS, ctS, asgS, subS, R.toS, R.bind, R.of, opF, unF, varF, cstF, chF, isB, asB, andT, orT, notT, andF, orF, notF, ifF, nilA, consA, tupF, lstF, cbF, callF, bmF', truT, truV, nameG, nilG, consG, tupG, List.set_cons_zero, List.set_cons_succ, List.getElem?_cons_zero, List.getElem?_cons_succ, Option.bind_some, Option.bind_none, Option.map_some, Option.map_none, List.length_cons, List.length_nil, List.cons_append, List.nil_append, List.append_nil, if_true, if_false, ite_true, ite_false, Bool.false_eq_true, reduceIte, reduceCtorEq, List.map_cons, List.map_nil, Nat.sub_self, List.replicate_succ, List.replicate_zero, Nat.reduceSub, Nat.reduceAdd, Nat.reduceLT, Nat.reduceLeDiff, Nat.reduceEqDiff, Nat.reduceMul, Nat.reducePow, Int.reduceLT, Int.reduceLE, Int.reduceAdd, Int.reduceMul, Int.reduceSub, Int.reduceNeg, Int.reduceEq, Int.reducePow, Int.reduceMod, Int.reduceDiv, Int.reduceToNat, decide_true, decide_false, and_true, true_and, and_self, Option.some.injEq, g1]
      unfold tryAsS
      rw [gg]
      have hf : (callF 1 FL.F_L_refusal [] (consA (varF 4) nilA)) [some (.ref q), some (.int (k : Int)), some (pz p), some (.ref s.length), some (.exc "TooBig"), none] (s ++ [A]) = .ok told (s ++ [A]) := by
        simp only [seqS, ifS, setS, augS, dropS, retS, retN, nxS, bkS, ctS, asgS, subS, R.toS, R.bind, R.of, opF, unF, varF, cstF, chF, isB, asB, andT, orT, notT, andF, orF, notF, ifF, nilA, consA, tupF, lstF, cbF, callF, bmF', truT, truV, nameG, nilG, consG, tupG, List.set_cons_zero, List.set_cons_succ, List.getElem?_cons_zero, List.getElem?_cons_succ, Option.bind_some, Option.bind_none, Option.map_some, Option.map_none, List.length_cons, List.length_nil, List.cons_append, List.nil_append, List.append_nil, if_true, if_false, ite_true, ite_false, Bool.false_eq_true, reduceIte, reduceCtorEq, List.map_cons, List.map_nil, Nat.sub_self, List.replicate_succ, List.replicate_zero, Nat.reduceSub, Nat.reduceAdd, Nat.reduceLT, Nat.reduceLeDiff, Nat.reduceEqDiff, Nat.reduceMul, Nat.reducePow, Int.reduceLT, Int.reduceLE, Int.reduceAdd, Int.reduceMul, Int.reduceSub, Int.reduceNeg, Int.reduceEq, Int.reducePow, Int.reduceMod, Int.reduceDiv, Int.reduceToNat, decide_true, decide_false, and_true, true_and, and_self, Option.some.injEq, F_refusal]
      simp only [hf, List.mem_singleton, if_true, show isEx "TooBig" "SameError" = true by decide, show noX told = true from rfl, and_self, E, List.set_cons_succ, List.set_cons_zero]
    · refine (seqS_nx (e1 := E none (some told)) (s1 := s ++ [A]) (by simp only [E, seqS, ifS, setS, augS, dropS, retS, retN, nxS, bkS, ctS, asgS, subS, R.toS, R.bind, R.of, opF, unF, varF, cstF, chF, isB, asB, andT, orT, notT, andF, orF, notF, ifF, nilA, consA, tupF, lstF, cbF, callF, bmF', truT, truV, nameG, nilG, consG, tupG, List.set_cons_zero, List.set_cons_succ, List.getElem?_cons_zero, List.getElem?_cons_succ, Option.bind_some, Option.bind_none, Option.map_some, Option.map_none, List.length_cons, List.length_nil, List.cons_append, List.nil_append, List.append_nil, if_true, if_false, ite_true, ite_false, Bool.false_eq_true, reduceIte, reduceCtorEq, List.map_cons, List.map_nil, Nat.sub_self, List.replicate_succ, List.replicate_zero, Nat.reduceSub, Nat.reduceAdd, Nat.reduceLT, Nat.reduceLeDiff, Nat.reduceEqDiff, Nat.reduceMul, Nat.reducePow, Int.reduceLT, Int.reduceLE, Int.reduceAdd, Int.reduceMul, Int.reduceSub, Int.reduceNeg, Int.reduceEq, Int.reducePow, Int.reduceMod, Int.reduceDiv, Int.reduceToNat, decide_true, decide_false, and_true, true_and, and_self, Option.some.injEq, ne, Bool.not_true])).trans ?_
      refine (seqS_rt (v := .bl true) (s1 := s ++ [A]) ?_).trans rfl
      by_cases q1 : p.1 > 500
      · simp only [E, seqS, ifS, setS, augS, dropS, retS, retN, nxS, bkS, ctS, asgS, subS, R.toS, R.bind, R.of, opF, unF, varF, cstF, chF, isB, asB, andT, orT, notT, andF, orF, notF, ifF, nilA, consA, tupF, lstF, cbF, callF, bmF', truT, truV, nameG, nilG, consG, tupG, List.set_cons_zero, List.set_cons_succ, List.getElem?_cons_zero, List.getElem?_cons_succ, Option.bind_some, Option.bind_none, Option.map_some, Option.map_none, List.length_cons, List.length_nil, List.cons_append, List.nil_append, List.append_nil, if_true, if_false, ite_true, ite_false, Bool.false_eq_true, reduceIte, reduceCtorEq, List.map_cons, List.map_nil, Nat.sub_self, List.replicate_succ, List.replicate_zero, Nat.reduceSub, Nat.reduceAdd, Nat.reduceLT, Nat.reduceLeDiff, Nat.reduceEqDiff, Nat.reduceMul, Nat.reducePow, Int.reduceLT, Int.reduceLE, Int.reduceAdd, Int.reduceMul, Int.reduceSub, Int.reduceNeg, Int.reduceEq, Int.reducePow, Int.reduceMod, Int.reduceDiv, Int.reduceToNat, decide_true, decide_false, and_true, true_and, and_self, Option.some.injEq, pz0, gtV, cmpV, q1, eq_told, sizeLine_eq]
      · have q2 : p.2 > 60 := by omega
        simp only [E, seqS, ifS, setS, augS, dropS, retS, retN, nxS, bkS, ctS, asgS, subS, R.toS, R.bind, R.of, opF, unF, varF, cstF, chF, isB, asB, andT, orT, notT, andF, orF, notF, ifF, nilA, consA, tupF, lstF, cbF, callF, bmF', truT, truV, nameG, nilG, consG, tupG, List.set_cons_zero, List.set_cons_succ, List.getElem?_cons_zero, List.getElem?_cons_succ, Option.bind_some, Option.bind_none, Option.map_some, Option.map_none, List.length_cons, List.length_nil, List.cons_append, List.nil_append, List.append_nil, if_true, if_false, ite_true, ite_false, Bool.false_eq_true, reduceIte, reduceCtorEq, List.map_cons, List.map_nil, Nat.sub_self, List.replicate_succ, List.replicate_zero, Nat.reduceSub, Nat.reduceAdd, Nat.reduceLT, Nat.reduceLeDiff, Nat.reduceEqDiff, Nat.reduceMul, Nat.reducePow, Int.reduceLT, Int.reduceLE, Int.reduceAdd, Int.reduceMul, Int.reduceSub, Int.reduceNeg, Int.reduceEq, Int.reducePow, Int.reduceMod, Int.reduceDiv, Int.reduceToNat, decide_true, decide_false, and_true, true_and, and_self, Option.some.injEq, pz0, pz1, gtV, cmpV, q1, q2, eq_told, sizeLine_eq]
  · have b1 : ¬ p.1 > 500 := by omega
    have b2 : ¬ p.2 > 60 := by omega
    have g2 := f2 b1 b2
    have g3 := f3 (by omega)
    have dk2 := dk_tr hr 64 k
    have ee := fun s => eq2_dk (s := s) dk2 (by decide)
    have tu : ∃ xs, tr ts 64 k = .tup xs := by
      obtain ⟨t, ht⟩ : ∃ t, ts[k]? = some t := ⟨_, List.getElem?_eq_getElem hk⟩
      cases t with
      | num i => exact ⟨_, by rw [tr, ht]; rfl⟩
      | name i => exact ⟨_, by rw [tr, ht]; rfl⟩
      | of w as => exact ⟨_, by rw [tr, ht]⟩
    obtain ⟨xs, hx⟩ := tu
    refine (seqS_nx (e1 := E none (some (tr ts 64 k))) (s1 := s ++ [A]) ?_).trans ?_
    · have gg : (setS 5 (callF 2 FL.F_tree_of [] (consA (varF 3) (consA (varF 1) nilA)))) (E none none) (s ++ [A]) = .nx (E none (some (tr ts 64 k))) (s ++ [A]) := by
        simp only [E, seqS, ifS, setS, augS, dropS, retS, retN, nxS, bkS, ctS, asgS, subS, R.toS, R.bind, R.of, opF, unF, varF, cstF, chF, isB, asB, andT, orT, notT, andF, orF, notF, ifF, nilA, consA, tupF, lstF, cbF, callF, bmF', truT, truV, nameG, nilG, consG, tupG, List.set_cons_zero, List.set_cons_succ, List.getElem?_cons_zero, List.getElem?_cons_succ, Option.bind_some, Option.bind_none, Option.map_some, Option.map_none, List.length_cons, List.length_nil, List.cons_append, List.nil_append, List.append_nil, if_true, if_false, ite_true, ite_false, Bool.false_eq_true, reduceIte, reduceCtorEq, List.map_cons, List.map_nil, Nat.sub_self, List.replicate_succ, List.replicate_zero, Nat.reduceSub, Nat.reduceAdd, Nat.reduceLT, Nat.reduceLeDiff, Nat.reduceEqDiff, Nat.reduceMul, Nat.reducePow, Int.reduceLT, Int.reduceLE, Int.reduceAdd, Int.reduceMul, Int.reduceSub, Int.reduceNeg, Int.reduceEq, Int.reducePow, Int.reduceMod, Int.reduceDiv, Int.reduceToNat, decide_true, decide_false, and_true, true_and, and_self, Option.some.injEq, g2]
      unfold tryAsS
      rw [gg]
    · refine (seqS_nx (e1 := E none (some (tr ts 64 k))) (s1 := s ++ [A]) (by simp only [E, seqS, ifS, setS, augS, dropS, retS, retN, nxS, bkS, ctS, asgS, subS, R.toS, R.bind, R.of, opF, unF, varF, cstF, chF, isB, asB, andT, orT, notT, andF, orF, notF, ifF, nilA, consA, tupF, lstF, cbF, callF, bmF', truT, truV, nameG, nilG, consG, tupG, List.set_cons_zero, List.set_cons_succ, List.getElem?_cons_zero, List.getElem?_cons_succ, Option.bind_some, Option.bind_none, Option.map_some, Option.map_none, List.length_cons, List.length_nil, List.cons_append, List.nil_append, List.append_nil, if_true, if_false, ite_true, ite_false, Bool.false_eq_true, reduceIte, reduceCtorEq, List.map_cons, List.map_nil, Nat.sub_self, List.replicate_succ, List.replicate_zero, Nat.reduceSub, Nat.reduceAdd, Nat.reduceLT, Nat.reduceLeDiff, Nat.reduceEqDiff, Nat.reduceMul, Nat.reducePow, Int.reduceLT, Int.reduceLE, Int.reduceAdd, Int.reduceMul, Int.reduceSub, Int.reduceNeg, Int.reduceEq, Int.reducePow, Int.reduceMod, Int.reduceDiv, Int.reduceToNat, decide_true, decide_false, and_true, true_and, and_self, Option.some.injEq, ne, Bool.not_true])).trans ?_
      refine (seqS_nx (e1 := E none (some (tr ts 64 k))) (s1 := s ++ [A]) (by simp only [E, seqS, ifS, setS, augS, dropS, retS, retN, nxS, bkS, ctS, asgS, subS, R.toS, R.bind, R.of, opF, unF, varF, cstF, chF, isB, asB, andT, orT, notT, andF, orF, notF, ifF, nilA, consA, tupF, lstF, cbF, callF, bmF', truT, truV, nameG, nilG, consG, tupG, List.set_cons_zero, List.set_cons_succ, List.getElem?_cons_zero, List.getElem?_cons_succ, Option.bind_some, Option.bind_none, Option.map_some, Option.map_none, List.length_cons, List.length_nil, List.cons_append, List.nil_append, List.append_nil, if_true, if_false, ite_true, ite_false, Bool.false_eq_true, reduceIte, reduceCtorEq, List.map_cons, List.map_nil, Nat.sub_self, List.replicate_succ, List.replicate_zero, Nat.reduceSub, Nat.reduceAdd, Nat.reduceLT, Nat.reduceLeDiff, Nat.reduceEqDiff, Nat.reduceMul, Nat.reducePow, Int.reduceLT, Int.reduceLE, Int.reduceAdd, Int.reduceMul, Int.reduceSub, Int.reduceNeg, Int.reduceEq, Int.reducePow, Int.reduceMod, Int.reduceDiv, Int.reduceToNat, decide_true, decide_false, and_true, true_and, and_self, Option.some.injEq, pz0, pz1, gtV, cmpV, b1, b2])).trans ?_
      have it : isiV [tr ts 64 k, .ty "tuple"] (s ++ [A]) = some (.bl true, s ++ [A]) := by rw [hx]; rfl
      simp only [E, seqS, ifS, setS, augS, dropS, retS, retN, nxS, bkS, ctS, asgS, subS, R.toS, R.bind, R.of, opF, unF, varF, cstF, chF, isB, asB, andT, orT, notT, andF, orF, notF, ifF, nilA, consA, tupF, lstF, cbF, callF, bmF', truT, truV, nameG, nilG, consG, tupG, List.set_cons_zero, List.set_cons_succ, List.getElem?_cons_zero, List.getElem?_cons_succ, Option.bind_some, Option.bind_none, Option.map_some, Option.map_none, List.length_cons, List.length_nil, List.cons_append, List.nil_append, List.append_nil, if_true, if_false, ite_true, ite_false, Bool.false_eq_true, reduceIte, reduceCtorEq, List.map_cons, List.map_nil, Nat.sub_self, List.replicate_succ, List.replicate_zero, Nat.reduceSub, Nat.reduceAdd, Nat.reduceLT, Nat.reduceLeDiff, Nat.reduceEqDiff, Nat.reduceMul, Nat.reducePow, Int.reduceLT, Int.reduceLE, Int.reduceAdd, Int.reduceMul, Int.reduceSub, Int.reduceNeg, Int.reduceEq, Int.reducePow, Int.reduceMod, Int.reduceDiv, Int.reduceToNat, decide_true, decide_false, and_true, true_and, and_self, Option.some.injEq, it, g3, ee]
/-! ### the rows -/
theorem set_same {l : Store} {r : Nat} {o : PO} (h : l[r]? = some o) : l.set r o = l := by
  obtain ⟨h1, h2⟩ := List.getElem?_eq_some_iff.mp h
  subst h2
  exact List.set_getElem_self h1
theorem F_leafN {ns : List Int} {c : Int} {st : Store} : ∃ t : T, F_L_leaf_4 [.frz (ns.map PV.int), .int c] st = .ok t.pv st ∧ (∀ n, t.Good n) ∧ Ne t := by
  have d1 := fun s => Ct.F_draw (c := c) (f := 69621) (m := 4) (st := s) (by decide) (by decide)
  have d2 := fun s => Ct.F_draw (c := c) (f := 40692) (m := 5) (st := s) (by decide) (by decide)
  have d3 := fun s => Ct.F_draw (c := c) (f := 40692) (m := 4) (st := s) (by decide) (by decide)
  obtain ⟨x, hx, ax, aw⟩ := Ct.F_wordW (ns := ns) (w := Ct.drawI c 40692 4) (st := st)
  have c1 : ((0 : Int) ≤ 60 ∧ (60 : Int) ≤ 1000000 ∧ (10 : Int).natAbs < 2 ^ 64) := by decide
  have m4 : mulOk 2 1000000000000000000000000000000000000000000000000000000000000 = true := by decide +kernel
  unfold F_L_leaf_4
  by_cases e0 : Ct.drawI c 69621 4 = 0
  · refine ⟨.num (c % 1999999999999999999999999999999999999999999999999999999999999 - 999999999999999999999999999999999999999999999999999999999999), run_rt0 ?_ (Tm.pv_pure _), fun _ => trivial, trivial⟩
    simp only [b_L_leaf_4, Tm.Tm.pv, seqS, ifS, setS, augS, dropS, retS, retN, nxS, bkS, ctS, asgS, subS, R.toS, R.bind, R.of, opF, unF, varF, cstF, chF, isB, asB, andT, orT, notT, andF, orF, notF, ifF, nilA, consA, tupF, lstF, cbF, callF, bmF', truT, truV, nameG, nilG, consG, tupG, List.set_cons_zero, List.set_cons_succ, List.getElem?_cons_zero, List.getElem?_cons_succ, Option.bind_some, Option.bind_none, Option.map_some, Option.map_none, List.length_cons, List.length_nil, List.cons_append, List.nil_append, List.append_nil, if_true, if_false, ite_true, ite_false, Bool.false_eq_true, reduceIte, reduceCtorEq, List.map_cons, List.map_nil, Nat.sub_self, List.replicate_succ, List.replicate_zero, Nat.reduceSub, Nat.reduceAdd, Nat.reduceLT, Nat.reduceLeDiff, Nat.reduceEqDiff, Nat.reduceMul, Nat.reducePow, Int.reduceLT, Int.reduceLE, Int.reduceAdd, Int.reduceMul, Int.reduceSub, Int.reduceNeg, Int.reduceEq, Int.reducePow, Int.reduceMod, Int.reduceDiv, Int.reduceToNat, decide_true, decide_false, and_true, true_and, and_self, Option.some.injEq, addV, iaddV, subV, mulV, fdivV, modV, powV, negV, cmpV, isNonV, notNonV, eqV, neV, eqB, scEq, t1, t2, t3, t4, t5, t6, t7, t8, t9, t10, t11, t12, t13, t14, t15, t16, sizeLine_eq, d1, e0, c1, m4]
  by_cases e1 : Ct.drawI c 69621 4 = 1
  · refine ⟨.num (Ct.drawI c 40692 5 - 2), run_rt0 ?_ (Tm.pv_pure _), fun _ => trivial, trivial⟩
    simp only [b_L_leaf_4, Tm.Tm.pv, seqS, ifS, setS, augS, dropS, retS, retN, nxS, bkS, ctS, asgS, subS, R.toS, R.bind, R.of, opF, unF, varF, cstF, chF, isB, asB, andT, orT, notT, andF, orF, notF, ifF, nilA, consA, tupF, lstF, cbF, callF, bmF', truT, truV, nameG, nilG, consG, tupG, List.set_cons_zero, List.set_cons_succ, List.getElem?_cons_zero, List.getElem?_cons_succ, Option.bind_some, Option.bind_none, Option.map_some, Option.map_none, List.length_cons, List.length_nil, List.cons_append, List.nil_append, List.append_nil, if_true, if_false, ite_true, ite_false, Bool.false_eq_true, reduceIte, reduceCtorEq, List.map_cons, List.map_nil, Nat.sub_self, List.replicate_succ, List.replicate_zero, Nat.reduceSub, Nat.reduceAdd, Nat.reduceLT, Nat.reduceLeDiff, Nat.reduceEqDiff, Nat.reduceMul, Nat.reducePow, Int.reduceLT, Int.reduceLE, Int.reduceAdd, Int.reduceMul, Int.reduceSub, Int.reduceNeg, Int.reduceEq, Int.reducePow, Int.reduceMod, Int.reduceDiv, Int.reduceToNat, decide_true, decide_false, and_true, true_and, and_self, Option.some.injEq, addV, iaddV, subV, mulV, fdivV, modV, powV, negV, cmpV, isNonV, notNonV, eqV, neV, eqB, scEq, t1, t2, t3, t4, t5, t6, t7, t8, t9, t10, t11, t12, t13, t14, t15, t16, sizeLine_eq, d1, d2, e0, e1]
  · refine ⟨.name x, run_rt0 ?_ (Tm.pv_pure _), fun _ => ax, trivial⟩
    simp only [b_L_leaf_4, Tm.Tm.pv, seqS, ifS, setS, augS, dropS, retS, retN, nxS, bkS, ctS, asgS, subS, R.toS, R.bind, R.of, opF, unF, varF, cstF, chF, isB, asB, andT, orT, notT, andF, orF, notF, ifF, nilA, consA, tupF, lstF, cbF, callF, bmF', truT, truV, nameG, nilG, consG, tupG, List.set_cons_zero, List.set_cons_succ, List.getElem?_cons_zero, List.getElem?_cons_succ, Option.bind_some, Option.bind_none, Option.map_some, Option.map_none, List.length_cons, List.length_nil, List.cons_append, List.nil_append, List.append_nil, if_true, if_false, ite_true, ite_false, Bool.false_eq_true, reduceIte, reduceCtorEq, List.map_cons, List.map_nil, Nat.sub_self, List.replicate_succ, List.replicate_zero, Nat.reduceSub, Nat.reduceAdd, Nat.reduceLT, Nat.reduceLeDiff, Nat.reduceEqDiff, Nat.reduceMul, Nat.reducePow, Int.reduceLT, Int.reduceLE, Int.reduceAdd, Int.reduceMul, Int.reduceSub, Int.reduceNeg, Int.reduceEq, Int.reducePow, Int.reduceMod, Int.reduceDiv, Int.reduceToNat, decide_true, decide_false, and_true, true_and, and_self, Option.some.injEq, addV, iaddV, subV, mulV, fdivV, modV, powV, negV, cmpV, isNonV, notNonV, eqV, neV, eqB, scEq, t1, t2, t3, t4, t5, t6, t7, t8, t9, t10, t11, t12, t13, t14, t15, t16, sizeLine_eq, d1, d3, e0, e1, hx]
open Ct hiding T in
theorem drawn_row {ns : List Int} {ts : List T} (hr : Rw ts) (hl : ts.length ≤ 100) {r : Nat} {c : Int} {s : Store} {x3 x4 x5 x6 x7 : Option PV} (h : s[r]? = some (.lst (ts.map Tm.Tm.pv))) :
    ∃ y3 y4 y5 y6 y7 g ts', b_L_drawn_s2 [some (.frz (ns.map PV.int)), some (.ref r), some (.int c), x3, x4, x5, x6, x7] s = .nx [some (.frz (ns.map PV.int)), some (.ref r), some (.int c), y3, y4, y5, y6, y7] ((s ++ g).set r (.lst (ts'.map Tm.Tm.pv))) ∧ Rw ts' ∧ ts' ≠ [] ∧ ts'.length ≤ ts.length + 1 := by
  have rl : r < s.length := (List.getElem?_eq_some_iff.mp h).1
  have dr : ∀ f m s, f.natAbs < 2 ^ 200 → 0 < m → F_L_draw [.int c, .int f, .int m] s = .ok (.int (drawI c f m)) s := fun f m s h1 h2 => F_draw h1 h2
  -- the last step
  have last : ∀ (t : T) (g : Store) (y4 y5 y6 y7 : Option PV), t.Good ts.length → Ne t → ∃ ts', (ifS (isB (opF ninV (varF 3) (varF 1))) (dropS (bmF' "list" appendV (varF 1) (consA (varF 3) nilA))) nxS) [some (.frz (ns.map PV.int)), some (.ref r), some (.int c), some t.pv, y4, y5, y6, y7] (s ++ g)
      = .nx [some (.frz (ns.map PV.int)), some (.ref r), some (.int c), some t.pv, y4, y5, y6, y7] ((s ++ g).set r (.lst (ts'.map Tm.Tm.pv))) ∧ Rw ts' ∧ ts' ≠ [] ∧ ts'.length ≤ ts.length + 1 := fun t g y4 y5 y6 y7 gt nt => by
    have h' : (s ++ g)[r]? = some (.lst (ts.map Tm.Tm.pv)) := getOld h
    have hin := in_T h' gt fun u hu => hr.row.good hu
    by_cases q : t ∈ ts
    · refine ⟨ts, ?_, hr, fun z => (by rw [z] at q; cases q), by omega⟩
      rw [set_same h']
      simp only [seqS, ifS, setS, augS, dropS, retS, retN, nxS, bkS, ctS, asgS, subS, R.toS, R.bind, R.of, opF, unF, varF, cstF, chF, isB, asB, andT, orT, notT, andF, orF, notF, ifF, nilA, consA, tupF, lstF, cbF, callF, bmF', truT, truV, nameG, nilG, consG, tupG, List.set_cons_zero, List.set_cons_succ, List.getElem?_cons_zero, List.getElem?_cons_succ, Option.bind_some, Option.bind_none, Option.map_some, Option.map_none, List.length_cons, List.length_nil, List.cons_append, List.nil_append, List.append_nil, if_true, if_false, ite_true, ite_false, Bool.false_eq_true, reduceIte, reduceCtorEq, List.map_cons, List.map_nil, Nat.sub_self, List.replicate_succ, List.replicate_zero, Nat.reduceSub, Nat.reduceAdd, Nat.reduceLT, Nat.reduceLeDiff, Nat.reduceEqDiff, Nat.reduceMul, Nat.reducePow, Int.reduceLT, Int.reduceLE, Int.reduceAdd, Int.reduceMul, Int.reduceSub, Int.reduceNeg, Int.reduceEq, Int.reducePow, Int.reduceMod, Int.reduceDiv, Int.reduceToNat, decide_true, decide_false, and_true, true_and, and_self, Option.some.injEq, ninV, hin, q, Bool.not_true]
    · have tok : tyOk "list" (.ref r) (s ++ g) = true := by simp only [tyOk, h']; rfl
      have lz : (ts.map Tm.Tm.pv).length < 16777216 := by rw [List.length_map]; omega
      refine ⟨ts ++ [t], ?_, hr.app gt nt, by simp, by rw [List.length_append, List.length_singleton]; omega⟩
      simp only [seqS, ifS, setS, augS, dropS, retS, retN, nxS, bkS, ctS, asgS, subS, R.toS, R.bind, R.of, opF, unF, varF, cstF, chF, isB, asB, andT, orT, notT, andF, orF, notF, ifF, nilA, consA, tupF, lstF, cbF, callF, bmF', truT, truV, nameG, nilG, consG, tupG, List.set_cons_zero, List.set_cons_succ, List.getElem?_cons_zero, List.getElem?_cons_succ, Option.bind_some, Option.bind_none, Option.map_some, Option.map_none, List.length_cons, List.length_nil, List.cons_append, List.nil_append, List.append_nil, if_true, if_false, ite_true, ite_false, Bool.false_eq_true, reduceIte, reduceCtorEq, List.map_cons, List.map_nil, Nat.sub_self, List.replicate_succ, List.replicate_zero, Nat.reduceSub, Nat.reduceAdd, Nat.reduceLT, Nat.reduceLeDiff, Nat.reduceEqDiff, Nat.reduceMul, Nat.reducePow, Int.reduceLT, Int.reduceLE, Int.reduceAdd, Int.reduceMul, Int.reduceSub, Int.reduceNeg, Int.reduceEq, Int.reducePow, Int.reduceMod, Int.reduceDiv, Int.reduceToNat, decide_true, decide_false, and_true, true_and, and_self, Option.some.injEq, ninV, hin, q, Bool.not_false, tok, appendV, h', lz, sizeLine_eq, List.map_append]
  obtain ⟨l, hl1, gl, nl⟩ := F_leafN (ns := ns) (c := c) (st := s)
  let E : Option PV → Option PV → Option PV → Option PV → Option PV → Env := fun a b c' d e => [some (.frz (ns.map PV.int)), some (.ref r), some (.int c), a, b, c', d, e]
  have d8 := fun s => dr 48271 8 s (by decide) (by decide)
  have nv : neV (.ref r) (.ref s.length) (s ++ [.lst []]) = some (.bl (!decide (ts = [])), s ++ [.lst []]) := by
    have g0 : (s ++ [PO.lst []])[s.length]? = some (.lst []) := getS0
    rw [ne_lst (n := 3) (m := 1) (getOld h) g0 (Ck.dks_T fun u hu => hr.row.good hu) rfl]
    have : (ts.map Tm.Tm.pv = []) = (ts = []) := by simp
    simp only [this]
  have first : setS 3 (callF 2 F_L_leaf_4 [] (consA (varF 0) (consA (varF 2) nilA))) (E x3 x4 x5 x6 x7) s = .nx (E (some l.pv) x4 x5 x6 x7) s := by simp only [E, seqS, ifS, setS, augS, dropS, retS, retN, nxS, bkS, ctS, asgS, subS, R.toS, R.bind, R.of, opF, unF, varF, cstF, chF, isB, asB, andT, orT, notT, andF, orF, notF, ifF, nilA, consA, tupF, lstF, cbF, callF, bmF', truT, truV, nameG, nilG, consG, tupG, List.set_cons_zero, List.set_cons_succ, List.getElem?_cons_zero, List.getElem?_cons_succ, Option.bind_some, Option.bind_none, Option.map_some, Option.map_none, List.length_cons, List.length_nil, List.cons_append, List.nil_append, List.append_nil, if_true, if_false, ite_true, ite_false, Bool.false_eq_true, reduceIte, reduceCtorEq, List.map_cons, List.map_nil, Nat.sub_self, List.replicate_succ, List.replicate_zero, Nat.reduceSub, Nat.reduceAdd, Nat.reduceLT, Nat.reduceLeDiff, Nat.reduceEqDiff, Nat.reduceMul, Nat.reducePow, Int.reduceLT, Int.reduceLE, Int.reduceAdd, Int.reduceMul, Int.reduceSub, Int.reduceNeg, Int.reduceEq, Int.reducePow, Int.reduceMod, Int.reduceDiv, Int.reduceToNat, decide_true, decide_false, and_true, true_and, and_self, Option.some.injEq, hl1]
  by_cases hc : ts ≠ [] ∧ drawI c 48271 8 > 0
  · obtain ⟨hne, hd⟩ := hc
    have d13 := fun s => dr 16807 13 s (by decide) (by decide)
    have d3 := fun s => dr 1664525 3 s (by decide) (by decide)
    have c4 : (0 < (4 : Int) ∧ (4 : Int).natAbs.log2 < 9000) := by decide
    have z13 := draw_lt c 16807 13 (by decide)
    obtain ⟨k, hk⟩ : ∃ k : Int, k = 1 + drawI c 16807 13 / 4 := ⟨_, rfl⟩
    have k4 : 1 ≤ k ∧ k ≤ 4 := by omega
    have lp : 0 < ts.length := List.length_pos_iff.mpr hne
    obtain ⟨n, hn⟩ : ∃ n : Int, n = min (ts.length : Int) 3 := ⟨_, rfl⟩
    have n3 : 1 ≤ n ∧ n ≤ 3 ∧ n ≤ ts.length := by omega
    let as : List Int := (List.range k.toNat).map fun j : Nat => (ts.length : Int) - 1 - drawI c ((0 + (j : Int) * 1 + 2) * 742938285) n
    let s1 : Store := s ++ [.lst []]
    have s1r : s1[r]? = some (.lst (ts.map Tm.Tm.pv)) := getOld h
    obtain ⟨x, hx, ax, _⟩ := F_wordW (ns := ns) (w := drawI c 1664525 3) (st := s1 ++ [.lst (as.map PV.int)])
    have lc : lcF (rng1I (consA (varF 4) nilA)) [7] (nameG 7) yesT b_L_drawn_e1 (E (some l.pv) (some (.int k)) (some (.int n)) x6 x7) s1 = .ok (.ref s1.length) (s1 ++ [.lst (as.map PV.int)]) := by
      have e : as.map PV.int = (List.range k.toNat).map (PV.int ∘ fun j : Nat => (ts.length : Int) - 1 - drawI c ((0 + (j : Int) * 1 + 2) * 742938285) n) := by simp only [as, List.map_map]
      rw [e]
      refine lcF_map (gd := []) (List.range k.toNat) (fun i : Nat => PV.int (0 + (i : Nat) * 1)) _ (Ct.rng1_ok (j := k) (by simp only [E, seqS, ifS, setS, augS, dropS, retS, retN, nxS, bkS, ctS, asgS, subS, R.toS, R.bind, R.of, opF, unF, varF, cstF, chF, isB, asB, andT, orT, notT, andF, orF, notF, ifF, nilA, consA, tupF, lstF, cbF, callF, bmF', truT, truV, nameG, nilG, consG, tupG, List.set_cons_zero, List.set_cons_succ, List.getElem?_cons_zero, List.getElem?_cons_succ, Option.bind_some, Option.bind_none, Option.map_some, Option.map_none, List.length_cons, List.length_nil, List.cons_append, List.nil_append, List.append_nil, if_true, if_false, ite_true, ite_false, Bool.false_eq_true, reduceIte, reduceCtorEq, List.map_cons, List.map_nil, Nat.sub_self, List.replicate_succ, List.replicate_zero, Nat.reduceSub, Nat.reduceAdd, Nat.reduceLT, Nat.reduceLeDiff, Nat.reduceEqDiff, Nat.reduceMul, Nat.reducePow, Int.reduceLT, Int.reduceLE, Int.reduceAdd, Int.reduceMul, Int.reduceSub, Int.reduceNeg, Int.reduceEq, Int.reducePow, Int.reduceMod, Int.reduceDiv, Int.reduceToNat, decide_true, decide_false, and_true, true_and, and_self, Option.some.injEq]) (by omega) (by omega)) (fun _ => gd_nil _) (by rw [sizeLine_eq, List.length_range]; omega) fun j hj => ⟨_, rfl, fun acc => ?_⟩
      have jl := List.mem_range.mp hj
      have mk : mulOk (0 + (j : Int) * 1 + 2) 742938285 = true := mulOk_of (by omega) (by decide)
      have dd := dr ((0 + (j : Int) * 1 + 2) * 742938285) n (s1 ++ [PO.lst acc]) (by omega) (by omega)
      have gr : (s1 ++ [PO.lst acc])[r]? = some (.lst (ts.map Tm.Tm.pv)) := getOld s1r
      simp only [E, b_L_drawn_e1, wipeE, seqS, ifS, setS, augS, dropS, retS, retN, nxS, bkS, ctS, asgS, subS, R.toS, R.bind, R.of, opF, unF, varF, cstF, chF, isB, asB, andT, orT, notT, andF, orF, notF, ifF, nilA, consA, tupF, lstF, cbF, callF, bmF', truT, truV, nameG, nilG, consG, tupG, List.set_cons_zero, List.set_cons_succ, List.getElem?_cons_zero, List.getElem?_cons_succ, Option.bind_some, Option.bind_none, Option.map_some, Option.map_none, List.length_cons, List.length_nil, List.cons_append, List.nil_append, List.append_nil, if_true, if_false, ite_true, ite_false, Bool.false_eq_true, reduceIte, reduceCtorEq, List.map_cons, List.map_nil, Nat.sub_self, List.replicate_succ, List.replicate_zero, Nat.reduceSub, Nat.reduceAdd, Nat.reduceLT, Nat.reduceLeDiff, Nat.reduceEqDiff, Nat.reduceMul, Nat.reducePow, Int.reduceLT, Int.reduceLE, Int.reduceAdd, Int.reduceMul, Int.reduceSub, Int.reduceNeg, Int.reduceEq, Int.reducePow, Int.reduceMod, Int.reduceDiv, Int.reduceToNat, decide_true, decide_false, and_true, true_and, and_self, Option.some.injEq, addV, iaddV, subV, mulV, fdivV, modV, powV, negV, cmpV, isNonV, notNonV, mk, dd, Function.comp, lenV, gr, List.length_map]
    have ga : (Tm.Tm.of x as).Good ts.length := ⟨ax, by simp [as]; omega, fun z hz => by
      obtain ⟨j, _, rfl⟩ := List.mem_map.mp hz
      have := draw_lt c ((0 + (j : Int) * 1 + 2) * 742938285) n (by omega)
      omega⟩
    have na : Ne (Tm.Tm.of x as) := by
      show as ≠ []
      intro z
      have := congrArg List.length z
      simp [as] at this
      omega
    obtain ⟨ts', q1, q2, q3, q4⟩ := last (.of x as) ([.lst []] ++ [.lst (as.map PV.int)]) (some (.int k)) (some (.int n)) (some (.ref s1.length)) x7 ga na
    refine ⟨some (Tm.Tm.of x as).pv, some (.int k), some (.int n), some (.ref s1.length), x7, [.lst []] ++ [.lst (as.map PV.int)], ts', ?_, q2, q3, q4⟩
    · unfold b_L_drawn_s2
      refine (seqS_nx first).trans ((seqS_nx (e1 := E (some (Tm.Tm.of x as).pv) (some (.int k)) (some (.int n)) (some (.ref s1.length)) x7) (s1 := s1 ++ [.lst (as.map PV.int)]) ((ifS_t (s1 := s1) ?_).trans ?_)).trans ?_)
      · have hne' : decide (ts = []) = false := decide_eq_false hne
        simp only [E, seqS, ifS, setS, augS, dropS, retS, retN, nxS, bkS, ctS, asgS, subS, R.toS, R.bind, R.of, opF, unF, varF, cstF, chF, isB, asB, andT, orT, notT, andF, orF, notF, ifF, nilA, consA, tupF, lstF, cbF, callF, bmF', truT, truV, nameG, nilG, consG, tupG, List.set_cons_zero, List.set_cons_succ, List.getElem?_cons_zero, List.getElem?_cons_succ, Option.bind_some, Option.bind_none, Option.map_some, Option.map_none, List.length_cons, List.length_nil, List.cons_append, List.nil_append, List.append_nil, if_true, if_false, ite_true, ite_false, Bool.false_eq_true, reduceIte, reduceCtorEq, List.map_cons, List.map_nil, Nat.sub_self, List.replicate_succ, List.replicate_zero, Nat.reduceSub, Nat.reduceAdd, Nat.reduceLT, Nat.reduceLeDiff, Nat.reduceEqDiff, Nat.reduceMul, Nat.reducePow, Int.reduceLT, Int.reduceLE, Int.reduceAdd, Int.reduceMul, Int.reduceSub, Int.reduceNeg, Int.reduceEq, Int.reducePow, Int.reduceMod, Int.reduceDiv, Int.reduceToNat, decide_true, decide_false, and_true, true_and, and_self, Option.some.injEq, sizeLine_eq, nv, hne', Bool.not_false, s1, d8, gtV, cmpV, hd]
      · refine (seqS_nx (e1 := E (some l.pv) (some (.int k)) x5 x6 x7) (s1 := s1) (by simp only [E, seqS, ifS, setS, augS, dropS, retS, retN, nxS, bkS, ctS, asgS, subS, R.toS, R.bind, R.of, opF, unF, varF, cstF, chF, isB, asB, andT, orT, notT, andF, orF, notF, ifF, nilA, consA, tupF, lstF, cbF, callF, bmF', truT, truV, nameG, nilG, consG, tupG, List.set_cons_zero, List.set_cons_succ, List.getElem?_cons_zero, List.getElem?_cons_succ, Option.bind_some, Option.bind_none, Option.map_some, Option.map_none, List.length_cons, List.length_nil, List.cons_append, List.nil_append, List.append_nil, if_true, if_false, ite_true, ite_false, Bool.false_eq_true, reduceIte, reduceCtorEq, List.map_cons, List.map_nil, Nat.sub_self, List.replicate_succ, List.replicate_zero, Nat.reduceSub, Nat.reduceAdd, Nat.reduceLT, Nat.reduceLeDiff, Nat.reduceEqDiff, Nat.reduceMul, Nat.reducePow, Int.reduceLT, Int.reduceLE, Int.reduceAdd, Int.reduceMul, Int.reduceSub, Int.reduceNeg, Int.reduceEq, Int.reducePow, Int.reduceMod, Int.reduceDiv, Int.reduceToNat, decide_true, decide_false, and_true, true_and, and_self, Option.some.injEq, addV, iaddV, subV, mulV, fdivV, modV, powV, negV, cmpV, isNonV, notNonV, d13, c4, hk])).trans ?_
        refine (seqS_nx (e1 := E (some l.pv) (some (.int k)) (some (.int n)) x6 x7) (s1 := s1) (by simp only [E, seqS, ifS, setS, augS, dropS, retS, retN, nxS, bkS, ctS, asgS, subS, R.toS, R.bind, R.of, opF, unF, varF, cstF, chF, isB, asB, andT, orT, notT, andF, orF, notF, ifF, nilA, consA, tupF, lstF, cbF, callF, bmF', truT, truV, nameG, nilG, consG, tupG, List.set_cons_zero, List.set_cons_succ, List.getElem?_cons_zero, List.getElem?_cons_succ, Option.bind_some, Option.bind_none, Option.map_some, Option.map_none, List.length_cons, List.length_nil, List.cons_append, List.nil_append, List.append_nil, if_true, if_false, ite_true, ite_false, Bool.false_eq_true, reduceIte, reduceCtorEq, List.map_cons, List.map_nil, Nat.sub_self, List.replicate_succ, List.replicate_zero, Nat.reduceSub, Nat.reduceAdd, Nat.reduceLT, Nat.reduceLeDiff, Nat.reduceEqDiff, Nat.reduceMul, Nat.reducePow, Int.reduceLT, Int.reduceLE, Int.reduceAdd, Int.reduceMul, Int.reduceSub, Int.reduceNeg, Int.reduceEq, Int.reducePow, Int.reduceMod, Int.reduceDiv, Int.reduceToNat, decide_true, decide_false, and_true, true_and, and_self, Option.some.injEq, lenV, s1r, List.length_map, minV, hn])).trans ?_
        refine (seqS_nx (e1 := E (some l.pv) (some (.int k)) (some (.int n)) (some (.ref s1.length)) x7) (s1 := s1 ++ [.lst (as.map PV.int)]) (by unfold setS; rw [lc]; rfl)).trans ?_
        simp only [E, seqS, ifS, setS, augS, dropS, retS, retN, nxS, bkS, ctS, asgS, subS, R.toS, R.bind, R.of, opF, unF, varF, cstF, chF, isB, asB, andT, orT, notT, andF, orF, notF, ifF, nilA, consA, tupF, lstF, cbF, callF, bmF', truT, truV, nameG, nilG, consG, tupG, List.set_cons_zero, List.set_cons_succ, List.getElem?_cons_zero, List.getElem?_cons_succ, Option.bind_some, Option.bind_none, Option.map_some, Option.map_none, List.length_cons, List.length_nil, List.cons_append, List.nil_append, List.append_nil, if_true, if_false, ite_true, ite_false, Bool.false_eq_true, reduceIte, reduceCtorEq, List.map_cons, List.map_nil, Nat.sub_self, List.replicate_succ, List.replicate_zero, Nat.reduceSub, Nat.reduceAdd, Nat.reduceLT, Nat.reduceLeDiff, Nat.reduceEqDiff, Nat.reduceMul, Nat.reducePow, Int.reduceLT, Int.reduceLE, Int.reduceAdd, Int.reduceMul, Int.reduceSub, Int.reduceNeg, Int.reduceEq, Int.reducePow, Int.reduceMod, Int.reduceDiv, Int.reduceToNat, decide_true, decide_false, and_true, true_and, and_self, Option.some.injEq, d3, hx, tupleV, seqAt, lstAt, getS0, sizeLine_eq, Tm.Tm.pv]
      · rw [show s1 ++ [PO.lst (as.map PV.int)] = s ++ ([.lst []] ++ [.lst (as.map PV.int)]) from List.append_assoc ..]
        exact q1
  · have hcl : ∀ g, (ifS (andT (isB (opF neV (varF 1) (lstF nilA))) (isB (opF gtV (callF 3 F_L_draw [] (consA (varF 2) (consA (cstF (.int 48271)) (consA (cstF (.int 8)) nilA)))) (cstF (.int 0))))) g nxS) (E (some l.pv) x4 x5 x6 x7) s = .nx (E (some l.pv) x4 x5 x6 x7) (s ++ [.lst []]) := fun g => by
      by_cases hne : ts = []
      · have e1 : decide (ts = []) = true := decide_eq_true hne
        simp only [E, seqS, ifS, setS, augS, dropS, retS, retN, nxS, bkS, ctS, asgS, subS, R.toS, R.bind, R.of, opF, unF, varF, cstF, chF, isB, asB, andT, orT, notT, andF, orF, notF, ifF, nilA, consA, tupF, lstF, cbF, callF, bmF', truT, truV, nameG, nilG, consG, tupG, List.set_cons_zero, List.set_cons_succ, List.getElem?_cons_zero, List.getElem?_cons_succ, Option.bind_some, Option.bind_none, Option.map_some, Option.map_none, List.length_cons, List.length_nil, List.cons_append, List.nil_append, List.append_nil, if_true, if_false, ite_true, ite_false, Bool.false_eq_true, reduceIte, reduceCtorEq, List.map_cons, List.map_nil, Nat.sub_self, List.replicate_succ, List.replicate_zero, Nat.reduceSub, Nat.reduceAdd, Nat.reduceLT, Nat.reduceLeDiff, Nat.reduceEqDiff, Nat.reduceMul, Nat.reducePow, Int.reduceLT, Int.reduceLE, Int.reduceAdd, Int.reduceMul, Int.reduceSub, Int.reduceNeg, Int.reduceEq, Int.reducePow, Int.reduceMod, Int.reduceDiv, Int.reduceToNat, decide_true, decide_false, and_true, true_and, and_self, Option.some.injEq, sizeLine_eq, nv, e1, Bool.not_true]
      · have hd : ¬ drawI c 48271 8 > 0 := fun z => hc ⟨hne, z⟩
        have e1 : decide (ts = []) = false := decide_eq_false hne
        simp only [E, seqS, ifS, setS, augS, dropS, retS, retN, nxS, bkS, ctS, asgS, subS, R.toS, R.bind, R.of, opF, unF, varF, cstF, chF, isB, asB, andT, orT, notT, andF, orF, notF, ifF, nilA, consA, tupF, lstF, cbF, callF, bmF', truT, truV, nameG, nilG, consG, tupG, List.set_cons_zero, List.set_cons_succ, List.getElem?_cons_zero, List.getElem?_cons_succ, Option.bind_some, Option.bind_none, Option.map_some, Option.map_none, List.length_cons, List.length_nil, List.cons_append, List.nil_append, List.append_nil, if_true, if_false, ite_true, ite_false, Bool.false_eq_true, reduceIte, reduceCtorEq, List.map_cons, List.map_nil, Nat.sub_self, List.replicate_succ, List.replicate_zero, Nat.reduceSub, Nat.reduceAdd, Nat.reduceLT, Nat.reduceLeDiff, Nat.reduceEqDiff, Nat.reduceMul, Nat.reducePow, Int.reduceLT, Int.reduceLE, Int.reduceAdd, Int.reduceMul, Int.reduceSub, Int.reduceNeg, Int.reduceEq, Int.reducePow, Int.reduceMod, Int.reduceDiv, Int.reduceToNat, decide_true, decide_false, and_true, true_and, and_self, Option.some.injEq, sizeLine_eq, nv, e1, Bool.not_false, d8, gtV, cmpV, hd]
    obtain ⟨ts', q1, q2, q3, q4⟩ := last l [.lst []] x4 x5 x6 x7 (gl _) nl
    exact ⟨_, _, _, _, _, _, ts', (seqS_nx first).trans ((seqS_nx (hcl _)).trans q1), q2, q3, q4⟩
theorem cut63 (ns : List Int) (h : ns.length ≤ 63) : cutP (ns.map PV.int) none (some 63) = ns.map PV.int := by
  unfold cutP
  rw [sIx_some (by decide), HT.sIx_none, List.drop_zero, Nat.sub_zero, List.take_of_length_le]
  rw [List.length_map]
  show ns.length ≤ min 63 _
  omega
theorem F_drawn {ns : List Int} (hns : ns.length ≤ 63) {s : Store} : ∃ ts, F_L_drawn [.frz (ns.map PV.int)] s = .ok (.ref s.length) (s ++ [.lst (ts.map Tm.Tm.pv)]) ∧ Rw ts ∧ ts.length ≤ 63 ∧ (ns ≠ [] → ts ≠ []) := by
  obtain ⟨e', s', h1, ⟨a, b, c, d, e, f, he⟩, ts, g, hs, rw', tl, tn⟩ := forL_inv (gd := [(s.length + 1, .lst (ns.map PV.int))]) (g := nameG 2) (b := b_L_drawn_s2) (xs := ns.map PV.int)
    (fun i e st => (∃ a b c d e' f, e = [some (.frz (ns.map PV.int)), some (.ref s.length), a, b, c, d, e', f]) ∧ ∃ (ts : List T) (g : Store), st = s ++ (.lst (ts.map Tm.Tm.pv) :: .lst (ns.map PV.int) :: g) ∧ Rw ts ∧ ts.length ≤ i ∧ (i ≠ 0 → ts ≠ []))
    (e := [some (.frz (ns.map PV.int)), some (.ref s.length), none, none, none, none, none, none]) (st := s ++ [.lst [], .lst (ns.map PV.int)])
    ⟨⟨_, _, _, _, _, _, rfl⟩, [], [], rfl, Rw.nil, Nat.le_refl _, fun h => absurd rfl h⟩
    (fun i x e st hx ⟨⟨a, b, c, d, e', f, he⟩, ts, g, hs, hr, hl, _⟩ => by
      subst he hs
      rw [List.getElem?_map] at hx
      obtain ⟨z, hz, rfl⟩ := Option.map_eq_some_iff.mp hx
      have il : i < ns.length := (List.getElem?_eq_some_iff.mp hz).1
      obtain ⟨y3, y4, y5, y6, y7, g', ts', q1, q2, q3, q4⟩ := drawn_row (ns := ns) hr (by omega) (r := s.length) (c := z) (s := s ++ (.lst (ts.map Tm.Tm.pv) :: .lst (ns.map PV.int) :: g)) (x3 := b) (x4 := c) (x5 := d) (x6 := e') (x7 := f) getS0
      refine ⟨gd1 (by rw [getS]; rfl), _, rfl, _, _, q1, ⟨_, _, _, _, _, _, rfl⟩, ts', g ++ g', ?_, q2, by omega, fun _ => q3⟩
      rw [List.append_assoc, setS0_app, List.cons_append, List.set_cons_zero, List.cons_append])
    (fun e st ⟨_, ts, g, h, _⟩ => by subst h; exact gd1 (by rw [getS]; rfl))
  subst he hs
  rw [List.length_map] at tl tn
  refine ⟨ts, ?_, rw', by omega, fun h => tn fun z => h (List.length_eq_zero_iff.mp z)⟩
  have cut := cut63 ns hns
  have hi : seqI (sliF (varF 0) noO (someO (cstF (.int 63)))) [some (.frz (ns.map PV.int)), some (.ref s.length), none, none, none, none, none, none] (s ++ [.lst []]) = .ok ⟨ns.map PV.int, [(s.length + 1, .lst (ns.map PV.int))]⟩ (s ++ [.lst [], .lst (ns.map PV.int)]) := by
    simp only [seqI, sliF, noO, someO, asI, slV, seqS, ifS, setS, augS, dropS, retS, retN, nxS, bkS, ctS, asgS, subS, R.toS, R.bind, R.of, opF, unF, varF, cstF, chF, isB, asB, andT, orT, notT, andF, orF, notF, ifF, nilA, consA, tupF, lstF, cbF, callF, bmF', truT, truV, nameG, nilG, consG, tupG, List.set_cons_zero, List.set_cons_succ, List.getElem?_cons_zero, List.getElem?_cons_succ, Option.bind_some, Option.bind_none, Option.map_some, Option.map_none, List.length_cons, List.length_nil, List.cons_append, List.nil_append, List.append_nil, if_true, if_false, ite_true, ite_false, Bool.false_eq_true, reduceIte, reduceCtorEq, List.map_cons, List.map_nil, Nat.sub_self, List.replicate_succ, List.replicate_zero, Nat.reduceSub, Nat.reduceAdd, Nat.reduceLT, Nat.reduceLeDiff, Nat.reduceEqDiff, Nat.reduceMul, Nat.reducePow, Int.reduceLT, Int.reduceLE, Int.reduceAdd, Int.reduceMul, Int.reduceSub, Int.reduceNeg, Int.reduceEq, Int.reducePow, Int.reduceMod, Int.reduceDiv, Int.reduceToNat, decide_true, decide_false, and_true, true_and, and_self, Option.some.injEq, seqAt, lstAt, cut, appS, lenS, getS, gdOf]
  unfold F_L_drawn
  refine run_new (g := .lst (ts.map Tm.Tm.pv) :: .lst (ns.map PV.int) :: g) (r := s.length) ?_ getS0 (Nat.le_refl _) (by simp only [objOk]; exact pures_refs _ (Ct.pvs_pure _))
  unfold b_L_drawn
  refine (seqS_nx (e1 := [some (.frz (ns.map PV.int)), some (.ref s.length), none, none, none, none, none, none]) (s1 := s ++ [.lst []]) (by simp only [seqS, ifS, setS, augS, dropS, retS, retN, nxS, bkS, ctS, asgS, subS, R.toS, R.bind, R.of, opF, unF, varF, cstF, chF, isB, asB, andT, orT, notT, andF, orF, notF, ifF, nilA, consA, tupF, lstF, cbF, callF, bmF', truT, truV, nameG, nilG, consG, tupG, List.set_cons_zero, List.set_cons_succ, List.getElem?_cons_zero, List.getElem?_cons_succ, Option.bind_some, Option.bind_none, Option.map_some, Option.map_none, List.length_cons, List.length_nil, List.cons_append, List.nil_append, List.append_nil, if_true, if_false, ite_true, ite_false, Bool.false_eq_true, reduceIte, reduceCtorEq, List.map_cons, List.map_nil, Nat.sub_self, List.replicate_succ, List.replicate_zero, Nat.reduceSub, Nat.reduceAdd, Nat.reduceLT, Nat.reduceLeDiff, Nat.reduceEqDiff, Nat.reduceMul, Nat.reducePow, Int.reduceLT, Int.reduceLE, Int.reduceAdd, Int.reduceMul, Int.reduceSub, Int.reduceNeg, Int.reduceEq, Int.reducePow, Int.reduceMod, Int.reduceDiv, Int.reduceToNat, decide_true, decide_false, and_true, true_and, and_self, Option.some.injEq, sizeLine_eq])).trans ?_
  refine (seqS_nx (e1 := [some (.frz (ns.map PV.int)), some (.ref s.length), a, b, c, d, e, f]) (s1 := s ++ (.lst (ts.map Tm.Tm.pv) :: .lst (ns.map PV.int) :: g)) ?_).trans ?_
  · unfold forS
    rw [hi, toS_ok]
    exact h1
  · simp only [seqS, ifS, setS, augS, dropS, retS, retN, nxS, bkS, ctS, asgS, subS, R.toS, R.bind, R.of, opF, unF, varF, cstF, chF, isB, asB, andT, orT, notT, andF, orF, notF, ifF, nilA, consA, tupF, lstF, cbF, callF, bmF', truT, truV, nameG, nilG, consG, tupG, List.set_cons_zero, List.set_cons_succ, List.getElem?_cons_zero, List.getElem?_cons_succ, Option.bind_some, Option.bind_none, Option.map_some, Option.map_none, List.length_cons, List.length_nil, List.cons_append, List.nil_append, List.append_nil, if_true, if_false, ite_true, ite_false, Bool.false_eq_true, reduceIte, reduceCtorEq, List.map_cons, List.map_nil, Nat.sub_self, List.replicate_succ, List.replicate_zero, Nat.reduceSub, Nat.reduceAdd, Nat.reduceLT, Nat.reduceLeDiff, Nat.reduceEqDiff, Nat.reduceMul, Nat.reducePow, Int.reduceLT, Int.reduceLE, Int.reduceAdd, Int.reduceMul, Int.reduceSub, Int.reduceNeg, Int.reduceEq, Int.reducePow, Int.reduceMod, Int.reduceDiv, Int.reduceToNat, decide_true, decide_false, and_true, true_and, and_self, Option.some.injEq]
theorem F_chain {ns : List Int} {b : Bool} {s : Store} : ∃ ts, F_L_chain [.frz (ns.map PV.int), .bl b] s = .ok (.ref s.length) (s ++ [.lst (ts.map Tm.Tm.pv)]) ∧ Rw ts ∧ ts.length ≤ 70 ∧ ts ≠ [] := by
  obtain ⟨x, hx, ax, _⟩ := Ct.F_wordW (ns := ns) (w := 1) (st := s)
  let E : Option PV → Option PV → Option PV → Env := fun a b' c => [some (.frz (ns.map PV.int)), some (.bl b), some (.str x), some (.ref s.length), a, b', c]
  let al : List (List Int) := [[0, 0, 0, 0], [1, 1, 1, 1], [2, 2, 2, 2], [3, 3, 3, 3], [4, 3, 2, 2], [5, 2, 1, 0]]
  have tok : ∀ (ts : List T), tyOk "list" (.ref s.length) (s ++ [PO.lst (ts.map Tm.Tm.pv)]) = true := fun ts => by
    have gr : (s ++ [PO.lst (ts.map Tm.Tm.pv)])[s.length]? = some (.lst (ts.map Tm.Tm.pv)) := getS0
    simp only [tyOk, gr]; rfl
  have app : ∀ (ts : List T) (as : List Int), ts.length ≤ 100 → appendV (.ref s.length) [.tup [.str "of", .str x, .tup (as.map PV.int)]] (s ++ [.lst (ts.map Tm.Tm.pv)]) = some (.non, s ++ [.lst ((ts ++ [Tm.Tm.of x as]).map Tm.Tm.pv)]) := fun ts as hl => by
    have gr : (s ++ [PO.lst (ts.map Tm.Tm.pv)])[s.length]? = some (.lst (ts.map Tm.Tm.pv)) := getS0
    have lz : (ts.map Tm.Tm.pv).length < 16777216 := by rw [List.length_map]; omega
    simp only [appendV, gr, sizeLine_eq, lz, if_true, setS0_app, List.set_cons_zero, List.map_append, List.map_cons, List.map_nil, Tm.Tm.pv]
  have alk : ∀ (i : Nat) as, al[i]? = some as → as ≠ [] ∧ as.length ≤ 4 ∧ ∀ a ∈ as, 0 ≤ a ∧ a < ((i + 1 : Nat) : Int) := fun i as h => by
    have il : i < 6 := (List.getElem?_eq_some_iff.mp h).1
    match i, h with
    | 0, h => cases h; decide
    | 1, h => cases h; decide
    | 2, h => cases h; decide
    | 3, h => cases h; decide
    | 4, h => cases h; decide
    | 5, h => cases h; decide
  -- the arms that are told
  have f1 : ∃ (ts : List T) (o : Option PV), (ifS (notT (truT (varF 1))) (forS (seqI (tupF (consA (tupF (consA (cstF (.int 0)) (consA (cstF (.int 0)) (consA (cstF (.int 0)) (consA (cstF (.int 0)) nilA))))) (consA (tupF (consA (cstF (.int 1)) (consA (cstF (.int 1)) (consA (cstF (.int 1)) (consA (cstF (.int 1)) nilA))))) (consA (tupF (consA (cstF (.int 2)) (consA (cstF (.int 2)) (consA (cstF (.int 2)) (consA (cstF (.int 2)) nilA))))) (consA (tupF (consA (cstF (.int 3)) (consA (cstF (.int 3)) (consA (cstF (.int 3)) (consA (cstF (.int 3)) nilA))))) (consA (tupF (consA (cstF (.int 4)) (consA (cstF (.int 3)) (consA (cstF (.int 2)) (consA (cstF (.int 2)) nilA))))) (consA (tupF (consA (cstF (.int 5)) (consA (cstF (.int 2)) (consA (cstF (.int 1)) (consA (cstF (.int 0)) nilA))))) nilA)))))))) (nameG 6) b_L_chain_s2) nxS) (E none none none) (s ++ [.lst [.tup [.str "name", .str x]]]) = .nx (E none none o) (s ++ [.lst (ts.map Tm.Tm.pv)]) ∧ Rw ts ∧ ts ≠ [] ∧ ts.length ≤ 7 := by
    cases hb : b with
    | true =>
      refine ⟨[Tm.Tm.name x], none, ?_, Rw.nil.app (t := Tm.Tm.name x) ax trivial, by simp, by simp⟩
      simp only [E, hb, seqS, ifS, setS, augS, dropS, retS, retN, nxS, bkS, ctS, asgS, subS, R.toS, R.bind, R.of, opF, unF, varF, cstF, chF, isB, asB, andT, orT, notT, andF, orF, notF, ifF, nilA, consA, tupF, lstF, cbF, callF, bmF', truT, truV, nameG, nilG, consG, tupG, List.set_cons_zero, List.set_cons_succ, List.getElem?_cons_zero, List.getElem?_cons_succ, Option.bind_some, Option.bind_none, Option.map_some, Option.map_none, List.length_cons, List.length_nil, List.cons_append, List.nil_append, List.append_nil, if_true, if_false, ite_true, ite_false, Bool.false_eq_true, reduceIte, reduceCtorEq, List.map_cons, List.map_nil, Nat.sub_self, List.replicate_succ, List.replicate_zero, Nat.reduceSub, Nat.reduceAdd, Nat.reduceLT, Nat.reduceLeDiff, Nat.reduceEqDiff, Nat.reduceMul, Nat.reducePow, Int.reduceLT, Int.reduceLE, Int.reduceAdd, Int.reduceMul, Int.reduceSub, Int.reduceNeg, Int.reduceEq, Int.reducePow, Int.reduceMod, Int.reduceDiv, Int.reduceToNat, decide_true, decide_false, and_true, true_and, and_self, Option.some.injEq, Bool.not_true, Tm.Tm.pv]
    | false =>
      obtain ⟨e', s', h1, ⟨o, he⟩, ts, hs, hr, hl⟩ := forL_inv (gd := []) (g := nameG 6) (b := b_L_chain_s2) (xs := al.map fun as => .tup (as.map PV.int))
        (fun i e st => (∃ o, e = E none none o) ∧ ∃ ts : List T, st = s ++ [.lst (ts.map Tm.Tm.pv)] ∧ Rw ts ∧ ts.length = i + 1)
        (e := E none none none) (st := s ++ [.lst [.tup [.str "name", .str x]]])
        ⟨⟨none, rfl⟩, [Tm.Tm.name x], rfl, Rw.nil.app (t := Tm.Tm.name x) ax trivial, rfl⟩
        (fun i z e st hx ⟨⟨o, he⟩, ts, hs, hr, hl⟩ => by
          subst he hs
          rw [List.getElem?_map] at hx
          obtain ⟨as, has, rfl⟩ := Option.map_eq_some_iff.mp hx
          have il : i < 6 := (List.getElem?_eq_some_iff.mp has).1
          obtain ⟨k1, k2, k3⟩ := alk i as has
          refine ⟨gd_nil _, _, rfl, E none none (some (.tup (as.map PV.int))), _, ?_, ⟨_, rfl⟩, ts ++ [Tm.Tm.of x as], rfl, hr.app (t := Tm.Tm.of x as) ⟨ax, k2, by rw [hl]; exact k3⟩ k1, by simp [hl]⟩
          simp only [E, b_L_chain_s2, seqS, ifS, setS, augS, dropS, retS, retN, nxS, bkS, ctS, asgS, subS, R.toS, R.bind, R.of, opF, unF, varF, cstF, chF, isB, asB, andT, orT, notT, andF, orF, notF, ifF, nilA, consA, tupF, lstF, cbF, callF, bmF', truT, truV, nameG, nilG, consG, tupG, List.set_cons_zero, List.set_cons_succ, List.getElem?_cons_zero, List.getElem?_cons_succ, Option.bind_some, Option.bind_none, Option.map_some, Option.map_none, List.length_cons, List.length_nil, List.cons_append, List.nil_append, List.append_nil, if_true, if_false, ite_true, ite_false, Bool.false_eq_true, reduceIte, reduceCtorEq, List.map_cons, List.map_nil, Nat.sub_self, List.replicate_succ, List.replicate_zero, Nat.reduceSub, Nat.reduceAdd, Nat.reduceLT, Nat.reduceLeDiff, Nat.reduceEqDiff, Nat.reduceMul, Nat.reducePow, Int.reduceLT, Int.reduceLE, Int.reduceAdd, Int.reduceMul, Int.reduceSub, Int.reduceNeg, Int.reduceEq, Int.reducePow, Int.reduceMod, Int.reduceDiv, Int.reduceToNat, decide_true, decide_false, and_true, true_and, and_self, Option.some.injEq, sizeLine_eq, tok, app ts as (by omega)])
        (fun e st _ => gd_nil _)
      subst he hs
      refine ⟨ts, o, ?_, hr, by intro z; subst z; simp at hl, by simp [al] at hl; omega⟩
      refine (ifS_t (s1 := s ++ [.lst [.tup [.str "name", .str x]]]) (by simp only [E, hb, seqS, ifS, setS, augS, dropS, retS, retN, nxS, bkS, ctS, asgS, subS, R.toS, R.bind, R.of, opF, unF, varF, cstF, chF, isB, asB, andT, orT, notT, andF, orF, notF, ifF, nilA, consA, tupF, lstF, cbF, callF, bmF', truT, truV, nameG, nilG, consG, tupG, List.set_cons_zero, List.set_cons_succ, List.getElem?_cons_zero, List.getElem?_cons_succ, Option.bind_some, Option.bind_none, Option.map_some, Option.map_none, List.length_cons, List.length_nil, List.cons_append, List.nil_append, List.append_nil, if_true, if_false, ite_true, ite_false, Bool.false_eq_true, reduceIte, reduceCtorEq, List.map_cons, List.map_nil, Nat.sub_self, List.replicate_succ, List.replicate_zero, Nat.reduceSub, Nat.reduceAdd, Nat.reduceLT, Nat.reduceLeDiff, Nat.reduceEqDiff, Nat.reduceMul, Nat.reducePow, Int.reduceLT, Int.reduceLE, Int.reduceAdd, Int.reduceMul, Int.reduceSub, Int.reduceNeg, Int.reduceEq, Int.reducePow, Int.reduceMod, Int.reduceDiv, Int.reduceToNat, decide_true, decide_false, and_true, true_and, and_self, Option.some.injEq, Bool.not_false])).trans ?_
      have hi : seqI (tupF (consA (tupF (consA (cstF (.int 0)) (consA (cstF (.int 0)) (consA (cstF (.int 0)) (consA (cstF (.int 0)) nilA))))) (consA (tupF (consA (cstF (.int 1)) (consA (cstF (.int 1)) (consA (cstF (.int 1)) (consA (cstF (.int 1)) nilA))))) (consA (tupF (consA (cstF (.int 2)) (consA (cstF (.int 2)) (consA (cstF (.int 2)) (consA (cstF (.int 2)) nilA))))) (consA (tupF (consA (cstF (.int 3)) (consA (cstF (.int 3)) (consA (cstF (.int 3)) (consA (cstF (.int 3)) nilA))))) (consA (tupF (consA (cstF (.int 4)) (consA (cstF (.int 3)) (consA (cstF (.int 2)) (consA (cstF (.int 2)) nilA))))) (consA (tupF (consA (cstF (.int 5)) (consA (cstF (.int 2)) (consA (cstF (.int 1)) (consA (cstF (.int 0)) nilA))))) nilA))))))) (E none none none) (s ++ [.lst [.tup [.str "name", .str x]]]) = .ok ⟨al.map fun as => .tup (as.map PV.int), []⟩ (s ++ [.lst [.tup [.str "name", .str x]]]) := by
        simp only [seqI, seqS, ifS, setS, augS, dropS, retS, retN, nxS, bkS, ctS, asgS, subS, R.toS, R.bind, R.of, opF, unF, varF, cstF, chF, isB, asB, andT, orT, notT, andF, orF, notF, ifF, nilA, consA, tupF, lstF, cbF, callF, bmF', truT, truV, nameG, nilG, consG, tupG, List.set_cons_zero, List.set_cons_succ, List.getElem?_cons_zero, List.getElem?_cons_succ, Option.bind_some, Option.bind_none, Option.map_some, Option.map_none, List.length_cons, List.length_nil, List.cons_append, List.nil_append, List.append_nil, if_true, if_false, ite_true, ite_false, Bool.false_eq_true, reduceIte, reduceCtorEq, List.map_cons, List.map_nil, Nat.sub_self, List.replicate_succ, List.replicate_zero, Nat.reduceSub, Nat.reduceAdd, Nat.reduceLT, Nat.reduceLeDiff, Nat.reduceEqDiff, Nat.reduceMul, Nat.reducePow, Int.reduceLT, Int.reduceLE, Int.reduceAdd, Int.reduceMul, Int.reduceSub, Int.reduceNeg, Int.reduceEq, Int.reducePow, Int.reduceMod, Int.reduceDiv, Int.reduceToNat, decide_true, decide_false, and_true, true_and, and_self, Option.some.injEq, sizeLine_eq, seqAt, gdOf, al]
      unfold forS
      rw [hi, toS_ok]
      exact h1
  obtain ⟨ts, o, f1, hr, hne, hl⟩ := f1
  obtain ⟨m, hm, f2⟩ : ∃ m : Nat, m ≤ 62 ∧ ∀ st, (ifS (truT (varF 1)) (setS 4 (cstF (.int 62))) nxS) (E (some (.int 6)) none o) st = .nx (E (some (.int (m : Int))) none o) st := by
    cases hb : b with
    | true => exact ⟨62, by omega, fun st => by simp only [E, hb, seqS, ifS, setS, augS, dropS, retS, retN, nxS, bkS, ctS, asgS, subS, R.toS, R.bind, R.of, opF, unF, varF, cstF, chF, isB, asB, andT, orT, notT, andF, orF, notF, ifF, nilA, consA, tupF, lstF, cbF, callF, bmF', truT, truV, nameG, nilG, consG, tupG, List.set_cons_zero, List.set_cons_succ, List.getElem?_cons_zero, List.getElem?_cons_succ, Option.bind_some, Option.bind_none, Option.map_some, Option.map_none, List.length_cons, List.length_nil, List.cons_append, List.nil_append, List.append_nil, if_true, if_false, ite_true, ite_false, Bool.false_eq_true, reduceIte, reduceCtorEq, List.map_cons, List.map_nil, Nat.sub_self, List.replicate_succ, List.replicate_zero, Nat.reduceSub, Nat.reduceAdd, Nat.reduceLT, Nat.reduceLeDiff, Nat.reduceEqDiff, Nat.reduceMul, Nat.reducePow, Int.reduceLT, Int.reduceLE, Int.reduceAdd, Int.reduceMul, Int.reduceSub, Int.reduceNeg, Int.reduceEq, Int.reducePow, Int.reduceMod, Int.reduceDiv, Int.reduceToNat, decide_true, decide_false, and_true, true_and, and_self, Option.some.injEq]; rfl⟩
    | false => exact ⟨6, by omega, fun st => by simp only [E, hb, seqS, ifS, setS, augS, dropS, retS, retN, nxS, bkS, ctS, asgS, subS, R.toS, R.bind, R.of, opF, unF, varF, cstF, chF, isB, asB, andT, orT, notT, andF, orF, notF, ifF, nilA, consA, tupF, lstF, cbF, callF, bmF', truT, truV, nameG, nilG, consG, tupG, List.set_cons_zero, List.set_cons_succ, List.getElem?_cons_zero, List.getElem?_cons_succ, Option.bind_some, Option.bind_none, Option.map_some, Option.map_none, List.length_cons, List.length_nil, List.cons_append, List.nil_append, List.append_nil, if_true, if_false, ite_true, ite_false, Bool.false_eq_true, reduceIte, reduceCtorEq, List.map_cons, List.map_nil, Nat.sub_self, List.replicate_succ, List.replicate_zero, Nat.reduceSub, Nat.reduceAdd, Nat.reduceLT, Nat.reduceLeDiff, Nat.reduceEqDiff, Nat.reduceMul, Nat.reducePow, Int.reduceLT, Int.reduceLE, Int.reduceAdd, Int.reduceMul, Int.reduceSub, Int.reduceNeg, Int.reduceEq, Int.reducePow, Int.reduceMod, Int.reduceDiv, Int.reduceToNat, decide_true, decide_false, and_true, true_and, and_self, Option.some.injEq]; rfl⟩
  obtain ⟨e', s', f3, ⟨a, he⟩, ts', hs, hr', hne', hl'⟩ := for_rng (f := consA (varF 4) nilA) (i0 := 5) (b := b_L_chain_s1) (e := E (some (.int (m : Int))) none o) (st := s ++ [.lst (ts.map Tm.Tm.pv)]) (n := m) (fun _ e => ∃ a, e = E (some (.int (m : Int))) a o)
    (fun i st => ∃ ts : List T, st = s ++ [.lst (ts.map Tm.Tm.pv)] ∧ Rw ts ∧ ts ≠ [] ∧ ts.length ≤ 7 + i) (by simp only [E, seqS, ifS, setS, augS, dropS, retS, retN, nxS, bkS, ctS, asgS, subS, R.toS, R.bind, R.of, opF, unF, varF, cstF, chF, isB, asB, andT, orT, notT, andF, orF, notF, ifF, nilA, consA, tupF, lstF, cbF, callF, bmF', truT, truV, nameG, nilG, consG, tupG, List.set_cons_zero, List.set_cons_succ, List.getElem?_cons_zero, List.getElem?_cons_succ, Option.bind_some, Option.bind_none, Option.map_some, Option.map_none, List.length_cons, List.length_nil, List.cons_append, List.nil_append, List.append_nil, if_true, if_false, ite_true, ite_false, Bool.false_eq_true, reduceIte, reduceCtorEq, List.map_cons, List.map_nil, Nat.sub_self, List.replicate_succ, List.replicate_zero, Nat.reduceSub, Nat.reduceAdd, Nat.reduceLT, Nat.reduceLeDiff, Nat.reduceEqDiff, Nat.reduceMul, Nat.reducePow, Int.reduceLT, Int.reduceLE, Int.reduceAdd, Int.reduceMul, Int.reduceSub, Int.reduceNeg, Int.reduceEq, Int.reducePow, Int.reduceMod, Int.reduceDiv, Int.reduceToNat, decide_true, decide_false, and_true, true_and, and_self, Option.some.injEq]) (by omega) ⟨none, rfl⟩ ⟨ts, rfl, hr, hne, hl⟩
    (fun i e st hi ⟨a, he⟩ ⟨ts, hs, hr, hne, hl⟩ => by
      subst he hs
      have lp : 0 < ts.length := List.length_pos_iff.mpr hne
      have gr : (s ++ [PO.lst (ts.map Tm.Tm.pv)])[s.length]? = some (.lst (ts.map Tm.Tm.pv)) := getS0
      refine ⟨E (some (.int (m : Int))) (some (.int (i : Int))) o, _, ?_, ⟨_, rfl⟩, ts ++ [Tm.Tm.of x [(ts.length : Int) - 1]], rfl, hr.app (t := Tm.Tm.of x [(ts.length : Int) - 1]) ⟨ax, by simp, fun a ha => by
        rw [List.mem_singleton] at ha; omega⟩ (List.cons_ne_nil _ _), by simp, by rw [List.length_append, List.length_singleton]; omega⟩
      have ap := app ts [(ts.length : Int) - 1] (by omega)
      simp only [List.map_cons, List.map_nil] at ap
      simp only [E, b_L_chain_s1, seqS, ifS, setS, augS, dropS, retS, retN, nxS, bkS, ctS, asgS, subS, R.toS, R.bind, R.of, opF, unF, varF, cstF, chF, isB, asB, andT, orT, notT, andF, orF, notF, ifF, nilA, consA, tupF, lstF, cbF, callF, bmF', truT, truV, nameG, nilG, consG, tupG, List.set_cons_zero, List.set_cons_succ, List.getElem?_cons_zero, List.getElem?_cons_succ, Option.bind_some, Option.bind_none, Option.map_some, Option.map_none, List.length_cons, List.length_nil, List.cons_append, List.nil_append, List.append_nil, if_true, if_false, ite_true, ite_false, Bool.false_eq_true, reduceIte, reduceCtorEq, List.map_cons, List.map_nil, Nat.sub_self, List.replicate_succ, List.replicate_zero, Nat.reduceSub, Nat.reduceAdd, Nat.reduceLT, Nat.reduceLeDiff, Nat.reduceEqDiff, Nat.reduceMul, Nat.reducePow, Int.reduceLT, Int.reduceLE, Int.reduceAdd, Int.reduceMul, Int.reduceSub, Int.reduceNeg, Int.reduceEq, Int.reducePow, Int.reduceMod, Int.reduceDiv, Int.reduceToNat, decide_true, decide_false, and_true, true_and, and_self, Option.some.injEq, addV, iaddV, subV, mulV, fdivV, modV, powV, negV, cmpV, isNonV, notNonV, lenV, gr, List.length_map, sizeLine_eq, tok, ap])
  subst he hs
  refine ⟨ts', ?_, hr', by omega, hne'⟩
  unfold F_L_chain
  refine run_new (g := [.lst (ts'.map Tm.Tm.pv)]) (r := s.length) ?_ getS0 (Nat.le_refl _) (by simp only [objOk]; exact pures_refs _ (Ct.pvs_pure _))
  unfold b_L_chain
  refine (seqS_nx (e1 := [some (.frz (ns.map PV.int)), some (.bl b), some (.str x), none, none, none, none]) (s1 := s) (by simp only [seqS, ifS, setS, augS, dropS, retS, retN, nxS, bkS, ctS, asgS, subS, R.toS, R.bind, R.of, opF, unF, varF, cstF, chF, isB, asB, andT, orT, notT, andF, orF, notF, ifF, nilA, consA, tupF, lstF, cbF, callF, bmF', truT, truV, nameG, nilG, consG, tupG, List.set_cons_zero, List.set_cons_succ, List.getElem?_cons_zero, List.getElem?_cons_succ, Option.bind_some, Option.bind_none, Option.map_some, Option.map_none, List.length_cons, List.length_nil, List.cons_append, List.nil_append, List.append_nil, if_true, if_false, ite_true, ite_false, Bool.false_eq_true, reduceIte, reduceCtorEq, List.map_cons, List.map_nil, Nat.sub_self, List.replicate_succ, List.replicate_zero, Nat.reduceSub, Nat.reduceAdd, Nat.reduceLT, Nat.reduceLeDiff, Nat.reduceEqDiff, Nat.reduceMul, Nat.reducePow, Int.reduceLT, Int.reduceLE, Int.reduceAdd, Int.reduceMul, Int.reduceSub, Int.reduceNeg, Int.reduceEq, Int.reducePow, Int.reduceMod, Int.reduceDiv, Int.reduceToNat, decide_true, decide_false, and_true, true_and, and_self, Option.some.injEq, hx])).trans ?_
  refine (seqS_nx (e1 := E none none none) (s1 := s ++ [.lst [.tup [.str "name", .str x]]]) (by simp only [seqS, ifS, setS, augS, dropS, retS, retN, nxS, bkS, ctS, asgS, subS, R.toS, R.bind, R.of, opF, unF, varF, cstF, chF, isB, asB, andT, orT, notT, andF, orF, notF, ifF, nilA, consA, tupF, lstF, cbF, callF, bmF', truT, truV, nameG, nilG, consG, tupG, List.set_cons_zero, List.set_cons_succ, List.getElem?_cons_zero, List.getElem?_cons_succ, Option.bind_some, Option.bind_none, Option.map_some, Option.map_none, List.length_cons, List.length_nil, List.cons_append, List.nil_append, List.append_nil, if_true, if_false, ite_true, ite_false, Bool.false_eq_true, reduceIte, reduceCtorEq, List.map_cons, List.map_nil, Nat.sub_self, List.replicate_succ, List.replicate_zero, Nat.reduceSub, Nat.reduceAdd, Nat.reduceLT, Nat.reduceLeDiff, Nat.reduceEqDiff, Nat.reduceMul, Nat.reducePow, Int.reduceLT, Int.reduceLE, Int.reduceAdd, Int.reduceMul, Int.reduceSub, Int.reduceNeg, Int.reduceEq, Int.reducePow, Int.reduceMod, Int.reduceDiv, Int.reduceToNat, decide_true, decide_false, and_true, true_and, and_self, Option.some.injEq, sizeLine_eq]; rfl)).trans ?_
  refine (seqS_nx f1).trans ?_
  refine (seqS_nx (e1 := E (some (.int 6)) none o) (s1 := s ++ [.lst (ts.map Tm.Tm.pv)]) (by simp only [E, seqS, ifS, setS, augS, dropS, retS, retN, nxS, bkS, ctS, asgS, subS, R.toS, R.bind, R.of, opF, unF, varF, cstF, chF, isB, asB, andT, orT, notT, andF, orF, notF, ifF, nilA, consA, tupF, lstF, cbF, callF, bmF', truT, truV, nameG, nilG, consG, tupG, List.set_cons_zero, List.set_cons_succ, List.getElem?_cons_zero, List.getElem?_cons_succ, Option.bind_some, Option.bind_none, Option.map_some, Option.map_none, List.length_cons, List.length_nil, List.cons_append, List.nil_append, List.append_nil, if_true, if_false, ite_true, ite_false, Bool.false_eq_true, reduceIte, reduceCtorEq, List.map_cons, List.map_nil, Nat.sub_self, List.replicate_succ, List.replicate_zero, Nat.reduceSub, Nat.reduceAdd, Nat.reduceLT, Nat.reduceLeDiff, Nat.reduceEqDiff, Nat.reduceMul, Nat.reducePow, Int.reduceLT, Int.reduceLE, Int.reduceAdd, Int.reduceMul, Int.reduceSub, Int.reduceNeg, Int.reduceEq, Int.reducePow, Int.reduceMod, Int.reduceDiv, Int.reduceToNat, decide_true, decide_false, and_true, true_and, and_self, Option.some.injEq])).trans ?_
  refine (seqS_nx (f2 _)).trans ?_
  refine (seqS_nx f3).trans ?_
  simp only [E, seqS, ifS, setS, augS, dropS, retS, retN, nxS, bkS, ctS, asgS, subS, R.toS, R.bind, R.of, opF, unF, varF, cstF, chF, isB, asB, andT, orT, notT, andF, orF, notF, ifF, nilA, consA, tupF, lstF, cbF, callF, bmF', truT, truV, nameG, nilG, consG, tupG, List.set_cons_zero, List.set_cons_succ, List.getElem?_cons_zero, List.getElem?_cons_succ, Option.bind_some, Option.bind_none, Option.map_some, Option.map_none, List.length_cons, List.length_nil, List.cons_append, List.nil_append, List.append_nil, if_true, if_false, ite_true, ite_false, Bool.false_eq_true, reduceIte, reduceCtorEq, List.map_cons, List.map_nil, Nat.sub_self, List.replicate_succ, List.replicate_zero, Nat.reduceSub, Nat.reduceAdd, Nat.reduceLT, Nat.reduceLeDiff, Nat.reduceEqDiff, Nat.reduceMul, Nat.reducePow, Int.reduceLT, Int.reduceLE, Int.reduceAdd, Int.reduceMul, Int.reduceSub, Int.reduceNeg, Int.reduceEq, Int.reducePow, Int.reduceMod, Int.reduceDiv, Int.reduceToNat, decide_true, decide_false, and_true, true_and, and_self, Option.some.injEq]
/-! ### the law -/
theorem dk_pz (p : Int × Int) : dk 2 (pz p) = true := rfl
theorem ne_pz {p : Int × Int} {s : Store} : neV (pz p) (pz p) s = some (.bl false, s) := by
  rw [ne_dk (dk_pz p) (dk_pz p)]
  simp
theorem loop_ok {ns : List Int} {ts : List T} (hr : Rw ts) (hl : ts.length ≤ 70) {r : Nat} {s : Store} (hs : s[r]? = some (.lst (ts.map Tm.Tm.pv))) :
    ∃ e' g, (forS (rng1I (consA (cbF minV (consA (cstF (.int 6)) (consA (cbF lenV (consA (varF 1) nilA)) nilA))) nilA)) (nameG 3) b_law_k14_s2) [some (.frz (ns.map PV.int)), some (.ref r), some (.ref s.length), none, none, none, none] (s ++ [.lst ((szs ts).map pz)]) = .nx e' g := by
  have rl : r < s.length := (List.getElem?_eq_some_iff.mp hs).1
  let E : Option PV → Option PV → Option PV → Option PV → Env := fun a b c d => [some (.frz (ns.map PV.int)), some (.ref r), some (.ref s.length), a, b, c, d]
  let D : PO := .lst ((szs ts).map pz)
  have hat : ∀ (k : Int) st, 0 ≤ k → F_L_at [.frz (ns.map PV.int), .int k] st = .ok (.int (ns.getD k.toNat 0)) st := fun k st h => Ct.F_at h
  have gr : ∀ g, (s ++ ([D] ++ g))[r]? = some (.lst (ts.map Tm.Tm.pv)) := fun g => getOld hs
  have gd : ∀ g, (s ++ ([D] ++ g))[s.length]? = some D := fun g => getS0
  obtain ⟨e', s', h, _, _⟩ := for_rng (f := consA (cbF minV (consA (cstF (.int 6)) (consA (cbF lenV (consA (varF 1) nilA)) nilA))) nilA) (i0 := 3) (b := b_law_k14_s2) (e := E none none none none) (st := s ++ [D]) (n := min 6 ts.length) (fun _ e => ∃ a b c d, e = E a b c d) (fun _ st => ∃ g, st = s ++ ([D] ++ g))
    (by
      have g0 := gr []
      rw [List.append_nil] at g0
      have e : ((min 6 ts.length : Nat) : Int) = min 6 (ts.length : Int) := by omega
      simp only [E, seqS, ifS, setS, augS, dropS, retS, retN, nxS, bkS, ctS, asgS, subS, R.toS, R.bind, R.of, opF, unF, varF, cstF, chF, isB, asB, andT, orT, notT, andF, orF, notF, ifF, nilA, consA, tupF, lstF, cbF, callF, bmF', truT, truV, nameG, nilG, consG, tupG, List.set_cons_zero, List.set_cons_succ, List.getElem?_cons_zero, List.getElem?_cons_succ, Option.bind_some, Option.bind_none, Option.map_some, Option.map_none, List.length_cons, List.length_nil, List.cons_append, List.nil_append, List.append_nil, if_true, if_false, ite_true, ite_false, Bool.false_eq_true, reduceIte, reduceCtorEq, List.map_cons, List.map_nil, Nat.sub_self, List.replicate_succ, List.replicate_zero, Nat.reduceSub, Nat.reduceAdd, Nat.reduceLT, Nat.reduceLeDiff, Nat.reduceEqDiff, Nat.reduceMul, Nat.reducePow, Int.reduceLT, Int.reduceLE, Int.reduceAdd, Int.reduceMul, Int.reduceSub, Int.reduceNeg, Int.reduceEq, Int.reducePow, Int.reduceMod, Int.reduceDiv, Int.reduceToNat, decide_true, decide_false, and_true, true_and, and_self, Option.some.injEq, lenV, g0, List.length_map, minV, e]) (by omega) ⟨_, _, _, _, rfl⟩ ⟨[], by rw [List.append_nil]⟩
    (fun j e st hj ⟨a, b, c, d, he⟩ ⟨g, hst⟩ => by
      subst he hst
      let st : Store := s ++ ([D] ++ g)
      have gr0 : st[r]? = some (.lst (ts.map Tm.Tm.pv)) := gr g
      -- the number
      obtain ⟨k, hk, f1⟩ : ∃ k : Nat, k < ts.length ∧ ∀ h : FS, seqS (setS 4 (opF subV (opF subV (cbF lenV (consA (varF 1) nilA)) (cstF (.int 1))) (varF 3))) (seqS (ifS (isB (opF eqV (opF modV (callF 2 F_L_at [] (consA (varF 0) (consA (cstF (.int 0)) nilA))) (cstF (.int 3))) (cstF (.int 0)))) (setS 4 (callF 3 F_L_draw [] (consA (callF 2 F_L_at [] (consA (varF 0) (consA (varF 3) nilA))) (consA (cstF (.int 22695477)) (consA (cbF lenV (consA (varF 1) nilA)) nilA))))) nxS) h) (E (some (.int (j : Int))) b c d) st = h (E (some (.int (j : Int))) (some (.int (k : Int))) c d) st := by
        have c3 : (0 < (3 : Int) ∧ (3 : Int).natAbs.log2 < 9000) := by decide
        have a0 := fun st => hat 0 st (by decide)
        have aj := fun st => hat (j : Int) st (by omega)
        have s1 : setS 4 (opF subV (opF subV (cbF lenV (consA (varF 1) nilA)) (cstF (.int 1))) (varF 3)) (E (some (.int (j : Int))) b c d) st = .nx (E (some (.int (j : Int))) (some (.int ((ts.length : Int) - 1 - j))) c d) st := by
          simp only [E, seqS, ifS, setS, augS, dropS, retS, retN, nxS, bkS, ctS, asgS, subS, R.toS, R.bind, R.of, opF, unF, varF, cstF, chF, isB, asB, andT, orT, notT, andF, orF, notF, ifF, nilA, consA, tupF, lstF, cbF, callF, bmF', truT, truV, nameG, nilG, consG, tupG, List.set_cons_zero, List.set_cons_succ, List.getElem?_cons_zero, List.getElem?_cons_succ, Option.bind_some, Option.bind_none, Option.map_some, Option.map_none, List.length_cons, List.length_nil, List.cons_append, List.nil_append, List.append_nil, if_true, if_false, ite_true, ite_false, Bool.false_eq_true, reduceIte, reduceCtorEq, List.map_cons, List.map_nil, Nat.sub_self, List.replicate_succ, List.replicate_zero, Nat.reduceSub, Nat.reduceAdd, Nat.reduceLT, Nat.reduceLeDiff, Nat.reduceEqDiff, Nat.reduceMul, Nat.reducePow, Int.reduceLT, Int.reduceLE, Int.reduceAdd, Int.reduceMul, Int.reduceSub, Int.reduceNeg, Int.reduceEq, Int.reducePow, Int.reduceMod, Int.reduceDiv, Int.reduceToNat, decide_true, decide_false, and_true, true_and, and_self, Option.some.injEq, addV, iaddV, subV, mulV, fdivV, modV, powV, negV, cmpV, isNonV, notNonV, lenV, gr0, List.length_map]
        by_cases q : ns.getD 0 0 % 3 = 0
        · have dd := fun st => Ct.F_draw (c := ns.getD (j : Int).toNat 0) (f := 22695477) (m := (ts.length : Int)) (st := st) (by decide) (by omega)
          have z := Ct.draw_lt (ns.getD (j : Int).toNat 0) 22695477 (ts.length : Int) (by omega)
          refine ⟨(Ct.drawI (ns.getD (j : Int).toNat 0) 22695477 (ts.length : Int)).toNat, by omega, fun h => (seqS_nx s1).trans ?_⟩
          rw [show (((Ct.drawI (ns.getD (j : Int).toNat 0) 22695477 (ts.length : Int)).toNat : Nat) : Int) = Ct.drawI (ns.getD (j : Int).toNat 0) 22695477 (ts.length : Int) by omega]
          refine (seqS_nx ((ifS_t (s1 := st) ?_).trans ?_))
          · simp only [E, seqS, ifS, setS, augS, dropS, retS, retN, nxS, bkS, ctS, asgS, subS, R.toS, R.bind, R.of, opF, unF, varF, cstF, chF, isB, asB, andT, orT, notT, andF, orF, notF, ifF, nilA, consA, tupF, lstF, cbF, callF, bmF', truT, truV, nameG, nilG, consG, tupG, List.set_cons_zero, List.set_cons_succ, List.getElem?_cons_zero, List.getElem?_cons_succ, Option.bind_some, Option.bind_none, Option.map_some, Option.map_none, List.length_cons, List.length_nil, List.cons_append, List.nil_append, List.append_nil, if_true, if_false, ite_true, ite_false, Bool.false_eq_true, reduceIte, reduceCtorEq, List.map_cons, List.map_nil, Nat.sub_self, List.replicate_succ, List.replicate_zero, Nat.reduceSub, Nat.reduceAdd, Nat.reduceLT, Nat.reduceLeDiff, Nat.reduceEqDiff, Nat.reduceMul, Nat.reducePow, Int.reduceLT, Int.reduceLE, Int.reduceAdd, Int.reduceMul, Int.reduceSub, Int.reduceNeg, Int.reduceEq, Int.reducePow, Int.reduceMod, Int.reduceDiv, Int.reduceToNat, decide_true, decide_false, and_true, true_and, and_self, Option.some.injEq, addV, iaddV, subV, mulV, fdivV, modV, powV, negV, cmpV, isNonV, notNonV, eqV, neV, eqB, scEq, t1, t2, t3, t4, t5, t6, t7, t8, t9, t10, t11, t12, t13, t14, t15, t16, a0, Int.toNat_zero, c3, q]
          · simp only [E, seqS, ifS, setS, augS, dropS, retS, retN, nxS, bkS, ctS, asgS, subS, R.toS, R.bind, R.of, opF, unF, varF, cstF, chF, isB, asB, andT, orT, notT, andF, orF, notF, ifF, nilA, consA, tupF, lstF, cbF, callF, bmF', truT, truV, nameG, nilG, consG, tupG, List.set_cons_zero, List.set_cons_succ, List.getElem?_cons_zero, List.getElem?_cons_succ, Option.bind_some, Option.bind_none, Option.map_some, Option.map_none, List.length_cons, List.length_nil, List.cons_append, List.nil_append, List.append_nil, if_true, if_false, ite_true, ite_false, Bool.false_eq_true, reduceIte, reduceCtorEq, List.map_cons, List.map_nil, Nat.sub_self, List.replicate_succ, List.replicate_zero, Nat.reduceSub, Nat.reduceAdd, Nat.reduceLT, Nat.reduceLeDiff, Nat.reduceEqDiff, Nat.reduceMul, Nat.reducePow, Int.reduceLT, Int.reduceLE, Int.reduceAdd, Int.reduceMul, Int.reduceSub, Int.reduceNeg, Int.reduceEq, Int.reducePow, Int.reduceMod, Int.reduceDiv, Int.reduceToNat, decide_true, decide_false, and_true, true_and, and_self, Option.some.injEq, aj, lenV, gr0, List.length_map, dd]
        · refine ⟨ts.length - 1 - j, by omega, fun h => (seqS_nx s1).trans ?_⟩
          rw [show ((ts.length - 1 - j : Nat) : Int) = (ts.length : Int) - 1 - j by omega]
          refine (seqS_nx ((ifS_f (s1 := st) ?_).trans rfl))
          simp only [E, seqS, ifS, setS, augS, dropS, retS, retN, nxS, bkS, ctS, asgS, subS, R.toS, R.bind, R.of, opF, unF, varF, cstF, chF, isB, asB, andT, orT, notT, andF, orF, notF, ifF, nilA, consA, tupF, lstF, cbF, callF, bmF', truT, truV, nameG, nilG, consG, tupG, List.set_cons_zero, List.set_cons_succ, List.getElem?_cons_zero, List.getElem?_cons_succ, Option.bind_some, Option.bind_none, Option.map_some, Option.map_none, List.length_cons, List.length_nil, List.cons_append, List.nil_append, List.append_nil, if_true, if_false, ite_true, ite_false, Bool.false_eq_true, reduceIte, reduceCtorEq, List.map_cons, List.map_nil, Nat.sub_self, List.replicate_succ, List.replicate_zero, Nat.reduceSub, Nat.reduceAdd, Nat.reduceLT, Nat.reduceLeDiff, Nat.reduceEqDiff, Nat.reduceMul, Nat.reducePow, Int.reduceLT, Int.reduceLE, Int.reduceAdd, Int.reduceMul, Int.reduceSub, Int.reduceNeg, Int.reduceEq, Int.reducePow, Int.reduceMod, Int.reduceDiv, Int.reduceToNat, decide_true, decide_false, and_true, true_and, and_self, Option.some.injEq, addV, iaddV, subV, mulV, fdivV, modV, powV, negV, cmpV, isNonV, notNonV, eqV, neV, eqB, scEq, t1, t2, t3, t4, t5, t6, t7, t8, t9, t10, t11, t12, t13, t14, t15, t16, a0, Int.toNat_zero, c3, q]
      obtain ⟨p, hp⟩ : ∃ p, p = ga (szs ts) (k : Int) := ⟨_, rfl⟩
      let A : PO := .lst (ts.map Tm.Tm.pv)
      let s2 : Store := st ++ [A]
      have es2 : s2 = s ++ ([D] ++ (g ++ [A])) := by
        show s ++ ([D] ++ g) ++ [A] = _
        simp only [List.append_assoc]
      have g2 : s2[r]? = some A := getOld gr0
      have g3 : s2[st.length]? = some A := getS0
      have g4 : s2[s.length]? = some D := by rw [es2]; exact gd _
      have sz := Sz.F_size_of g3 hr (by omega) hk
      rw [← hp] at sz
      have tr' := F_tree_right hr g2 (by omega) hk
      rw [← hp] at tr'
      have ix := ix_pz (l := szs ts) (a := (k : Int)) g4 (by omega) (by rw [szs_len]; omega)
      rw [← hp] at ix
      have lz : (ts.map Tm.Tm.pv).length ≤ 16777216 := by rw [List.length_map]; omega
      obtain ⟨e3, f3, o, rfl⟩ := for_pass (fi := seqI (varF 5)) (g := nameG 6) (b := b_law_k14_s1) (e := E (some (.int (j : Int))) (some (.int (k : Int))) (some (pz p)) d) (st := s2) (s1 := s2) (xs := [.int p.1, .int p.2]) (gd := []) (fun e => ∃ o, e = E (some (.int (j : Int))) (some (.int (k : Int))) (some (pz p)) o) rfl (gd_nil _) ⟨d, rfl⟩
        (fun i x e hx ⟨o, he⟩ => by
          subst he
          have : ∃ z : Int, x = .int z := by
            match i, hx with
            | 0, hx => cases hx; exact ⟨_, rfl⟩
            | 1, hx => cases hx; exact ⟨_, rfl⟩
          obtain ⟨z, rfl⟩ := this
          exact ⟨_, rfl, E (some (.int (j : Int))) (some (.int (k : Int))) (some (pz p)) (some (.int z)), by simp only [E, b_law_k14_s1, seqS, ifS, setS, augS, dropS, retS, retN, nxS, bkS, ctS, asgS, subS, R.toS, R.bind, R.of, opF, unF, varF, cstF, chF, isB, asB, andT, orT, notT, andF, orF, notF, ifF, nilA, consA, tupF, lstF, cbF, callF, bmF', truT, truV, nameG, nilG, consG, tupG, List.set_cons_zero, List.set_cons_succ, List.getElem?_cons_zero, List.getElem?_cons_succ, Option.bind_some, Option.bind_none, Option.map_some, Option.map_none, List.length_cons, List.length_nil, List.cons_append, List.nil_append, List.append_nil, if_true, if_false, ite_true, ite_false, Bool.false_eq_true, reduceIte, reduceCtorEq, List.map_cons, List.map_nil, Nat.sub_self, List.replicate_succ, List.replicate_zero, Nat.reduceSub, Nat.reduceAdd, Nat.reduceLT, Nat.reduceLeDiff, Nat.reduceEqDiff, Nat.reduceMul, Nat.reducePow, Int.reduceLT, Int.reduceLE, Int.reduceAdd, Int.reduceMul, Int.reduceSub, Int.reduceNeg, Int.reduceEq, Int.reducePow, Int.reduceMod, Int.reduceDiv, Int.reduceToNat, decide_true, decide_false, and_true, true_and, and_self, Option.some.injEq, idxV, at0, at1, at2, at3, at4, at5, seqAt, lstAt, lenV, isiV, typV, kb1, kb2, kb3, kb4, kb5, kb6, kb7, kb8, kb9, kb10, kb11, Bool.not_true], _, rfl⟩)
      refine ⟨E (some (.int (j : Int))) (some (.int (k : Int))) (some (pz p)) o, s2, ?_, ⟨_, _, _, _, rfl⟩, g ++ [A], es2⟩
      unfold b_law_k14_s2
      show seqS _ _ (E (some (.int (j : Int))) b c d) st = _
      rw [f1]
      refine (seqS_nx (e1 := E (some (.int (j : Int))) (some (.int (k : Int))) (some (pz p)) d) (s1 := s2) (by simp only [E, seqS, ifS, setS, augS, dropS, retS, retN, nxS, bkS, ctS, asgS, subS, R.toS, R.bind, R.of, opF, unF, varF, cstF, chF, isB, asB, andT, orT, notT, andF, orF, notF, ifF, nilA, consA, tupF, lstF, cbF, callF, bmF', truT, truV, nameG, nilG, consG, tupG, List.set_cons_zero, List.set_cons_succ, List.getElem?_cons_zero, List.getElem?_cons_succ, Option.bind_some, Option.bind_none, Option.map_some, Option.map_none, List.length_cons, List.length_nil, List.cons_append, List.nil_append, List.append_nil, if_true, if_false, ite_true, ite_false, Bool.false_eq_true, reduceIte, reduceCtorEq, List.map_cons, List.map_nil, Nat.sub_self, List.replicate_succ, List.replicate_zero, Nat.reduceSub, Nat.reduceAdd, Nat.reduceLT, Nat.reduceLeDiff, Nat.reduceEqDiff, Nat.reduceMul, Nat.reducePow, Int.reduceLT, Int.reduceLE, Int.reduceAdd, Int.reduceMul, Int.reduceSub, Int.reduceNeg, Int.reduceEq, Int.reducePow, Int.reduceMod, Int.reduceDiv, Int.reduceToNat, decide_true, decide_false, and_true, true_and, and_self, Option.some.injEq, listV, seqAt, lstAt, gr0, sizeLine_eq, lz]; rw [show st ++ [PO.lst (ts.map Tm.Tm.pv)] = s2 from rfl, sz])).trans ?_
      refine (seqS_nx (e1 := E (some (.int (j : Int))) (some (.int (k : Int))) (some (pz p)) d) (s1 := s2) ?_).trans ?_
      · have i1 : isiV [pz p, .ty "tuple"] s2 = some (.bl true, s2) := rfl
        have i2 : lenV [pz p] s2 = some (.int 2, s2) := rfl
        have n2 : neV (.int 2) (.int 2) s2 = some (.bl false, s2) := by simp [neV, eqB, scEq]
        simp only [E, seqS, ifS, setS, augS, dropS, retS, retN, nxS, bkS, ctS, asgS, subS, R.toS, R.bind, R.of, opF, unF, varF, cstF, chF, isB, asB, andT, orT, notT, andF, orF, notF, ifF, nilA, consA, tupF, lstF, cbF, callF, bmF', truT, truV, nameG, nilG, consG, tupG, List.set_cons_zero, List.set_cons_succ, List.getElem?_cons_zero, List.getElem?_cons_succ, Option.bind_some, Option.bind_none, Option.map_some, Option.map_none, List.length_cons, List.length_nil, List.cons_append, List.nil_append, List.append_nil, if_true, if_false, ite_true, ite_false, Bool.false_eq_true, reduceIte, reduceCtorEq, List.map_cons, List.map_nil, Nat.sub_self, List.replicate_succ, List.replicate_zero, Nat.reduceSub, Nat.reduceAdd, Nat.reduceLT, Nat.reduceLeDiff, Nat.reduceEqDiff, Nat.reduceMul, Nat.reducePow, Int.reduceLT, Int.reduceLE, Int.reduceAdd, Int.reduceMul, Int.reduceSub, Int.reduceNeg, Int.reduceEq, Int.reducePow, Int.reduceMod, Int.reduceDiv, Int.reduceToNat, decide_true, decide_false, and_true, true_and, and_self, Option.some.injEq, i1, i2, ix, ne_pz, n2, Bool.not_true]
      refine (seqS_nx f3).trans ?_
      simp only [E, seqS, ifS, setS, augS, dropS, retS, retN, nxS, bkS, ctS, asgS, subS, R.toS, R.bind, R.of, opF, unF, varF, cstF, chF, isB, asB, andT, orT, notT, andF, orF, notF, ifF, nilA, consA, tupF, lstF, cbF, callF, bmF', truT, truV, nameG, nilG, consG, tupG, List.set_cons_zero, List.set_cons_succ, List.getElem?_cons_zero, List.getElem?_cons_succ, Option.bind_some, Option.bind_none, Option.map_some, Option.map_none, List.length_cons, List.length_nil, List.cons_append, List.nil_append, List.append_nil, if_true, if_false, ite_true, ite_false, Bool.false_eq_true, reduceIte, reduceCtorEq, List.map_cons, List.map_nil, Nat.sub_self, List.replicate_succ, List.replicate_zero, Nat.reduceSub, Nat.reduceAdd, Nat.reduceLT, Nat.reduceLeDiff, Nat.reduceEqDiff, Nat.reduceMul, Nat.reducePow, Int.reduceLT, Int.reduceLE, Int.reduceAdd, Int.reduceMul, Int.reduceSub, Int.reduceNeg, Int.reduceEq, Int.reducePow, Int.reduceMod, Int.reduceDiv, Int.reduceToNat, decide_true, decide_false, and_true, true_and, and_self, Option.some.injEq, ix, tr', Bool.not_true])
  exact ⟨e', s', h⟩
theorem body_ok {ns : List Int} (hns : ns.length ≤ 63) : ∃ g, b_law_k14 [some (.frz (ns.map PV.int)), none, none, none, none, none, none] [] = .rt (.bl true) g := by
  obtain ⟨ts, h1, hr, hl, _⟩ := F_drawn (ns := ns) hns (s := [])
  have a0 : ∀ st, F_L_at [.frz (ns.map PV.int), .int 0] st = .ok (.int (ns.getD 0 0)) st := fun st => Ct.F_at (k := 0) (by decide)
  have c3 : (0 < (3 : Int) ∧ (3 : Int).natAbs.log2 < 9000) := by decide
  let E : Option PV → Option PV → Env := fun a b => [some (.frz (ns.map PV.int)), a, b, none, none, none, none]
  obtain ⟨ts', r, s, hs, hr', hl', h2⟩ : ∃ (ts' : List T) (r : Nat) (s : Store), s[r]? = some (.lst (ts'.map Tm.Tm.pv)) ∧ Rw ts' ∧ ts'.length ≤ 70 ∧ (ifS (isB (opF gtV (opF modV (callF 2 F_L_at [] (consA (varF 0) (consA (cstF (.int 0)) nilA))) (cstF (.int 3))) (cstF (.int 0)))) (setS 1 (callF 2 F_L_chain [] (consA (varF 0) (consA (opF eqV (opF modV (callF 2 F_L_at [] (consA (varF 0) (consA (cstF (.int 0)) nilA))) (cstF (.int 3))) (cstF (.int 1))) nilA)))) nxS) (E (some (.ref 0)) none) [.lst (ts.map Tm.Tm.pv)] = .nx (E (some (.ref r)) none) s := by
    by_cases q : ns.getD 0 0 % 3 > 0
    · obtain ⟨ts', h3, hr', hl', _⟩ := F_chain (ns := ns) (b := decide (ns.getD 0 0 % 3 = 1)) (s := [.lst (ts.map Tm.Tm.pv)])
      refine ⟨ts', 1, [.lst (ts.map Tm.Tm.pv), .lst (ts'.map Tm.Tm.pv)], rfl, hr', hl', ?_⟩
      refine (ifS_t (s1 := [.lst (ts.map Tm.Tm.pv)]) (by simp only [E, seqS, ifS, setS, augS, dropS, retS, retN, nxS, bkS, ctS, asgS, subS, R.toS, R.bind, R.of, opF, unF, varF, cstF, chF, isB, asB, andT, orT, notT, andF, orF, notF, ifF, nilA, consA, tupF, lstF, cbF, callF, bmF', truT, truV, nameG, nilG, consG, tupG, List.set_cons_zero, List.set_cons_succ, List.getElem?_cons_zero, List.getElem?_cons_succ, Option.bind_some, Option.bind_none, Option.map_some, Option.map_none, List.length_cons, List.length_nil, List.cons_append, List.nil_append, List.append_nil, if_true, if_false, ite_true, ite_false, Bool.false_eq_true, reduceIte, reduceCtorEq, List.map_cons, List.map_nil, Nat.sub_self, List.replicate_succ, List.replicate_zero, Nat.reduceSub, Nat.reduceAdd, Nat.reduceLT, Nat.reduceLeDiff, Nat.reduceEqDiff, Nat.reduceMul, Nat.reducePow, Int.reduceLT, Int.reduceLE, Int.reduceAdd, Int.reduceMul, Int.reduceSub, Int.reduceNeg, Int.reduceEq, Int.reducePow, Int.reduceMod, Int.reduceDiv, Int.reduceToNat, decide_true, decide_false, and_true, true_and, and_self, Option.some.injEq, a0, modV, c3, gtV, cmpV, q])).trans ?_
      have ee : ∀ st, eqV (.int (ns.getD 0 0 % 3)) (.int 1) st = some (.bl (decide (ns.getD 0 0 % 3 = 1)), st) := fun st => rfl
      simp only [E, seqS, ifS, setS, augS, dropS, retS, retN, nxS, bkS, ctS, asgS, subS, R.toS, R.bind, R.of, opF, unF, varF, cstF, chF, isB, asB, andT, orT, notT, andF, orF, notF, ifF, nilA, consA, tupF, lstF, cbF, callF, bmF', truT, truV, nameG, nilG, consG, tupG, List.set_cons_zero, List.set_cons_succ, List.getElem?_cons_zero, List.getElem?_cons_succ, Option.bind_some, Option.bind_none, Option.map_some, Option.map_none, List.length_cons, List.length_nil, List.cons_append, List.nil_append, List.append_nil, if_true, if_false, ite_true, ite_false, Bool.false_eq_true, reduceIte, reduceCtorEq, List.map_cons, List.map_nil, Nat.sub_self, List.replicate_succ, List.replicate_zero, Nat.reduceSub, Nat.reduceAdd, Nat.reduceLT, Nat.reduceLeDiff, Nat.reduceEqDiff, Nat.reduceMul, Nat.reducePow, Int.reduceLT, Int.reduceLE, Int.reduceAdd, Int.reduceMul, Int.reduceSub, Int.reduceNeg, Int.reduceEq, Int.reducePow, Int.reduceMod, Int.reduceDiv, Int.reduceToNat, decide_true, decide_false, and_true, true_and, and_self, Option.some.injEq, a0, modV, c3, ee, h3]
    · exact ⟨ts, 0, [.lst (ts.map Tm.Tm.pv)], rfl, hr, by omega, (ifS_f (s1 := [.lst (ts.map Tm.Tm.pv)]) (by simp only [E, seqS, ifS, setS, augS, dropS, retS, retN, nxS, bkS, ctS, asgS, subS, R.toS, R.bind, R.of, opF, unF, varF, cstF, chF, isB, asB, andT, orT, notT, andF, orF, notF, ifF, nilA, consA, tupF, lstF, cbF, callF, bmF', truT, truV, nameG, nilG, consG, tupG, List.set_cons_zero, List.set_cons_succ, List.getElem?_cons_zero, List.getElem?_cons_succ, Option.bind_some, Option.bind_none, Option.map_some, Option.map_none, List.length_cons, List.length_nil, List.cons_append, List.nil_append, List.append_nil, if_true, if_false, ite_true, ite_false, Bool.false_eq_true, reduceIte, reduceCtorEq, List.map_cons, List.map_nil, Nat.sub_self, List.replicate_succ, List.replicate_zero, Nat.reduceSub, Nat.reduceAdd, Nat.reduceLT, Nat.reduceLeDiff, Nat.reduceEqDiff, Nat.reduceMul, Nat.reducePow, Int.reduceLT, Int.reduceLE, Int.reduceAdd, Int.reduceMul, Int.reduceSub, Int.reduceNeg, Int.reduceEq, Int.reducePow, Int.reduceMod, Int.reduceDiv, Int.reduceToNat, decide_true, decide_false, and_true, true_and, and_self, Option.some.injEq, a0, modV, c3, gtV, cmpV, q])).trans rfl⟩
  obtain ⟨e', g, h4⟩ := loop_ok (ns := ns) hr' hl' hs
  have h3 := Sz.F_L_sums hs hr' (by omega)
  refine ⟨g, ?_⟩
  unfold b_law_k14
  refine (seqS_nx (e1 := E (some (.ref 0)) none) (s1 := [.lst (ts.map Tm.Tm.pv)]) (by simp only [E, seqS, ifS, setS, augS, dropS, retS, retN, nxS, bkS, ctS, asgS, subS, R.toS, R.bind, R.of, opF, unF, varF, cstF, chF, isB, asB, andT, orT, notT, andF, orF, notF, ifF, nilA, consA, tupF, lstF, cbF, callF, bmF', truT, truV, nameG, nilG, consG, tupG, List.set_cons_zero, List.set_cons_succ, List.getElem?_cons_zero, List.getElem?_cons_succ, Option.bind_some, Option.bind_none, Option.map_some, Option.map_none, List.length_cons, List.length_nil, List.cons_append, List.nil_append, List.append_nil, if_true, if_false, ite_true, ite_false, Bool.false_eq_true, reduceIte, reduceCtorEq, List.map_cons, List.map_nil, Nat.sub_self, List.replicate_succ, List.replicate_zero, Nat.reduceSub, Nat.reduceAdd, Nat.reduceLT, Nat.reduceLeDiff, Nat.reduceEqDiff, Nat.reduceMul, Nat.reducePow, Int.reduceLT, Int.reduceLE, Int.reduceAdd, Int.reduceMul, Int.reduceSub, Int.reduceNeg, Int.reduceEq, Int.reducePow, Int.reduceMod, Int.reduceDiv, Int.reduceToNat, decide_true, decide_false, and_true, true_and, and_self, Option.some.injEq, h1])).trans ?_
  refine (seqS_nx h2).trans ?_
  refine (seqS_nx (e1 := E (some (.ref r)) (some (.ref s.length))) (s1 := s ++ [.lst ((szs ts').map pz)]) (by simp only [E, seqS, ifS, setS, augS, dropS, retS, retN, nxS, bkS, ctS, asgS, subS, R.toS, R.bind, R.of, opF, unF, varF, cstF, chF, isB, asB, andT, orT, notT, andF, orF, notF, ifF, nilA, consA, tupF, lstF, cbF, callF, bmF', truT, truV, nameG, nilG, consG, tupG, List.set_cons_zero, List.set_cons_succ, List.getElem?_cons_zero, List.getElem?_cons_succ, Option.bind_some, Option.bind_none, Option.map_some, Option.map_none, List.length_cons, List.length_nil, List.cons_append, List.nil_append, List.append_nil, if_true, if_false, ite_true, ite_false, Bool.false_eq_true, reduceIte, reduceCtorEq, List.map_cons, List.map_nil, Nat.sub_self, List.replicate_succ, List.replicate_zero, Nat.reduceSub, Nat.reduceAdd, Nat.reduceLT, Nat.reduceLeDiff, Nat.reduceEqDiff, Nat.reduceMul, Nat.reducePow, Int.reduceLT, Int.reduceLE, Int.reduceAdd, Int.reduceMul, Int.reduceSub, Int.reduceNeg, Int.reduceEq, Int.reducePow, Int.reduceMod, Int.reduceDiv, Int.reduceToNat, decide_true, decide_false, and_true, true_and, and_self, Option.some.injEq, h3])).trans ?_
  refine (seqS_nx h4).trans ?_
  simp only [seqS, ifS, setS, augS, dropS, retS, retN, nxS, bkS, ctS, asgS, subS, R.toS, R.bind, R.of, opF, unF, varF, cstF, chF, isB, asB, andT, orT, notT, andF, orF, notF, ifF, nilA, consA, tupF, lstF, cbF, callF, bmF', truT, truV, nameG, nilG, consG, tupG, List.set_cons_zero, List.set_cons_succ, List.getElem?_cons_zero, List.getElem?_cons_succ, Option.bind_some, Option.bind_none, Option.map_some, Option.map_none, List.length_cons, List.length_nil, List.cons_append, List.nil_append, List.append_nil, if_true, if_false, ite_true, ite_false, Bool.false_eq_true, reduceIte, reduceCtorEq, List.map_cons, List.map_nil, Nat.sub_self, List.replicate_succ, List.replicate_zero, Nat.reduceSub, Nat.reduceAdd, Nat.reduceLT, Nat.reduceLeDiff, Nat.reduceEqDiff, Nat.reduceMul, Nat.reducePow, Int.reduceLT, Int.reduceLE, Int.reduceAdd, Int.reduceMul, Int.reduceSub, Int.reduceNeg, Int.reduceEq, Int.reducePow, Int.reduceMod, Int.reduceDiv, Int.reduceToNat, decide_true, decide_false, and_true, true_and, and_self, Option.some.injEq]
theorem law_ok : ∀ ns : List Int, ns.length ≤ 63 → ∃ st, F_law_k14 [.frz (ns.map PV.int)] [] = .ok (.bl true) st := by
  intro ns hns
  obtain ⟨g, h⟩ := body_ok hns
  exact ⟨[], run_rt (g := g) h rfl⟩
end Pk14
theorem main_k14 : ∀ ns : List Int, ns.length ≤ 63 → ∃ st, F_law_k14 [.frz (ns.map PV.int)] [] = .ok (.bl true) st := Pk14.law_ok
end
end FL
end
open PySem PySem.W PyProof.Rows
set_option maxRecDepth 100000 in
set_option maxHeartbeats 0 in
theorem PySem.Challenge.cw_samewise_k14_sizes_and_trees_holds : PySem.Challenge.rw_samewise_k14_sizes_and_trees.Holds := by
  w_on; o_law; k_head; (case hw => w_witness2)
  k_fill
  refine L2.walk_of (l := PySem.Challenge.rw_samewise_k14_sizes_and_trees) (n := 63) (k := 67) (x := "_law_script") (CX := fun w => L2.CX PySem.Challenge.rw_samewise_k14_sizes_and_trees.prog w) (sp := fun w => FL.spTop _) rfl (by decide) rfl ⟨rfl, by decide, by decide⟩ (fun w h Y => PySem.W.kIn_of Y) ?F (fun _ _ a ns hl hO hS => ⟨a, ns, rfl, hl, hO, hS, fun _ => rfl⟩) (fun w H s e s' h => FL.top_cx _ w H s e s' h)
  case F =>
    intro w mg fa h KX G hmg
    refine' FL.Wk14.all_mk FL.main_k14 KX G hmg ?u_TooBig ?u_Full ?u_TooWide ?u_Apart ?u_NoRow ?u_NoRule ?u_NoTree ?u_SameError ?a0 ?l0 ?c0 ?k0 ?a1 ?l1 ?c1 ?k1 ?a2 ?l2 ?c2 ?k2 ?a3 ?l3 ?c3 ?k3 ?a4 ?l4 ?c4 ?k4 ?a5 ?l5 ?c5 ?k5 ?a6 ?l6 ?c6 ?k6 ?a7 ?l7 ?c7 ?k7 ?a8 ?l8 ?c8 ?k8 ?a9 ?l9 ?c9 ?k9 ?a10 ?l10 ?c10 ?k10 ?a11 ?l11 ?c11 ?k11 ?a12 ?l12 ?c12 ?k12 ?a13 ?l13 ?c13 ?k13 ?z_len ?z_range ?z_tuple ?z_min ?z_max ?z_sum ?z_isinstance ?z_ValueError ?z_list ?z_int ?z_bool ?xr1_TooBig ?xr2_TooBig ?xr3_TooBig ?xr4_TooBig ?xa_TooBig ?xb_TooBig ?xc_TooBig ?xd_TooBig ?xe_TooBig ?xg_TooBig ?xh_TooBig ?xv_TooBig ?xk_TooBig_SameError ?xm_TooBig_SameError ?xk_TooBig_NoTree ?xm_TooBig_NoTree ?xk_TooBig_NoRule ?xm_TooBig_NoRule ?xk_TooBig_NoRow ?xm_TooBig_NoRow ?xk_TooBig_Full ?xm_TooBig_Full ?xk_TooBig_Apart ?xm_TooBig_Apart ?xk_TooBig_TooBig ?xm_TooBig_TooBig ?xk_TooBig_TooWide ?xm_TooBig_TooWide
    (case u_TooBig => k_is); (case u_Full => k_is); (case u_TooWide => k_is); (case u_Apart => k_is); (case u_NoRow => k_is); (case u_NoRule => k_is); (case u_NoTree => k_is); (case u_SameError => k_is)
    (case a0 => k_is); (case l0 => k_is); (case c0 => k_is); (case k0 => k_is); (case a1 => k_is); (case l1 => k_is); (case c1 => k_is); (case k1 => k_is)
    (case a2 => k_is); (case l2 => k_is); (case c2 => k_is); (case k2 => k_is); (case a3 => k_is); (case l3 => k_is); (case c3 => k_is); (case k3 => k_is)
    (case a4 => k_is); (case l4 => k_is); (case c4 => k_is); (case k4 => k_is); (case a5 => k_is); (case l5 => k_is); (case c5 => k_is); (case k5 => k_is)
    (case a6 => k_is); (case l6 => k_is); (case c6 => k_is); (case k6 => k_is); (case a7 => k_is); (case l7 => k_is); (case c7 => k_is); (case k7 => k_is)
    (case a8 => k_is); (case l8 => k_is); (case c8 => k_is); (case k8 => k_is); (case a9 => k_is); (case l9 => k_is); (case c9 => k_is); (case k9 => k_is)
    (case a10 => k_is); (case l10 => k_is); (case c10 => k_is); (case k10 => k_is); (case a11 => k_is); (case l11 => k_is); (case c11 => k_is); (case k11 => k_is)
    (case a12 => k_is); (case l12 => k_is); (case c12 => k_is); (case k12 => k_is); (case a13 => k_is); (case l13 => k_is); (case c13 => k_is); (case k13 => k_is)
    (case z_len => k_is); (case z_range => k_is); (case z_tuple => k_is); (case z_min => k_is); (case z_max => k_is); (case z_sum => k_is); (case z_isinstance => k_is); (case z_ValueError => k_is)
    (case z_list => k_is); (case z_int => k_is); (case z_bool => k_is); (case xr1_TooBig => k_exc); (case xr2_TooBig => k_is); (case xr3_TooBig => k_is); (case xr4_TooBig => k_is); (case xa_TooBig => k_is)
    (case xb_TooBig => k_is); (case xc_TooBig => k_is); (case xd_TooBig => k_is); (case xe_TooBig => k_is); (case xg_TooBig => k_is); (case xh_TooBig => k_is); (case xv_TooBig => kit_is); (case xk_TooBig_SameError => kit_is)
    (case xm_TooBig_SameError => kts_exm); (case xk_TooBig_NoTree => kit_is); (case xm_TooBig_NoTree => kts_exm); (case xk_TooBig_NoRule => kit_is); (case xm_TooBig_NoRule => kts_exm); (case xk_TooBig_NoRow => kit_is); (case xm_TooBig_NoRow => kts_exm); (case xk_TooBig_Full => kit_is)
    (case xm_TooBig_Full => kts_exm); (case xk_TooBig_Apart => kit_is); (case xm_TooBig_Apart => kts_exm); (case xk_TooBig_TooBig => kit_is); (case xm_TooBig_TooBig => kts_exm); (case xk_TooBig_TooWide => kit_is); (case xm_TooBig_TooWide => kts_exm)
